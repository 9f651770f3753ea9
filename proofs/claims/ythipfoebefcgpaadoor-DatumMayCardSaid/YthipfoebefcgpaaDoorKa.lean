/- Contracts of the functions, first half. -/
import Derived.Test.YthipfoebefcgpaaDoorEx1
import Derived.Test.YthipfoebefcgpaaDoorProg
import Derived.KernelRfl
import Derived.Test.YthipfoebefcgpaaDoorEx3
import Derived.Shelf.Unicode.ValidAny
import Derived.Shelf.Utf8.RuneCount
import Derived.Ground.NamesProg
set_option linter.unusedVariables false
set_option linter.unusedSimpArgs false
/- The types of this translation as the executor wants them. By types.py. -/
namespace Go.Sy
open Go.Proofs
theorem D_ty2 : tyOf Tryd.prog 2 = some ⟨1, 8, false, [.int .i64 0], [], none, some .i64, true, .int⟩ := by kernel_rfl
theorem D_ty3 : tyOf Tryd.prog 3 = some ⟨1, 8, false, [.int .i64 0], [], none, some .i64, true, .int⟩ := by kernel_rfl
theorem D_ty4 : tyOf Tryd.prog 4 = some ⟨1, 1, false, [.bool false], [], none, none, true, .bool⟩ := by kernel_rfl
theorem D_ty5 : tyOf Tryd.prog 5 = some ⟨1, 1, false, [.int .u8 0], [], none, some .u8, true, .int⟩ := by kernel_rfl
theorem D_ty9 : tyOf Tryd.prog 9 = some ⟨1, 16, false, [.string ⟨#[]⟩], [], none, none, true, .str⟩ := by kernel_rfl
theorem D_ty12 : tyOf Tryd.prog 12 = some ⟨1, 8, false, [.int .u64 0], [], none, some .u64, true, .int⟩ := by kernel_rfl
theorem D_ty21 : tyOf Tryd.prog 21 = some ⟨1, 4, false, [.int .i32 0], [], none, some .i32, true, .int⟩ := by kernel_rfl
theorem D_ty22 : tyOf Tryd.prog 22 = some ⟨1, 24, false, [.slice none 0 0], [], some 79, none, true, .slice⟩ := by kernel_rfl
theorem D_ty24 : tyOf Tryd.prog 24 = some ⟨2, 32, true, [.bool false, .slice none 0 0], [(0, 1, false), (1, 1, false)], none, none, true, .other⟩ := by kernel_rfl
theorem D_ty25 : tyOf Tryd.prog 25 = some ⟨1, 24, false, [.slice none 0 0], [], some 27, none, true, .slice⟩ := by kernel_rfl
theorem D_ty27 : tyOf Tryd.prog 27 = some ⟨6, 88, true, [.int .i64 0, .int .i32 0, .bool false, .slice none 0 0, .string ⟨#[]⟩, .slice none 0 0], [(0, 1, false), (1, 1, false), (2, 2, true), (4, 1, false), (5, 1, false)], none, none, true, .other⟩ := by kernel_rfl
theorem D_ty28 : tyOf Tryd.prog 28 = some ⟨1, 8, false, [.nilFunc], [], none, none, true, .other⟩ := by kernel_rfl
theorem D_ty32 : tyOf Tryd.prog 32 = some ⟨1, 8, false, [.nilFunc], [], none, none, true, .other⟩ := by kernel_rfl
theorem D_ty46 : tyOf Tryd.prog 46 = some ⟨1, 24, false, [.slice none 0 0], [], some 50, none, true, .slice⟩ := by kernel_rfl
theorem D_ty48 : tyOf Tryd.prog 48 = some ⟨1, 24, false, [.slice none 0 0], [], some 9, none, true, .slice⟩ := by kernel_rfl
theorem D_ty50 : tyOf Tryd.prog 50 = some ⟨11, 176, true, [.int .i64 0, .string ⟨#[]⟩, .string ⟨#[]⟩, .slice none 0 0, .int .i64 0, .int .i32 0, .bool false, .slice none 0 0, .string ⟨#[]⟩, .slice none 0 0, .slice none 0 0], [(0, 1, false), (1, 1, false), (2, 1, false), (3, 1, false), (4, 6, true), (10, 1, false)], none, none, true, .other⟩ := by kernel_rfl
theorem D_ty52 : tyOf Tryd.prog 52 = some ⟨1, 8, false, [.nilFunc], [], none, none, true, .other⟩ := by kernel_rfl
theorem D_ty53 : tyOf Tryd.prog 53 = some ⟨1, 24, false, [.slice none 0 0], [], some 72, none, true, .slice⟩ := by kernel_rfl
theorem D_ty54 : tyOf Tryd.prog 54 = some ⟨1, 24, false, [.slice none 0 0], [], some 3, none, true, .slice⟩ := by kernel_rfl
theorem D_ty56 : tyOf Tryd.prog 56 = some ⟨5, 120, true, [.slice none 0 0, .slice none 0 0, .slice none 0 0, .slice none 0 0, .slice none 0 0], [(0, 1, false), (1, 1, false), (2, 1, false), (3, 1, false), (4, 1, false)], none, none, true, .other⟩ := by kernel_rfl
theorem D_ty57 : tyOf Tryd.prog 57 = some ⟨1, 8, false, [.int .i64 0], [], none, some .i64, true, .int⟩ := by kernel_rfl
theorem D_ty61 : tyOf Tryd.prog 61 = some ⟨1, 8, false, [.nilFunc], [], none, none, true, .other⟩ := by kernel_rfl
theorem D_ty70 : tyOf Tryd.prog 70 = some ⟨1, 24, false, [.slice none 0 0], [], some 4, none, true, .slice⟩ := by kernel_rfl
theorem D_ty72 : tyOf Tryd.prog 72 = some ⟨4, 48, true, [.int .i64 0, .int .i64 0, .int .i64 0, .slice none 0 0], [(0, 1, false), (1, 1, false), (2, 1, false), (3, 1, false)], none, none, true, .other⟩ := by kernel_rfl
theorem D_ty76 : tyOf Tryd.prog 76 = some ⟨1, 8, false, [.nilFunc], [], none, none, true, .other⟩ := by kernel_rfl
theorem D_ty77 : tyOf Tryd.prog 77 = some ⟨1, 8, false, [.nilFunc], [], none, none, true, .other⟩ := by kernel_rfl
theorem D_ty79 : tyOf Tryd.prog 79 = some ⟨1, 4, false, [.int .u32 0], [], none, some .u32, true, .int⟩ := by kernel_rfl
theorem D_ty80 : tyOf Tryd.prog 80 = some ⟨1, 8, false, [.int .u64 0], [], none, some .u64, true, .int⟩ := by kernel_rfl
theorem D_ty83 : tyOf Tryd.prog 83 = some ⟨1, 24, false, [.slice none 0 0], [], some 5, none, true, .slice⟩ := by kernel_rfl
theorem D_ty85 : tyOf Tryd.prog 85 = some ⟨2, 32, true, [.bool false, .slice none 0 0], [(0, 1, false), (1, 1, false)], none, none, true, .other⟩ := by kernel_rfl
theorem D_ty91 : tyOf Tryd.prog 91 = some ⟨1, 8, false, [.pointer none], [], none, none, true, .ptr⟩ := by kernel_rfl
theorem D_ty93 : tyOf Tryd.prog 93 = some ⟨5, 120, true, [.slice none 0 0, .slice none 0 0, .slice none 0 0, .slice none 0 0, .slice none 0 0], [(0, 5, true)], none, none, true, .other⟩ := by kernel_rfl
theorem D_ty104 : tyOf Tryd.prog 104 = some ⟨1, 24, false, [.slice none 0 0], [], some 21, none, true, .slice⟩ := by kernel_rfl
theorem D_ty108 : tyOf Tryd.prog 108 = some ⟨1, 8, false, [.nilFunc], [], none, none, true, .other⟩ := by kernel_rfl
theorem D_ty115 : tyOf Tryd.prog 115 = some ⟨1, 24, false, [.slice none 0 0], [], some 48, none, true, .slice⟩ := by kernel_rfl
theorem D_ty118 : tyOf Tryd.prog 118 = some ⟨1, 8, false, [.pointer none], [], none, none, true, .ptr⟩ := by kernel_rfl
theorem D_ty121 : tyOf Tryd.prog 121 = some ⟨2, 32, true, [.slice none 0 0, .pointer none], [(0, 1, false), (1, 1, false)], none, none, true, .other⟩ := by kernel_rfl
theorem D_ty134 : tyOf Tryd.prog 134 = some ⟨256, 256, true, [.int .u8 0, .int .u8 0, .int .u8 0, .int .u8 0, .int .u8 0, .int .u8 0, .int .u8 0, .int .u8 0, .int .u8 0, .int .u8 0, .int .u8 0, .int .u8 0, .int .u8 0, .int .u8 0, .int .u8 0, .int .u8 0, .int .u8 0, .int .u8 0, .int .u8 0, .int .u8 0, .int .u8 0, .int .u8 0, .int .u8 0, .int .u8 0, .int .u8 0, .int .u8 0, .int .u8 0, .int .u8 0, .int .u8 0, .int .u8 0, .int .u8 0, .int .u8 0, .int .u8 0, .int .u8 0, .int .u8 0, .int .u8 0, .int .u8 0, .int .u8 0, .int .u8 0, .int .u8 0, .int .u8 0, .int .u8 0, .int .u8 0, .int .u8 0, .int .u8 0, .int .u8 0, .int .u8 0, .int .u8 0, .int .u8 0, .int .u8 0, .int .u8 0, .int .u8 0, .int .u8 0, .int .u8 0, .int .u8 0, .int .u8 0, .int .u8 0, .int .u8 0, .int .u8 0, .int .u8 0, .int .u8 0, .int .u8 0, .int .u8 0, .int .u8 0, .int .u8 0, .int .u8 0, .int .u8 0, .int .u8 0, .int .u8 0, .int .u8 0, .int .u8 0, .int .u8 0, .int .u8 0, .int .u8 0, .int .u8 0, .int .u8 0, .int .u8 0, .int .u8 0, .int .u8 0, .int .u8 0, .int .u8 0, .int .u8 0, .int .u8 0, .int .u8 0, .int .u8 0, .int .u8 0, .int .u8 0, .int .u8 0, .int .u8 0, .int .u8 0, .int .u8 0, .int .u8 0, .int .u8 0, .int .u8 0, .int .u8 0, .int .u8 0, .int .u8 0, .int .u8 0, .int .u8 0, .int .u8 0, .int .u8 0, .int .u8 0, .int .u8 0, .int .u8 0, .int .u8 0, .int .u8 0, .int .u8 0, .int .u8 0, .int .u8 0, .int .u8 0, .int .u8 0, .int .u8 0, .int .u8 0, .int .u8 0, .int .u8 0, .int .u8 0, .int .u8 0, .int .u8 0, .int .u8 0, .int .u8 0, .int .u8 0, .int .u8 0, .int .u8 0, .int .u8 0, .int .u8 0, .int .u8 0, .int .u8 0, .int .u8 0, .int .u8 0, .int .u8 0, .int .u8 0, .int .u8 0, .int .u8 0, .int .u8 0, .int .u8 0, .int .u8 0, .int .u8 0, .int .u8 0, .int .u8 0, .int .u8 0, .int .u8 0, .int .u8 0, .int .u8 0, .int .u8 0, .int .u8 0, .int .u8 0, .int .u8 0, .int .u8 0, .int .u8 0, .int .u8 0, .int .u8 0, .int .u8 0, .int .u8 0, .int .u8 0, .int .u8 0, .int .u8 0, .int .u8 0, .int .u8 0, .int .u8 0, .int .u8 0, .int .u8 0, .int .u8 0, .int .u8 0, .int .u8 0, .int .u8 0, .int .u8 0, .int .u8 0, .int .u8 0, .int .u8 0, .int .u8 0, .int .u8 0, .int .u8 0, .int .u8 0, .int .u8 0, .int .u8 0, .int .u8 0, .int .u8 0, .int .u8 0, .int .u8 0, .int .u8 0, .int .u8 0, .int .u8 0, .int .u8 0, .int .u8 0, .int .u8 0, .int .u8 0, .int .u8 0, .int .u8 0, .int .u8 0, .int .u8 0, .int .u8 0, .int .u8 0, .int .u8 0, .int .u8 0, .int .u8 0, .int .u8 0, .int .u8 0, .int .u8 0, .int .u8 0, .int .u8 0, .int .u8 0, .int .u8 0, .int .u8 0, .int .u8 0, .int .u8 0, .int .u8 0, .int .u8 0, .int .u8 0, .int .u8 0, .int .u8 0, .int .u8 0, .int .u8 0, .int .u8 0, .int .u8 0, .int .u8 0, .int .u8 0, .int .u8 0, .int .u8 0, .int .u8 0, .int .u8 0, .int .u8 0, .int .u8 0, .int .u8 0, .int .u8 0, .int .u8 0, .int .u8 0, .int .u8 0, .int .u8 0, .int .u8 0, .int .u8 0, .int .u8 0, .int .u8 0, .int .u8 0, .int .u8 0, .int .u8 0, .int .u8 0, .int .u8 0, .int .u8 0, .int .u8 0, .int .u8 0, .int .u8 0, .int .u8 0, .int .u8 0, .int .u8 0, .int .u8 0, .int .u8 0, .int .u8 0, .int .u8 0, .int .u8 0, .int .u8 0, .int .u8 0, .int .u8 0, .int .u8 0, .int .u8 0, .int .u8 0, .int .u8 0], [], none, none, true, .other⟩ := by kernel_rfl
theorem D_ty136 : tyOf Tryd.prog 136 = some ⟨2, 2, true, [.int .u8 0, .int .u8 0], [(0, 1, false), (1, 1, false)], none, none, true, .other⟩ := by kernel_rfl
theorem D_ty137 : tyOf Tryd.prog 137 = some ⟨32, 32, true, [.int .u8 0, .int .u8 0, .int .u8 0, .int .u8 0, .int .u8 0, .int .u8 0, .int .u8 0, .int .u8 0, .int .u8 0, .int .u8 0, .int .u8 0, .int .u8 0, .int .u8 0, .int .u8 0, .int .u8 0, .int .u8 0, .int .u8 0, .int .u8 0, .int .u8 0, .int .u8 0, .int .u8 0, .int .u8 0, .int .u8 0, .int .u8 0, .int .u8 0, .int .u8 0, .int .u8 0, .int .u8 0, .int .u8 0, .int .u8 0, .int .u8 0, .int .u8 0], [], none, none, true, .other⟩ := by kernel_rfl
def D_T (t : Nat) : Option TyI := match t with
  | 2 => some ⟨1, 8, false, [.int .i64 0], [], none, some .i64, true, .int⟩
  | 3 => some ⟨1, 8, false, [.int .i64 0], [], none, some .i64, true, .int⟩
  | 4 => some ⟨1, 1, false, [.bool false], [], none, none, true, .bool⟩
  | 5 => some ⟨1, 1, false, [.int .u8 0], [], none, some .u8, true, .int⟩
  | 9 => some ⟨1, 16, false, [.string ⟨#[]⟩], [], none, none, true, .str⟩
  | 12 => some ⟨1, 8, false, [.int .u64 0], [], none, some .u64, true, .int⟩
  | 21 => some ⟨1, 4, false, [.int .i32 0], [], none, some .i32, true, .int⟩
  | 22 => some ⟨1, 24, false, [.slice none 0 0], [], some 79, none, true, .slice⟩
  | 24 => some ⟨2, 32, true, [.bool false, .slice none 0 0], [(0, 1, false), (1, 1, false)], none, none, true, .other⟩
  | 25 => some ⟨1, 24, false, [.slice none 0 0], [], some 27, none, true, .slice⟩
  | 27 => some ⟨6, 88, true, [.int .i64 0, .int .i32 0, .bool false, .slice none 0 0, .string ⟨#[]⟩, .slice none 0 0], [(0, 1, false), (1, 1, false), (2, 2, true), (4, 1, false), (5, 1, false)], none, none, true, .other⟩
  | 28 => some ⟨1, 8, false, [.nilFunc], [], none, none, true, .other⟩
  | 32 => some ⟨1, 8, false, [.nilFunc], [], none, none, true, .other⟩
  | 46 => some ⟨1, 24, false, [.slice none 0 0], [], some 50, none, true, .slice⟩
  | 48 => some ⟨1, 24, false, [.slice none 0 0], [], some 9, none, true, .slice⟩
  | 50 => some ⟨11, 176, true, [.int .i64 0, .string ⟨#[]⟩, .string ⟨#[]⟩, .slice none 0 0, .int .i64 0, .int .i32 0, .bool false, .slice none 0 0, .string ⟨#[]⟩, .slice none 0 0, .slice none 0 0], [(0, 1, false), (1, 1, false), (2, 1, false), (3, 1, false), (4, 6, true), (10, 1, false)], none, none, true, .other⟩
  | 52 => some ⟨1, 8, false, [.nilFunc], [], none, none, true, .other⟩
  | 53 => some ⟨1, 24, false, [.slice none 0 0], [], some 72, none, true, .slice⟩
  | 54 => some ⟨1, 24, false, [.slice none 0 0], [], some 3, none, true, .slice⟩
  | 56 => some ⟨5, 120, true, [.slice none 0 0, .slice none 0 0, .slice none 0 0, .slice none 0 0, .slice none 0 0], [(0, 1, false), (1, 1, false), (2, 1, false), (3, 1, false), (4, 1, false)], none, none, true, .other⟩
  | 57 => some ⟨1, 8, false, [.int .i64 0], [], none, some .i64, true, .int⟩
  | 61 => some ⟨1, 8, false, [.nilFunc], [], none, none, true, .other⟩
  | 70 => some ⟨1, 24, false, [.slice none 0 0], [], some 4, none, true, .slice⟩
  | 72 => some ⟨4, 48, true, [.int .i64 0, .int .i64 0, .int .i64 0, .slice none 0 0], [(0, 1, false), (1, 1, false), (2, 1, false), (3, 1, false)], none, none, true, .other⟩
  | 76 => some ⟨1, 8, false, [.nilFunc], [], none, none, true, .other⟩
  | 77 => some ⟨1, 8, false, [.nilFunc], [], none, none, true, .other⟩
  | 79 => some ⟨1, 4, false, [.int .u32 0], [], none, some .u32, true, .int⟩
  | 80 => some ⟨1, 8, false, [.int .u64 0], [], none, some .u64, true, .int⟩
  | 83 => some ⟨1, 24, false, [.slice none 0 0], [], some 5, none, true, .slice⟩
  | 85 => some ⟨2, 32, true, [.bool false, .slice none 0 0], [(0, 1, false), (1, 1, false)], none, none, true, .other⟩
  | 91 => some ⟨1, 8, false, [.pointer none], [], none, none, true, .ptr⟩
  | 93 => some ⟨5, 120, true, [.slice none 0 0, .slice none 0 0, .slice none 0 0, .slice none 0 0, .slice none 0 0], [(0, 5, true)], none, none, true, .other⟩
  | 104 => some ⟨1, 24, false, [.slice none 0 0], [], some 21, none, true, .slice⟩
  | 108 => some ⟨1, 8, false, [.nilFunc], [], none, none, true, .other⟩
  | 115 => some ⟨1, 24, false, [.slice none 0 0], [], some 48, none, true, .slice⟩
  | 118 => some ⟨1, 8, false, [.pointer none], [], none, none, true, .ptr⟩
  | 121 => some ⟨2, 32, true, [.slice none 0 0, .pointer none], [(0, 1, false), (1, 1, false)], none, none, true, .other⟩
  | 134 => some ⟨256, 256, true, [.int .u8 0, .int .u8 0, .int .u8 0, .int .u8 0, .int .u8 0, .int .u8 0, .int .u8 0, .int .u8 0, .int .u8 0, .int .u8 0, .int .u8 0, .int .u8 0, .int .u8 0, .int .u8 0, .int .u8 0, .int .u8 0, .int .u8 0, .int .u8 0, .int .u8 0, .int .u8 0, .int .u8 0, .int .u8 0, .int .u8 0, .int .u8 0, .int .u8 0, .int .u8 0, .int .u8 0, .int .u8 0, .int .u8 0, .int .u8 0, .int .u8 0, .int .u8 0, .int .u8 0, .int .u8 0, .int .u8 0, .int .u8 0, .int .u8 0, .int .u8 0, .int .u8 0, .int .u8 0, .int .u8 0, .int .u8 0, .int .u8 0, .int .u8 0, .int .u8 0, .int .u8 0, .int .u8 0, .int .u8 0, .int .u8 0, .int .u8 0, .int .u8 0, .int .u8 0, .int .u8 0, .int .u8 0, .int .u8 0, .int .u8 0, .int .u8 0, .int .u8 0, .int .u8 0, .int .u8 0, .int .u8 0, .int .u8 0, .int .u8 0, .int .u8 0, .int .u8 0, .int .u8 0, .int .u8 0, .int .u8 0, .int .u8 0, .int .u8 0, .int .u8 0, .int .u8 0, .int .u8 0, .int .u8 0, .int .u8 0, .int .u8 0, .int .u8 0, .int .u8 0, .int .u8 0, .int .u8 0, .int .u8 0, .int .u8 0, .int .u8 0, .int .u8 0, .int .u8 0, .int .u8 0, .int .u8 0, .int .u8 0, .int .u8 0, .int .u8 0, .int .u8 0, .int .u8 0, .int .u8 0, .int .u8 0, .int .u8 0, .int .u8 0, .int .u8 0, .int .u8 0, .int .u8 0, .int .u8 0, .int .u8 0, .int .u8 0, .int .u8 0, .int .u8 0, .int .u8 0, .int .u8 0, .int .u8 0, .int .u8 0, .int .u8 0, .int .u8 0, .int .u8 0, .int .u8 0, .int .u8 0, .int .u8 0, .int .u8 0, .int .u8 0, .int .u8 0, .int .u8 0, .int .u8 0, .int .u8 0, .int .u8 0, .int .u8 0, .int .u8 0, .int .u8 0, .int .u8 0, .int .u8 0, .int .u8 0, .int .u8 0, .int .u8 0, .int .u8 0, .int .u8 0, .int .u8 0, .int .u8 0, .int .u8 0, .int .u8 0, .int .u8 0, .int .u8 0, .int .u8 0, .int .u8 0, .int .u8 0, .int .u8 0, .int .u8 0, .int .u8 0, .int .u8 0, .int .u8 0, .int .u8 0, .int .u8 0, .int .u8 0, .int .u8 0, .int .u8 0, .int .u8 0, .int .u8 0, .int .u8 0, .int .u8 0, .int .u8 0, .int .u8 0, .int .u8 0, .int .u8 0, .int .u8 0, .int .u8 0, .int .u8 0, .int .u8 0, .int .u8 0, .int .u8 0, .int .u8 0, .int .u8 0, .int .u8 0, .int .u8 0, .int .u8 0, .int .u8 0, .int .u8 0, .int .u8 0, .int .u8 0, .int .u8 0, .int .u8 0, .int .u8 0, .int .u8 0, .int .u8 0, .int .u8 0, .int .u8 0, .int .u8 0, .int .u8 0, .int .u8 0, .int .u8 0, .int .u8 0, .int .u8 0, .int .u8 0, .int .u8 0, .int .u8 0, .int .u8 0, .int .u8 0, .int .u8 0, .int .u8 0, .int .u8 0, .int .u8 0, .int .u8 0, .int .u8 0, .int .u8 0, .int .u8 0, .int .u8 0, .int .u8 0, .int .u8 0, .int .u8 0, .int .u8 0, .int .u8 0, .int .u8 0, .int .u8 0, .int .u8 0, .int .u8 0, .int .u8 0, .int .u8 0, .int .u8 0, .int .u8 0, .int .u8 0, .int .u8 0, .int .u8 0, .int .u8 0, .int .u8 0, .int .u8 0, .int .u8 0, .int .u8 0, .int .u8 0, .int .u8 0, .int .u8 0, .int .u8 0, .int .u8 0, .int .u8 0, .int .u8 0, .int .u8 0, .int .u8 0, .int .u8 0, .int .u8 0, .int .u8 0, .int .u8 0, .int .u8 0, .int .u8 0, .int .u8 0, .int .u8 0, .int .u8 0, .int .u8 0, .int .u8 0, .int .u8 0, .int .u8 0, .int .u8 0, .int .u8 0, .int .u8 0, .int .u8 0, .int .u8 0, .int .u8 0, .int .u8 0, .int .u8 0, .int .u8 0, .int .u8 0, .int .u8 0, .int .u8 0, .int .u8 0], [], none, none, true, .other⟩
  | 136 => some ⟨2, 2, true, [.int .u8 0, .int .u8 0], [(0, 1, false), (1, 1, false)], none, none, true, .other⟩
  | 137 => some ⟨32, 32, true, [.int .u8 0, .int .u8 0, .int .u8 0, .int .u8 0, .int .u8 0, .int .u8 0, .int .u8 0, .int .u8 0, .int .u8 0, .int .u8 0, .int .u8 0, .int .u8 0, .int .u8 0, .int .u8 0, .int .u8 0, .int .u8 0, .int .u8 0, .int .u8 0, .int .u8 0, .int .u8 0, .int .u8 0, .int .u8 0, .int .u8 0, .int .u8 0, .int .u8 0, .int .u8 0, .int .u8 0, .int .u8 0, .int .u8 0, .int .u8 0, .int .u8 0, .int .u8 0], [], none, none, true, .other⟩
  | _ => none
theorem D_ok : ∀ (t : Nat) (i : TyI), D_T t = some i → tyOf Tryd.prog t = some i := by
  intro t i h
  unfold D_T at h
  split at h
  · cases h; exact D_ty2
  · cases h; exact D_ty3
  · cases h; exact D_ty4
  · cases h; exact D_ty5
  · cases h; exact D_ty9
  · cases h; exact D_ty12
  · cases h; exact D_ty21
  · cases h; exact D_ty22
  · cases h; exact D_ty24
  · cases h; exact D_ty25
  · cases h; exact D_ty27
  · cases h; exact D_ty28
  · cases h; exact D_ty32
  · cases h; exact D_ty46
  · cases h; exact D_ty48
  · cases h; exact D_ty50
  · cases h; exact D_ty52
  · cases h; exact D_ty53
  · cases h; exact D_ty54
  · cases h; exact D_ty56
  · cases h; exact D_ty57
  · cases h; exact D_ty61
  · cases h; exact D_ty70
  · cases h; exact D_ty72
  · cases h; exact D_ty76
  · cases h; exact D_ty77
  · cases h; exact D_ty79
  · cases h; exact D_ty80
  · cases h; exact D_ty83
  · cases h; exact D_ty85
  · cases h; exact D_ty91
  · cases h; exact D_ty93
  · cases h; exact D_ty104
  · cases h; exact D_ty108
  · cases h; exact D_ty115
  · cases h; exact D_ty118
  · cases h; exact D_ty121
  · cases h; exact D_ty134
  · cases h; exact D_ty136
  · cases h; exact D_ty137
  · cases h
theorem D_q2 : D_T 2 = some ⟨1, 8, false, [.int .i64 0], [], none, some .i64, true, .int⟩ := rfl
theorem D_q3 : D_T 3 = some ⟨1, 8, false, [.int .i64 0], [], none, some .i64, true, .int⟩ := rfl
theorem D_q4 : D_T 4 = some ⟨1, 1, false, [.bool false], [], none, none, true, .bool⟩ := rfl
theorem D_q5 : D_T 5 = some ⟨1, 1, false, [.int .u8 0], [], none, some .u8, true, .int⟩ := rfl
theorem D_q9 : D_T 9 = some ⟨1, 16, false, [.string ⟨#[]⟩], [], none, none, true, .str⟩ := rfl
theorem D_q12 : D_T 12 = some ⟨1, 8, false, [.int .u64 0], [], none, some .u64, true, .int⟩ := rfl
theorem D_q21 : D_T 21 = some ⟨1, 4, false, [.int .i32 0], [], none, some .i32, true, .int⟩ := rfl
theorem D_q22 : D_T 22 = some ⟨1, 24, false, [.slice none 0 0], [], some 79, none, true, .slice⟩ := rfl
theorem D_q24 : D_T 24 = some ⟨2, 32, true, [.bool false, .slice none 0 0], [(0, 1, false), (1, 1, false)], none, none, true, .other⟩ := rfl
theorem D_q25 : D_T 25 = some ⟨1, 24, false, [.slice none 0 0], [], some 27, none, true, .slice⟩ := rfl
theorem D_q27 : D_T 27 = some ⟨6, 88, true, [.int .i64 0, .int .i32 0, .bool false, .slice none 0 0, .string ⟨#[]⟩, .slice none 0 0], [(0, 1, false), (1, 1, false), (2, 2, true), (4, 1, false), (5, 1, false)], none, none, true, .other⟩ := rfl
theorem D_q28 : D_T 28 = some ⟨1, 8, false, [.nilFunc], [], none, none, true, .other⟩ := rfl
theorem D_q32 : D_T 32 = some ⟨1, 8, false, [.nilFunc], [], none, none, true, .other⟩ := rfl
theorem D_q46 : D_T 46 = some ⟨1, 24, false, [.slice none 0 0], [], some 50, none, true, .slice⟩ := rfl
theorem D_q48 : D_T 48 = some ⟨1, 24, false, [.slice none 0 0], [], some 9, none, true, .slice⟩ := rfl
theorem D_q50 : D_T 50 = some ⟨11, 176, true, [.int .i64 0, .string ⟨#[]⟩, .string ⟨#[]⟩, .slice none 0 0, .int .i64 0, .int .i32 0, .bool false, .slice none 0 0, .string ⟨#[]⟩, .slice none 0 0, .slice none 0 0], [(0, 1, false), (1, 1, false), (2, 1, false), (3, 1, false), (4, 6, true), (10, 1, false)], none, none, true, .other⟩ := rfl
theorem D_q52 : D_T 52 = some ⟨1, 8, false, [.nilFunc], [], none, none, true, .other⟩ := rfl
theorem D_q53 : D_T 53 = some ⟨1, 24, false, [.slice none 0 0], [], some 72, none, true, .slice⟩ := rfl
theorem D_q54 : D_T 54 = some ⟨1, 24, false, [.slice none 0 0], [], some 3, none, true, .slice⟩ := rfl
theorem D_q56 : D_T 56 = some ⟨5, 120, true, [.slice none 0 0, .slice none 0 0, .slice none 0 0, .slice none 0 0, .slice none 0 0], [(0, 1, false), (1, 1, false), (2, 1, false), (3, 1, false), (4, 1, false)], none, none, true, .other⟩ := rfl
theorem D_q57 : D_T 57 = some ⟨1, 8, false, [.int .i64 0], [], none, some .i64, true, .int⟩ := rfl
theorem D_q61 : D_T 61 = some ⟨1, 8, false, [.nilFunc], [], none, none, true, .other⟩ := rfl
theorem D_q70 : D_T 70 = some ⟨1, 24, false, [.slice none 0 0], [], some 4, none, true, .slice⟩ := rfl
theorem D_q72 : D_T 72 = some ⟨4, 48, true, [.int .i64 0, .int .i64 0, .int .i64 0, .slice none 0 0], [(0, 1, false), (1, 1, false), (2, 1, false), (3, 1, false)], none, none, true, .other⟩ := rfl
theorem D_q76 : D_T 76 = some ⟨1, 8, false, [.nilFunc], [], none, none, true, .other⟩ := rfl
theorem D_q77 : D_T 77 = some ⟨1, 8, false, [.nilFunc], [], none, none, true, .other⟩ := rfl
theorem D_q79 : D_T 79 = some ⟨1, 4, false, [.int .u32 0], [], none, some .u32, true, .int⟩ := rfl
theorem D_q80 : D_T 80 = some ⟨1, 8, false, [.int .u64 0], [], none, some .u64, true, .int⟩ := rfl
theorem D_q83 : D_T 83 = some ⟨1, 24, false, [.slice none 0 0], [], some 5, none, true, .slice⟩ := rfl
theorem D_q85 : D_T 85 = some ⟨2, 32, true, [.bool false, .slice none 0 0], [(0, 1, false), (1, 1, false)], none, none, true, .other⟩ := rfl
theorem D_q91 : D_T 91 = some ⟨1, 8, false, [.pointer none], [], none, none, true, .ptr⟩ := rfl
theorem D_q93 : D_T 93 = some ⟨5, 120, true, [.slice none 0 0, .slice none 0 0, .slice none 0 0, .slice none 0 0, .slice none 0 0], [(0, 5, true)], none, none, true, .other⟩ := rfl
theorem D_q104 : D_T 104 = some ⟨1, 24, false, [.slice none 0 0], [], some 21, none, true, .slice⟩ := rfl
theorem D_q108 : D_T 108 = some ⟨1, 8, false, [.nilFunc], [], none, none, true, .other⟩ := rfl
theorem D_q115 : D_T 115 = some ⟨1, 24, false, [.slice none 0 0], [], some 48, none, true, .slice⟩ := rfl
theorem D_q118 : D_T 118 = some ⟨1, 8, false, [.pointer none], [], none, none, true, .ptr⟩ := rfl
theorem D_q121 : D_T 121 = some ⟨2, 32, true, [.slice none 0 0, .pointer none], [(0, 1, false), (1, 1, false)], none, none, true, .other⟩ := rfl
theorem D_q134 : D_T 134 = some ⟨256, 256, true, [.int .u8 0, .int .u8 0, .int .u8 0, .int .u8 0, .int .u8 0, .int .u8 0, .int .u8 0, .int .u8 0, .int .u8 0, .int .u8 0, .int .u8 0, .int .u8 0, .int .u8 0, .int .u8 0, .int .u8 0, .int .u8 0, .int .u8 0, .int .u8 0, .int .u8 0, .int .u8 0, .int .u8 0, .int .u8 0, .int .u8 0, .int .u8 0, .int .u8 0, .int .u8 0, .int .u8 0, .int .u8 0, .int .u8 0, .int .u8 0, .int .u8 0, .int .u8 0, .int .u8 0, .int .u8 0, .int .u8 0, .int .u8 0, .int .u8 0, .int .u8 0, .int .u8 0, .int .u8 0, .int .u8 0, .int .u8 0, .int .u8 0, .int .u8 0, .int .u8 0, .int .u8 0, .int .u8 0, .int .u8 0, .int .u8 0, .int .u8 0, .int .u8 0, .int .u8 0, .int .u8 0, .int .u8 0, .int .u8 0, .int .u8 0, .int .u8 0, .int .u8 0, .int .u8 0, .int .u8 0, .int .u8 0, .int .u8 0, .int .u8 0, .int .u8 0, .int .u8 0, .int .u8 0, .int .u8 0, .int .u8 0, .int .u8 0, .int .u8 0, .int .u8 0, .int .u8 0, .int .u8 0, .int .u8 0, .int .u8 0, .int .u8 0, .int .u8 0, .int .u8 0, .int .u8 0, .int .u8 0, .int .u8 0, .int .u8 0, .int .u8 0, .int .u8 0, .int .u8 0, .int .u8 0, .int .u8 0, .int .u8 0, .int .u8 0, .int .u8 0, .int .u8 0, .int .u8 0, .int .u8 0, .int .u8 0, .int .u8 0, .int .u8 0, .int .u8 0, .int .u8 0, .int .u8 0, .int .u8 0, .int .u8 0, .int .u8 0, .int .u8 0, .int .u8 0, .int .u8 0, .int .u8 0, .int .u8 0, .int .u8 0, .int .u8 0, .int .u8 0, .int .u8 0, .int .u8 0, .int .u8 0, .int .u8 0, .int .u8 0, .int .u8 0, .int .u8 0, .int .u8 0, .int .u8 0, .int .u8 0, .int .u8 0, .int .u8 0, .int .u8 0, .int .u8 0, .int .u8 0, .int .u8 0, .int .u8 0, .int .u8 0, .int .u8 0, .int .u8 0, .int .u8 0, .int .u8 0, .int .u8 0, .int .u8 0, .int .u8 0, .int .u8 0, .int .u8 0, .int .u8 0, .int .u8 0, .int .u8 0, .int .u8 0, .int .u8 0, .int .u8 0, .int .u8 0, .int .u8 0, .int .u8 0, .int .u8 0, .int .u8 0, .int .u8 0, .int .u8 0, .int .u8 0, .int .u8 0, .int .u8 0, .int .u8 0, .int .u8 0, .int .u8 0, .int .u8 0, .int .u8 0, .int .u8 0, .int .u8 0, .int .u8 0, .int .u8 0, .int .u8 0, .int .u8 0, .int .u8 0, .int .u8 0, .int .u8 0, .int .u8 0, .int .u8 0, .int .u8 0, .int .u8 0, .int .u8 0, .int .u8 0, .int .u8 0, .int .u8 0, .int .u8 0, .int .u8 0, .int .u8 0, .int .u8 0, .int .u8 0, .int .u8 0, .int .u8 0, .int .u8 0, .int .u8 0, .int .u8 0, .int .u8 0, .int .u8 0, .int .u8 0, .int .u8 0, .int .u8 0, .int .u8 0, .int .u8 0, .int .u8 0, .int .u8 0, .int .u8 0, .int .u8 0, .int .u8 0, .int .u8 0, .int .u8 0, .int .u8 0, .int .u8 0, .int .u8 0, .int .u8 0, .int .u8 0, .int .u8 0, .int .u8 0, .int .u8 0, .int .u8 0, .int .u8 0, .int .u8 0, .int .u8 0, .int .u8 0, .int .u8 0, .int .u8 0, .int .u8 0, .int .u8 0, .int .u8 0, .int .u8 0, .int .u8 0, .int .u8 0, .int .u8 0, .int .u8 0, .int .u8 0, .int .u8 0, .int .u8 0, .int .u8 0, .int .u8 0, .int .u8 0, .int .u8 0, .int .u8 0, .int .u8 0, .int .u8 0, .int .u8 0, .int .u8 0, .int .u8 0, .int .u8 0, .int .u8 0, .int .u8 0, .int .u8 0, .int .u8 0, .int .u8 0, .int .u8 0, .int .u8 0, .int .u8 0, .int .u8 0, .int .u8 0, .int .u8 0, .int .u8 0, .int .u8 0, .int .u8 0, .int .u8 0, .int .u8 0, .int .u8 0, .int .u8 0, .int .u8 0, .int .u8 0], [], none, none, true, .other⟩ := rfl
theorem D_q136 : D_T 136 = some ⟨2, 2, true, [.int .u8 0, .int .u8 0], [(0, 1, false), (1, 1, false)], none, none, true, .other⟩ := rfl
theorem D_q137 : D_T 137 = some ⟨32, 32, true, [.int .u8 0, .int .u8 0, .int .u8 0, .int .u8 0, .int .u8 0, .int .u8 0, .int .u8 0, .int .u8 0, .int .u8 0, .int .u8 0, .int .u8 0, .int .u8 0, .int .u8 0, .int .u8 0, .int .u8 0, .int .u8 0, .int .u8 0, .int .u8 0, .int .u8 0, .int .u8 0, .int .u8 0, .int .u8 0, .int .u8 0, .int .u8 0, .int .u8 0, .int .u8 0, .int .u8 0, .int .u8 0, .int .u8 0, .int .u8 0, .int .u8 0, .int .u8 0], [], none, none, true, .other⟩ := rfl
end Go.Sy

/- The context of this translation. By gen.py. -/
namespace Go.Sy
open Go.Proofs
noncomputable abbrev CD (W0 : World) (κ : Nat → Addr) (GG : Nat → Option AV) : Ctx := ⟨Tryd.prog, D_T, W0, κ, GG, Mode.plain⟩
theorem D_mix : Tryd.prog.follows .mixedOrders = true := by kernel_rfl
end Go.Sy

/-
  DERIVED: THE SHELF's CONTRACTS AT THIS DUMP, IN PLAIN WORDS (tools/lay-plain.mjs out of 'SyVsD.lean', which tools/lay-shelf.mjs wrote): THE SAME DECLARATIONS UNDER THE SAME NAMES: 'import', 'namespace', 'open', 'def', 'theorem' AND NOTHING ELSE: no command of the shelf's: FOR A HAND-IN. Each laying: the table of numbers ('.._ren') and one theorem, a field a fact of the dump's own or the kernel's comparison; each contract: ONE APPLICATION.
-/
namespace Go.Proofs
open Go.Shelf
def Tryd.laysValid_ren : Go.Shelf.Ren := ⟨fun | 196 => 101 | 259 => 110 | n => n, fun | 9 => 9 | 4 => 4 | 3 => 3 | 5 => 5 | 12 => 12 | 119 => 134 | 0 => 0 | 46 => 87 | 139 => 137 | 138 => 136 | 53 => 80 | n => n, fun | 3 => 0 | 4 => 1 | n => n⟩
theorem Tryd.laysValid : Go.Proofs.Lays.n196 Tryd.prog Tryd.laysValid_ren := {
  mixed := by kernel_rfl
  f196 := Tryd.func101.trans (congrArg some (by kernel_rfl))
  f259 := Tryd.func110.trans (congrArg some (by kernel_rfl))
  t0 := Tryd.underlying0
  a0 := Tryd.isAgg0
  z0 := Tryd.sizeOf0
  v0 := Tryd.zeroValue0
  t3 := Tryd.underlying3
  a3 := Tryd.isAgg3
  z3 := Tryd.sizeOf3
  v3 := Tryd.zeroValue3
  t4 := Tryd.underlying4
  a4 := Tryd.isAgg4
  z4 := Tryd.sizeOf4
  v4 := Tryd.zeroValue4
  t5 := Tryd.underlying5
  a5 := Tryd.isAgg5
  z5 := Tryd.sizeOf5
  v5 := Tryd.zeroValue5
  t9 := Tryd.underlying9
  a9 := Tryd.isAgg9
  z9 := Tryd.sizeOf9
  v9 := Tryd.zeroValue9
  t12 := Tryd.underlying12
  a12 := Tryd.isAgg12
  z12 := Tryd.sizeOf12
  v12 := Tryd.zeroValue12
  t46 := Tryd.underlying87
  a46 := Tryd.isAgg87
  z46 := Tryd.sizeOf87
  v46 := Tryd.zeroValue87
  t53 := Tryd.underlying80
  a53 := Tryd.isAgg80
  z53 := Tryd.sizeOf80
  v53 := Tryd.zeroValue80
  t119 := Tryd.underlying134
  a119 := Tryd.isAgg134
  z119 := Tryd.sizeOf134
  t138 := Tryd.underlying136
  a138 := Tryd.isAgg136
  z138 := Tryd.sizeOf136
  v138 := Tryd.zeroValue136
  t139 := Tryd.underlying137
  a139 := Tryd.isAgg137
  z139 := Tryd.sizeOf137
  v139 := Tryd.zeroValue137
  g3 := by kernel_rfl
  g4 := by kernel_rfl }
def Tryd.laysCount_ren : Go.Shelf.Ren := ⟨fun | 195 => 100 | n => n, fun | 9 => 9 | 3 => 3 | 0 => 0 | 4 => 4 | n => n, fun | n => n⟩
theorem Tryd.laysCount : Go.Proofs.Lays.n195 Tryd.prog Tryd.laysCount_ren := {
  mixed := by kernel_rfl
  f195 := Tryd.func100.trans (congrArg some (by kernel_rfl))
  t0 := Tryd.underlying0
  a0 := Tryd.isAgg0
  z0 := Tryd.sizeOf0
  v0 := Tryd.zeroValue0
  t3 := Tryd.underlying3
  a3 := Tryd.isAgg3
  z3 := Tryd.sizeOf3
  v3 := Tryd.zeroValue3
  t4 := Tryd.underlying4
  a4 := Tryd.isAgg4
  z4 := Tryd.sizeOf4
  v4 := Tryd.zeroValue4
  t9 := Tryd.underlying9
  a9 := Tryd.isAgg9
  z9 := Tryd.sizeOf9
  v9 := Tryd.zeroValue9 }
end Go.Proofs

/- The library's words on texts, laid at this translation. -/
set_option linter.unusedVariables false
namespace Go.Sy
open Go.Proofs Go.RowKit Go.Shelf Go.Lib
/-- The tables of utf8, as they lie when the call begins. -/
def D_Tabs (w : World) : Prop := Lib.Utf8Tabs (Tryd.laysValid_ren.g 3) (Tryd.laysValid_ren.g 4) w
section
variable {W0 : World} {κ : Nat → Addr} {GG : Nat → Option AV}
theorem D_valid (hU : D_Tabs W0) (s : ByteArray) (hs : s.size < 1099511627776) : Sound (CD W0 κ GG) 101 [.v (.string s)] [.av (.v (.bool (Lib.validD s.data.toList)))] := by
  refine Sound.of_string (by kernel_rfl) fun w hW => ?_
  exact Any.utf8_ValidString Tryd.laysValid s w (by omega) (Utf8Tabs_below hU hW)
theorem D_rcount (s : ByteArray) (hs : s.size < 1099511627776) : Sound (CD W0 κ GG) 100 [.v (.string s)] [.av (.v (.int .i64 (Lib.runeCount s : Nat)))] := by
  refine Sound.of_string (by kernel_rfl) fun w hW => (Any.utf8_RuneCountInString Tryd.laysCount s w (by omega)).mono ?_
  rintro e w' ⟨rfl, pos, rfl⟩
  exact ⟨rfl, (Below.refl _ _).alloc (Nat.le_refl _) _⟩
end
end Go.Sy

/- Contracts of the program's functions over abstract values. By gen.py. -/
set_option linter.unusedVariables false
set_option linter.unusedSimpArgs false
set_option maxRecDepth 100000
set_option maxHeartbeats 4000000
namespace Go.Sy
open Go.Proofs
attribute [local go_sem] runO_t runO_f band_t band_f bor_t bor_f bnot_t bnot_f gdK_tt gdK_ff gdK_tf gdK_ft brK_t brK_f runE_some runF_some runA_some runG_some runB_some runX_some runR_some run_nil run_skip run_seq run_region run_block run_blk run_exit run_cond run_ret run_loop run_lp run_opsNil run_opsOrd run_opsOp run_opsGuard run_cl run_gd run_br run_fin run_clx run_fst run_callf runY_t runY_f runS_some runV_t runV_f aBuildK_t aBuildK_f Mode.plain run_move run_nilCheck run_assign run_pick run_alloc run_box run_build run_buildSlice run_load run_store run_binOp run_unOp run_convert run_slice run_fieldAddr run_indexAddr run_index run_field run_extract run_makeInterface run_makeFunc run_len run_max run_min run_append St.ev St.evl St.evs St.evo capsOf callOf look drop put putAll toTV_nil toTV_int toTV_bool toTV_str toTV_ptr toTV_ifc toTV_fn toAV_nil toAV_int toAV_bool toAV_str toAV_ptr toAV_ifc toAV_fn aAssign_nil aAssign_tmp aAssign_int aAssign_bool aAssign_str aAssign_ptr aAssign_nilf aAssign_ifc aAssign_func aAssign_glob nilConst_slice nilConst_ptr nilConst_ifc nilConst_tmp plain Option.bind TV.cells TV.one AVone_v AVone_sl AVone_agg AVone_ref AVone_fn AVone_ifc AVone_sent Value.oneCell' oneVs avOf avsOf expo expos expoC exposC TV.isC allC fillsT aBuildT lendR ren renT0 renC renT renO renW xFoot xSt newIds retX retXs isT0 asList List.map St.app setD St.setT ownD trA effFoot callFoot callSt callReq St.fresh freshT freshO allFresh TV.ment TVs.ment SObj.ment fsts mentW noFoot List.contains List.elem aPick aAlloc aBox aBuild aBuildSlice nonNil allSz aUn aConv aField aIndex aByte aPart aExtract aIface aFunc aLen ty1 aMax aApp aAppend aCheck emptyL aSlice okHd hdOK_nil hdOK_cons aLoad aStore aBin aNil sBin sInt isSh sameSh nilness fills fillAt fillTV putCells intOf? mkInt AVcells_v AVcells_sl AVcells_agg AVcells_ref AVcells_fn AVcells_ifc AVcells_sent St.g0 St.g guardOf guardOff udf argsOf lends lendBox bindRes bindR bindRs flatR flatV boolOf retItems retItems0 retItem rowsOf disjB ownIds resIds nodupB St.init initT popTo cond_true cond_false Option.getD Option.map List.take List.drop List.length List.zip List.zipWith List.range List.range.loop List.append List.foldr List.nil_append List.cons_append List.append_nil List.getElem?_cons_zero List.getElem?_cons_succ GetElem?.getElem? List.get?Internal Int.toNat_natCast cst0 cst1 cst2 cst3 cst4 cst5 cst6 cst7 cst8 cst9 cst10 cst11 toNat0 toNat1 toNat2 toNat3 getD0 getD1 getD2 getD3 run_zero memN keepT dropO St.re leT leO D_q2  D_q3  D_q4  D_q5  D_q9  D_q12  D_q21  D_q22  D_q24  D_q25  D_q27  D_q28  D_q32  D_q46  D_q48  D_q50  D_q52  D_q53  D_q54  D_q56  D_q57  D_q61  D_q70  D_q72  D_q76  D_q77  D_q79  D_q80  D_q83  D_q85  D_q91  D_q93  D_q104  D_q108  D_q115  D_q118  D_q121  D_q134  D_q136  D_q137
section
variable {W0 : World} {κ : Nat → Addr} {GG : Nat → Option AV}

theorem D_eqU (a b : List Int) (ha : a.length < 1099511627776) : Sound (CD W0 κ GG) 81 [.sl (encU a), .sl (encU b)] [.av (.v (.bool (decide (a = b))))] := by
  (refine Sound.of_go D_ok D_mix Tryd.func81 rfl (by decide) (by kernel_rfl) (GC.go ?_); refine GC_run2 4000 ?_; dsimp only [Tryd.f81, CD, go_sem, Nat.reduceBEq, Nat.reduceAdd, Nat.reduceMul, Nat.reduceSub, Int.reduceBEq, Int.reduceBNe, Int.reduceAdd, Int.reduceSub, Int.reduceMul, Int.reduceToNat, Int.reduceNeg, encD])
  (refine GC_brK (fun h => ?_) (fun h => ?_) <;> (dsimp only [go_sem, Nat.reduceBEq, Nat.reduceAdd, Nat.reduceMul, Nat.reduceSub, Int.reduceBEq, Int.reduceBNe, Int.reduceAdd, Int.reduceSub, Int.reduceMul, Int.reduceToNat, Int.reduceNeg]))
  · refine GC.finE (by first | rfl | (simp; done) | (simp [hdOK_encU, hdOK_encL, allSz_encU, allSz_encL, encU_length, encL_length, encD_one, encD_cells, AVone_v, AVone_sl, AVone_agg, AVone_ref, AVone_fn, AVone_ifc, AVcells_v, AVcells_sl, AVcells_agg, AVcells_ref, AVcells_fn, AVcells_ifc, Value.oneCell', allSz]; done) | (simp [hdOK_encU, hdOK_encL, allSz_encU, allSz_encL, encU_length, encL_length, encD_one, encD_cells, AVone_v, AVone_sl, AVone_agg, AVone_ref, AVone_fn, AVone_ifc, AVcells_v, AVcells_sl, AVcells_agg, AVcells_ref, AVcells_fn, AVcells_ifc, Value.oneCell', allSz]; omega)) ?_
    simp [encU_length] at h ⊢
    intro e; subst e; exact h rfl
  · simp [encU_length] at h
    have hl := encU_length a
    have hl2 := encU_length b
    refine GC.loopR rfl (encU a).length [0, 1, 12] (fun j => [(13, .av (.v (.int .i64 (j : Int))))]) (fun j => []) (fun j => a.take j = b.take j) ⟨rfl, trivial⟩ trivial rfl (fun j hj hI => ?_)
    rcases Nat.lt_or_ge j a.length with hlt | hge
    · have hd := dec_lt (show j < (encU a).length by omega)
      have hx : (encU a).getD j dflt = _ := encU_get hlt
      have hy : (encU b).getD j dflt = _ := encU_get (show j < b.length by omega)
      (refine GC_run2 4000 ?_; dsimp only [go_sem, Nat.reduceBEq, Nat.reduceAdd, Nat.reduceMul, Nat.reduceSub, Int.reduceBEq, Int.reduceBNe, Int.reduceAdd, Int.reduceSub, Int.reduceMul, Int.reduceToNat, Int.reduceNeg])
      (repeat (simp only [hd, hx, hy]; try (dsimp only [go_sem, Nat.reduceBEq, Nat.reduceAdd, Nat.reduceMul, Nat.reduceSub, Int.reduceBEq, Int.reduceBNe, Int.reduceAdd, Int.reduceSub, Int.reduceMul, Int.reduceToNat, Int.reduceNeg])))
      (refine GC.ord (by first | rfl | (simp; done) | (simp [hdOK_encU, hdOK_encL, allSz_encU, allSz_encL, encU_length, encL_length, encD_one, encD_cells, AVone_v, AVone_sl, AVone_agg, AVone_ref, AVone_fn, AVone_ifc, AVcells_v, AVcells_sl, AVcells_agg, AVcells_ref, AVcells_fn, AVcells_ifc, Value.oneCell', allSz]; done) | (simp [hdOK_encU, hdOK_encL, allSz_encU, allSz_encL, encU_length, encL_length, encD_one, encD_cells, AVone_v, AVone_sl, AVone_agg, AVone_ref, AVone_fn, AVone_ifc, AVcells_v, AVcells_sl, AVcells_agg, AVcells_ref, AVcells_fn, AVcells_ifc, Value.oneCell', allSz]; omega)) (by kernel_rfl) (by kernel_rfl) ?_; refine GC_run2 4000 ?_; dsimp only [go_sem, Nat.reduceBEq, Nat.reduceAdd, Nat.reduceMul, Nat.reduceSub, Int.reduceBEq, Int.reduceBNe, Int.reduceAdd, Int.reduceSub, Int.reduceMul, Int.reduceToNat, Int.reduceNeg])
      (refine GC_brK (fun h => ?_) (fun h => ?_) <;> (dsimp only [go_sem, Nat.reduceBEq, Nat.reduceAdd, Nat.reduceMul, Nat.reduceSub, Int.reduceBEq, Int.reduceBNe, Int.reduceAdd, Int.reduceSub, Int.reduceMul, Int.reduceToNat, Int.reduceNeg]))
      · refine GC.finE (by first | rfl | (simp; done) | (simp [hdOK_encU, hdOK_encL, allSz_encU, allSz_encL, encU_length, encL_length, encD_one, encD_cells, AVone_v, AVone_sl, AVone_agg, AVone_ref, AVone_fn, AVone_ifc, AVcells_v, AVcells_sl, AVcells_agg, AVcells_ref, AVcells_fn, AVcells_ifc, Value.oneCell', allSz]; done) | (simp [hdOK_encU, hdOK_encL, allSz_encU, allSz_encL, encU_length, encL_length, encD_one, encD_cells, AVone_v, AVone_sl, AVone_agg, AVone_ref, AVone_fn, AVone_ifc, AVcells_v, AVcells_sl, AVcells_agg, AVcells_ref, AVcells_fn, AVcells_ifc, Value.oneCell', allSz]; omega)) ?_
        have : a ≠ b := getD_ne hlt (by omega) (by simpa using h)
        simp [this]
      · refine GC.backR rfl (by omega) ?_ ⟨?_, rfl, rfl, rfl, trivial⟩ trivial
        · exact take_step hlt (by omega) hI (by simpa using h)
        · exact congrArg (fun n => some (TV.av (.v (.int .i64 n)))) (wrap_nat j (by omega))
    · have hd := dec_ge (show (encU a).length ≤ j by omega)
      (refine GC_run2 4000 ?_; dsimp only [go_sem, Nat.reduceBEq, Nat.reduceAdd, Nat.reduceMul, Nat.reduceSub, Int.reduceBEq, Int.reduceBNe, Int.reduceAdd, Int.reduceSub, Int.reduceMul, Int.reduceToNat, Int.reduceNeg])
      (repeat (simp only [hd]; try (dsimp only [go_sem, Nat.reduceBEq, Nat.reduceAdd, Nat.reduceMul, Nat.reduceSub, Int.reduceBEq, Int.reduceBNe, Int.reduceAdd, Int.reduceSub, Int.reduceMul, Int.reduceToNat, Int.reduceNeg])))
      refine GC.finE (by first | rfl | (simp; done) | (simp [hdOK_encU, hdOK_encL, allSz_encU, allSz_encL, encU_length, encL_length, encD_one, encD_cells, AVone_v, AVone_sl, AVone_agg, AVone_ref, AVone_fn, AVone_ifc, AVcells_v, AVcells_sl, AVcells_agg, AVcells_ref, AVcells_fn, AVcells_ifc, Value.oneCell', allSz]; done) | (simp [hdOK_encU, hdOK_encL, allSz_encU, allSz_encL, encU_length, encL_length, encD_one, encD_cells, AVone_v, AVone_sl, AVone_agg, AVone_ref, AVone_fn, AVone_ifc, AVcells_v, AVcells_sl, AVcells_agg, AVcells_ref, AVcells_fn, AVcells_ifc, Value.oneCell', allSz]; omega)) ?_
      have : j = a.length := by omega
      subst this
      have : a = b := eq_of_upto (by omega) hI
      simp [this]

theorem D_flat (a b : Dat) (ha : fine a) (hb : fine b) : Sound (CD W0 κ GG) 53 [encD a, encD b] [.av (.v (.bool (flatD a b)))] := by
  obtain ⟨k, c, neg, mag, t, l⟩ := a
  obtain ⟨k', c', neg', mag', t', l'⟩ := b
  have hm := ha.mag
  (refine Sound.of_go D_ok D_mix Tryd.func53 rfl (by decide) (by kernel_rfl) (GC.go ?_); refine GC_run2 4000 ?_; dsimp only [Tryd.f53, CD, go_sem, Nat.reduceBEq, Nat.reduceAdd, Nat.reduceMul, Nat.reduceSub, Int.reduceBEq, Int.reduceBNe, Int.reduceAdd, Int.reduceSub, Int.reduceMul, Int.reduceToNat, Int.reduceNeg, encD])
  repeat' (first | (first | (refine GC_gdK (fun h => ?_) (fun h => ?_) <;> (dsimp only [go_sem, Nat.reduceBEq, Nat.reduceAdd, Nat.reduceMul, Nat.reduceSub, Int.reduceBEq, Int.reduceBNe, Int.reduceAdd, Int.reduceSub, Int.reduceMul, Int.reduceToNat, Int.reduceNeg])) | (refine GC_brK (fun h => ?_) (fun h => ?_) <;> (dsimp only [go_sem, Nat.reduceBEq, Nat.reduceAdd, Nat.reduceMul, Nat.reduceSub, Int.reduceBEq, Int.reduceBNe, Int.reduceAdd, Int.reduceSub, Int.reduceMul, Int.reduceToNat, Int.reduceNeg]))) | (refine GC.call (by first | rfl | (simp; done) | (simp [hdOK_encU, hdOK_encL, allSz_encU, allSz_encL, encU_length, encL_length, encD_one, encD_cells, AVone_v, AVone_sl, AVone_agg, AVone_ref, AVone_fn, AVone_ifc, AVcells_v, AVcells_sl, AVcells_agg, AVcells_ref, AVcells_fn, AVcells_ifc, Value.oneCell', allSz]; done) | (simp [hdOK_encU, hdOK_encL, allSz_encU, allSz_encL, encU_length, encL_length, encD_one, encD_cells, AVone_v, AVone_sl, AVone_agg, AVone_ref, AVone_fn, AVone_ifc, AVcells_v, AVcells_sl, AVcells_agg, AVcells_ref, AVcells_fn, AVcells_ifc, Value.oneCell', allSz]; omega)) (D_eqU _ _ hm) ?_; refine GC_run2 4000 ?_; dsimp only [go_sem, Nat.reduceBEq, Nat.reduceAdd, Nat.reduceMul, Nat.reduceSub, Int.reduceBEq, Int.reduceBNe, Int.reduceAdd, Int.reduceSub, Int.reduceMul, Int.reduceToNat, Int.reduceNeg]))
  all_goals
    refine GC.finE (by first | rfl | (simp; done) | (simp [hdOK_encU, hdOK_encL, allSz_encU, allSz_encL, encU_length, encL_length, encD_one, encD_cells, AVone_v, AVone_sl, AVone_agg, AVone_ref, AVone_fn, AVone_ifc, AVcells_v, AVcells_sl, AVcells_agg, AVcells_ref, AVcells_fn, AVcells_ifc, Value.oneCell', allSz]; done) | (simp [hdOK_encU, hdOK_encL, allSz_encU, allSz_encL, encU_length, encL_length, encD_one, encD_cells, AVone_v, AVone_sl, AVone_agg, AVone_ref, AVone_fn, AVone_ifc, AVcells_v, AVcells_sl, AVcells_agg, AVcells_ref, AVcells_fn, AVcells_ifc, Value.oneCell', allSz]; omega)) ?_
    simp [flatD, encL_length, beq_len, *]
end
end Go.Sy

/- Contracts of the program's functions over abstract values. By gen.py. -/
set_option linter.unusedVariables false
set_option linter.unusedSimpArgs false
set_option maxRecDepth 100000
set_option maxHeartbeats 4000000
namespace Go.Sy
open Go.Proofs
attribute [local go_sem] runO_t runO_f band_t band_f bor_t bor_f bnot_t bnot_f gdK_tt gdK_ff gdK_tf gdK_ft brK_t brK_f runE_some runF_some runA_some runG_some runB_some runX_some runR_some run_nil run_skip run_seq run_region run_block run_blk run_exit run_cond run_ret run_loop run_lp run_opsNil run_opsOrd run_opsOp run_opsGuard run_cl run_gd run_br run_fin run_clx run_fst run_callf runY_t runY_f runS_some runV_t runV_f aBuildK_t aBuildK_f Mode.plain run_move run_nilCheck run_assign run_pick run_alloc run_box run_build run_buildSlice run_load run_store run_binOp run_unOp run_convert run_slice run_fieldAddr run_indexAddr run_index run_field run_extract run_makeInterface run_makeFunc run_len run_max run_min run_append St.ev St.evl St.evs St.evo capsOf callOf look drop put putAll toTV_nil toTV_int toTV_bool toTV_str toTV_ptr toTV_ifc toTV_fn toAV_nil toAV_int toAV_bool toAV_str toAV_ptr toAV_ifc toAV_fn aAssign_nil aAssign_tmp aAssign_int aAssign_bool aAssign_str aAssign_ptr aAssign_nilf aAssign_ifc aAssign_func aAssign_glob nilConst_slice nilConst_ptr nilConst_ifc nilConst_tmp plain Option.bind TV.cells TV.one AVone_v AVone_sl AVone_agg AVone_ref AVone_fn AVone_ifc AVone_sent Value.oneCell' oneVs avOf avsOf expo expos expoC exposC TV.isC allC fillsT aBuildT lendR ren renT0 renC renT renO renW xFoot xSt newIds retX retXs isT0 asList List.map St.app setD St.setT ownD trA effFoot callFoot callSt callReq St.fresh freshT freshO allFresh TV.ment TVs.ment SObj.ment fsts mentW noFoot List.contains List.elem aPick aAlloc aBox aBuild aBuildSlice nonNil allSz aUn aConv aField aIndex aByte aPart aExtract aIface aFunc aLen ty1 aMax aApp aAppend aCheck emptyL aSlice okHd hdOK_nil hdOK_cons aLoad aStore aBin aNil sBin sInt isSh sameSh nilness fills fillAt fillTV putCells intOf? mkInt AVcells_v AVcells_sl AVcells_agg AVcells_ref AVcells_fn AVcells_ifc AVcells_sent St.g0 St.g guardOf guardOff udf argsOf lends lendBox bindRes bindR bindRs flatR flatV boolOf retItems retItems0 retItem rowsOf disjB ownIds resIds nodupB St.init initT popTo cond_true cond_false Option.getD Option.map List.take List.drop List.length List.zip List.zipWith List.range List.range.loop List.append List.foldr List.nil_append List.cons_append List.append_nil List.getElem?_cons_zero List.getElem?_cons_succ GetElem?.getElem? List.get?Internal Int.toNat_natCast cst0 cst1 cst2 cst3 cst4 cst5 cst6 cst7 cst8 cst9 cst10 cst11 toNat0 toNat1 toNat2 toNat3 getD0 getD1 getD2 getD3 run_zero memN keepT dropO St.re leT leO D_q2  D_q3  D_q4  D_q5  D_q9  D_q12  D_q21  D_q22  D_q24  D_q25  D_q27  D_q28  D_q32  D_q46  D_q48  D_q50  D_q52  D_q53  D_q54  D_q56  D_q57  D_q61  D_q70  D_q72  D_q76  D_q77  D_q79  D_q80  D_q83  D_q85  D_q91  D_q93  D_q104  D_q108  D_q115  D_q118  D_q121  D_q134  D_q136  D_q137
section
variable {W0 : World} {κ : Nat → Addr} {GG : Nat → Option AV}

theorem D_count : ∀ (n : Nat) (d : Dat), cnt d ≤ n → fine d → Sound (CD W0 κ GG) 22 [encD d] [.av (.v (.int .i64 (cnt d : Nat)))]
  | 0, d, h, _ => absurd h (by have := cnt_pos d; omega)
  | n + 1, .mk k c neg mag t l, hn, hf => by
    have hll := encL_length l
    have hlen := hf.len
    simp only [cnt] at hn
    (refine Sound.of_go D_ok D_mix Tryd.func22 rfl (by decide) (by kernel_rfl) (GC.go ?_); refine GC_run2 4000 ?_; dsimp only [Tryd.f22, CD, go_sem, Nat.reduceBEq, Nat.reduceAdd, Nat.reduceMul, Nat.reduceSub, Int.reduceBEq, Int.reduceBNe, Int.reduceAdd, Int.reduceSub, Int.reduceMul, Int.reduceToNat, Int.reduceNeg, encD])
    refine GC.loopR (by first | rfl | (simp; done) | (simp [hdOK_encU, hdOK_encL, allSz_encU, allSz_encL, encU_length, encL_length, encD_one, encD_cells, AVone_v, AVone_sl, AVone_agg, AVone_ref, AVone_fn, AVone_ifc, AVcells_v, AVcells_sl, AVcells_agg, AVcells_ref, AVcells_fn, AVcells_ifc, Value.oneCell', allSz]; done) | (simp [hdOK_encU, hdOK_encL, allSz_encU, allSz_encL, encU_length, encL_length, encD_one, encD_cells, AVone_v, AVone_sl, AVone_agg, AVone_ref, AVone_fn, AVone_ifc, AVcells_v, AVcells_sl, AVcells_agg, AVcells_ref, AVcells_fn, AVcells_ifc, Value.oneCell', allSz]; omega)) (encL l).length [7, 8] (fun j => [(3, .av (.v (.int .i64 (cpre l j : Nat)))), (9, .av (.v (.int .i64 (j : Nat))))]) (fun j => []) (fun j => True) ⟨?_, rfl, trivial⟩ trivial trivial (fun j hj _ => ?_)
    · simp [cpre, look, cntL]
    rcases Nat.lt_or_ge j l.length with hlt | hge
    · have hd := dec_lt (show j < (encL l).length by omega)
      have hx : (encL l).getD j dflt = _ := encL_get hlt
      have hmem : l[j] ∈ l := List.getElem_mem hlt
      have hc := cntL_get hmem
      have hs := D_count n l[j] (by omega) (hf.sub hmem)
      have hstep := cpre_step hlt
      have hle := cpre_le l (j + 1)
      have hfc := hf.1
      simp only [cnt] at hfc
      generalize l[j] = x at hx hs hstep
      obtain ⟨xk, xc, xneg, xmag, xt, xl⟩ := x
      simp only [encD] at hx
      (refine GC_run2 4000 ?_; dsimp only [go_sem, Nat.reduceBEq, Nat.reduceAdd, Nat.reduceMul, Nat.reduceSub, Int.reduceBEq, Int.reduceBNe, Int.reduceAdd, Int.reduceSub, Int.reduceMul, Int.reduceToNat, Int.reduceNeg])
      (repeat (simp only [hd, hx]; try (dsimp only [go_sem, Nat.reduceBEq, Nat.reduceAdd, Nat.reduceMul, Nat.reduceSub, Int.reduceBEq, Int.reduceBNe, Int.reduceAdd, Int.reduceSub, Int.reduceMul, Int.reduceToNat, Int.reduceNeg])))
      (refine GC.call (by first | rfl | (simp; done) | (simp [hdOK_encU, hdOK_encL, allSz_encU, allSz_encL, encU_length, encL_length, encD_one, encD_cells, AVone_v, AVone_sl, AVone_agg, AVone_ref, AVone_fn, AVone_ifc, AVcells_v, AVcells_sl, AVcells_agg, AVcells_ref, AVcells_fn, AVcells_ifc, Value.oneCell', allSz]; done) | (simp [hdOK_encU, hdOK_encL, allSz_encU, allSz_encL, encU_length, encL_length, encD_one, encD_cells, AVone_v, AVone_sl, AVone_agg, AVone_ref, AVone_fn, AVone_ifc, AVcells_v, AVcells_sl, AVcells_agg, AVcells_ref, AVcells_fn, AVcells_ifc, Value.oneCell', allSz]; omega)) (hs) ?_; refine GC_run2 4000 ?_; dsimp only [go_sem, Nat.reduceBEq, Nat.reduceAdd, Nat.reduceMul, Nat.reduceSub, Int.reduceBEq, Int.reduceBNe, Int.reduceAdd, Int.reduceSub, Int.reduceMul, Int.reduceToNat, Int.reduceNeg])
      refine GC.backR (by first | rfl | (simp; done) | (simp [hdOK_encU, hdOK_encL, allSz_encU, allSz_encL, encU_length, encL_length, encD_one, encD_cells, AVone_v, AVone_sl, AVone_agg, AVone_ref, AVone_fn, AVone_ifc, AVcells_v, AVcells_sl, AVcells_agg, AVcells_ref, AVcells_fn, AVcells_ifc, Value.oneCell', allSz]; done) | (simp [hdOK_encU, hdOK_encL, allSz_encU, allSz_encL, encU_length, encL_length, encD_one, encD_cells, AVone_v, AVone_sl, AVone_agg, AVone_ref, AVone_fn, AVone_ifc, AVcells_v, AVcells_sl, AVcells_agg, AVcells_ref, AVcells_fn, AVcells_ifc, Value.oneCell', allSz]; omega)) (by omega) trivial ⟨?_, ?_, rfl, rfl, trivial⟩ ⟨rfl, trivial⟩
      · refine congrArg (fun n => some (TV.av (.v (.int .i64 n)))) ?_
        rw [wrap_i64 (by omega) (by omega), hstep]
        omega
      · exact congrArg (fun n => some (TV.av (.v (.int .i64 n)))) (wrap_nat j (by omega))
    · have hd := dec_ge (show (encL l).length ≤ j by omega)
      have : j = l.length := by omega
      subst this
      (refine GC_run2 4000 ?_; dsimp only [go_sem, Nat.reduceBEq, Nat.reduceAdd, Nat.reduceMul, Nat.reduceSub, Int.reduceBEq, Int.reduceBNe, Int.reduceAdd, Int.reduceSub, Int.reduceMul, Int.reduceToNat, Int.reduceNeg])
      (repeat (simp only [hd]; try (dsimp only [go_sem, Nat.reduceBEq, Nat.reduceAdd, Nat.reduceMul, Nat.reduceSub, Int.reduceBEq, Int.reduceBNe, Int.reduceAdd, Int.reduceSub, Int.reduceMul, Int.reduceToNat, Int.reduceNeg])))
      refine GC.finE (by first | rfl | (simp; done) | (simp [hdOK_encU, hdOK_encL, allSz_encU, allSz_encL, encU_length, encL_length, encD_one, encD_cells, AVone_v, AVone_sl, AVone_agg, AVone_ref, AVone_fn, AVone_ifc, AVcells_v, AVcells_sl, AVcells_agg, AVcells_ref, AVcells_fn, AVcells_ifc, Value.oneCell', allSz]; done) | (simp [hdOK_encU, hdOK_encL, allSz_encU, allSz_encL, encU_length, encL_length, encD_one, encD_cells, AVone_v, AVone_sl, AVone_agg, AVone_ref, AVone_fn, AVone_ifc, AVcells_v, AVcells_sl, AVcells_agg, AVcells_ref, AVcells_fn, AVcells_ifc, Value.oneCell', allSz]; omega)) ?_
      simp [cnt, cpre_all]

theorem D_rcount3 : ∀ (n : Nat) (d : Dat), cnt d ≤ n → fine d → Sound (CD W0 κ GG) 23 [encD d] [.av (.v (.int .i64 (cnt d : Nat)))]
  | 0, d, h, _ => absurd h (by have := cnt_pos d; omega)
  | n + 1, .mk k c neg mag t l, hn, hf => by
    have hll := encL_length l
    have hlen := hf.len
    simp only [cnt] at hn
    (refine Sound.of_go D_ok D_mix Tryd.func23 rfl (by decide) (by kernel_rfl) (GC.go ?_); refine GC_run2 4000 ?_; dsimp only [Tryd.f23, CD, go_sem, Nat.reduceBEq, Nat.reduceAdd, Nat.reduceMul, Nat.reduceSub, Int.reduceBEq, Int.reduceBNe, Int.reduceAdd, Int.reduceSub, Int.reduceMul, Int.reduceToNat, Int.reduceNeg, encD])
    refine GC.loopR (by first | rfl | (simp; done) | (simp [hdOK_encU, hdOK_encL, allSz_encU, allSz_encL, encU_length, encL_length, encD_one, encD_cells, AVone_v, AVone_sl, AVone_agg, AVone_ref, AVone_fn, AVone_ifc, AVcells_v, AVcells_sl, AVcells_agg, AVcells_ref, AVcells_fn, AVcells_ifc, Value.oneCell', allSz]; done) | (simp [hdOK_encU, hdOK_encL, allSz_encU, allSz_encL, encU_length, encL_length, encD_one, encD_cells, AVone_v, AVone_sl, AVone_agg, AVone_ref, AVone_fn, AVone_ifc, AVcells_v, AVcells_sl, AVcells_agg, AVcells_ref, AVcells_fn, AVcells_ifc, Value.oneCell', allSz]; omega)) (encL l).length [1] (fun j => [(3, .av (.v (.int .i64 (cpre l j : Nat)))), (4, .av (.v (.int .i64 (j : Nat))))]) (fun j => []) (fun j => True) ⟨?_, rfl, trivial⟩ trivial trivial (fun j hj _ => ?_)
    · simp [cpre, look, cntL]
    rcases Nat.lt_or_ge j l.length with hlt | hge
    · have hd := dec_lt (show j < (encL l).length by omega)
      have hx : (encL l).getD j dflt = _ := encL_get hlt
      have hmem : l[j] ∈ l := List.getElem_mem hlt
      have hc := cntL_get hmem
      have hs := D_rcount3 n l[j] (by omega) (hf.sub hmem)
      have hstep := cpre_step hlt
      have hle := cpre_le l (j + 1)
      have hfc := hf.1
      simp only [cnt] at hfc
      generalize l[j] = x at hx hs hstep
      obtain ⟨xk, xc, xneg, xmag, xt, xl⟩ := x
      simp only [encD] at hx
      (refine GC_run2 4000 ?_; dsimp only [go_sem, Nat.reduceBEq, Nat.reduceAdd, Nat.reduceMul, Nat.reduceSub, Int.reduceBEq, Int.reduceBNe, Int.reduceAdd, Int.reduceSub, Int.reduceMul, Int.reduceToNat, Int.reduceNeg])
      (repeat (simp only [hd, hx]; try (dsimp only [go_sem, Nat.reduceBEq, Nat.reduceAdd, Nat.reduceMul, Nat.reduceSub, Int.reduceBEq, Int.reduceBNe, Int.reduceAdd, Int.reduceSub, Int.reduceMul, Int.reduceToNat, Int.reduceNeg])))
      (refine GC.call (by first | rfl | (simp; done) | (simp [hdOK_encU, hdOK_encL, allSz_encU, allSz_encL, encU_length, encL_length, encD_one, encD_cells, AVone_v, AVone_sl, AVone_agg, AVone_ref, AVone_fn, AVone_ifc, AVcells_v, AVcells_sl, AVcells_agg, AVcells_ref, AVcells_fn, AVcells_ifc, Value.oneCell', allSz]; done) | (simp [hdOK_encU, hdOK_encL, allSz_encU, allSz_encL, encU_length, encL_length, encD_one, encD_cells, AVone_v, AVone_sl, AVone_agg, AVone_ref, AVone_fn, AVone_ifc, AVcells_v, AVcells_sl, AVcells_agg, AVcells_ref, AVcells_fn, AVcells_ifc, Value.oneCell', allSz]; omega)) (hs) ?_; refine GC_run2 4000 ?_; dsimp only [go_sem, Nat.reduceBEq, Nat.reduceAdd, Nat.reduceMul, Nat.reduceSub, Int.reduceBEq, Int.reduceBNe, Int.reduceAdd, Int.reduceSub, Int.reduceMul, Int.reduceToNat, Int.reduceNeg])
      refine GC.backR (by first | rfl | (simp; done) | (simp [hdOK_encU, hdOK_encL, allSz_encU, allSz_encL, encU_length, encL_length, encD_one, encD_cells, AVone_v, AVone_sl, AVone_agg, AVone_ref, AVone_fn, AVone_ifc, AVcells_v, AVcells_sl, AVcells_agg, AVcells_ref, AVcells_fn, AVcells_ifc, Value.oneCell', allSz]; done) | (simp [hdOK_encU, hdOK_encL, allSz_encU, allSz_encL, encU_length, encL_length, encD_one, encD_cells, AVone_v, AVone_sl, AVone_agg, AVone_ref, AVone_fn, AVone_ifc, AVcells_v, AVcells_sl, AVcells_agg, AVcells_ref, AVcells_fn, AVcells_ifc, Value.oneCell', allSz]; omega)) (by omega) trivial ⟨?_, ?_, rfl, trivial⟩ ⟨rfl, trivial⟩
      · refine congrArg (fun n => some (TV.av (.v (.int .i64 n)))) ?_
        rw [wrap_i64 (by omega) (by omega), hstep]
        omega
      · exact congrArg (fun n => some (TV.av (.v (.int .i64 n)))) (wrap_nat j (by omega))
    · have hd := dec_ge (show (encL l).length ≤ j by omega)
      have : j = l.length := by omega
      subst this
      (refine GC_run2 4000 ?_; dsimp only [go_sem, Nat.reduceBEq, Nat.reduceAdd, Nat.reduceMul, Nat.reduceSub, Int.reduceBEq, Int.reduceBNe, Int.reduceAdd, Int.reduceSub, Int.reduceMul, Int.reduceToNat, Int.reduceNeg])
      (repeat (simp only [hd]; try (dsimp only [go_sem, Nat.reduceBEq, Nat.reduceAdd, Nat.reduceMul, Nat.reduceSub, Int.reduceBEq, Int.reduceBNe, Int.reduceAdd, Int.reduceSub, Int.reduceMul, Int.reduceToNat, Int.reduceNeg])))
      refine GC.finE (by first | rfl | (simp; done) | (simp [hdOK_encU, hdOK_encL, allSz_encU, allSz_encL, encU_length, encL_length, encD_one, encD_cells, AVone_v, AVone_sl, AVone_agg, AVone_ref, AVone_fn, AVone_ifc, AVcells_v, AVcells_sl, AVcells_agg, AVcells_ref, AVcells_fn, AVcells_ifc, Value.oneCell', allSz]; done) | (simp [hdOK_encU, hdOK_encL, allSz_encU, allSz_encL, encU_length, encL_length, encD_one, encD_cells, AVone_v, AVone_sl, AVone_agg, AVone_ref, AVone_fn, AVone_ifc, AVcells_v, AVcells_sl, AVcells_agg, AVcells_ref, AVcells_fn, AVcells_ifc, Value.oneCell', allSz]; omega)) ?_
      simp [cnt, cpre_all]

theorem ditm_at {k : Int} {l : List Dat} {j : Nat} (h : j < l.length) : (k = 7 ∧ j + 1 = l.length ∧ (l[j]).kind = 7 ∧ ditm k l j = depthD l[j]) ∨ (¬ (k = 7 ∧ j + 1 = l.length ∧ (l[j]).kind = 7) ∧ ditm k l j = depthD l[j] + 1) := by
  simp only [ditm, h, List.getElem?_eq_getElem]
  by_cases hc : k = 7 ∧ j + 1 = l.length ∧ (l[j]).kind = 7
  · left; simp [hc]
  · right; simp [hc]
theorem dpre_step (k : Int) (l : List Dat) (z j : Nat) : dpre k l z (j + 1) = max (dpre k l z j) (ditm k l j) := rfl
theorem max_nat (a b : Nat) : (if (b : Int) > (a : Int) then (b : Int) else (a : Int)) = ((max a b : Nat) : Int) := by
  split <;> omega
theorem D_depth : ∀ (n : Nat) (d : Dat), cnt d ≤ n → fine d → Sound (CD W0 κ GG) 20 [encD d] [.av (.v (.int .i64 (depthD d : Nat)))]
  | 0, d, h, _ => absurd h (by have := cnt_pos d; omega)
  | n + 1, .mk k c neg mag t l, hn, hf => by
    have hll := encL_length l
    have hlen := hf.len
    simp only [cnt] at hn
    obtain ⟨z, hz⟩ : ∃ z : Nat, z = if k = 8 then 1 else 0 := ⟨_, rfl⟩
    have hz1 : z ≤ 1 := by rw [hz]; split <;> omega
    have hdep : depthD (.mk k c neg mag t l) = dpre k l z l.length := by rw [dpre_all, depthD, hz]
    rw [hdep]
    (refine Sound.of_go D_ok D_mix Tryd.func20 rfl (by decide) (by kernel_rfl) (GC.go ?_); refine GC_run2 4000 ?_; dsimp only [Tryd.f20, CD, go_sem, Nat.reduceBEq, Nat.reduceAdd, Nat.reduceMul, Nat.reduceSub, Int.reduceBEq, Int.reduceBNe, Int.reduceAdd, Int.reduceSub, Int.reduceMul, Int.reduceToNat, Int.reduceNeg, encD])
    (refine GC_brK (fun h => ?_) (fun h => ?_) <;> (dsimp only [go_sem, Nat.reduceBEq, Nat.reduceAdd, Nat.reduceMul, Nat.reduceSub, Int.reduceBEq, Int.reduceBNe, Int.reduceAdd, Int.reduceSub, Int.reduceMul, Int.reduceToNat, Int.reduceNeg]))
    all_goals
      refine GC.loopR (by first | rfl | (simp; done) | (simp [hdOK_encU, hdOK_encL, allSz_encU, allSz_encL, encU_length, encL_length, encD_one, encD_cells, AVone_v, AVone_sl, AVone_agg, AVone_ref, AVone_fn, AVone_ifc, AVcells_v, AVcells_sl, AVcells_agg, AVcells_ref, AVcells_fn, AVcells_ifc, Value.oneCell', allSz]; done) | (simp [hdOK_encU, hdOK_encL, allSz_encU, allSz_encL, encU_length, encL_length, encD_one, encD_cells, AVone_v, AVone_sl, AVone_agg, AVone_ref, AVone_fn, AVone_ifc, AVcells_v, AVcells_sl, AVcells_agg, AVcells_ref, AVcells_fn, AVcells_ifc, Value.oneCell', allSz]; omega)) (encL l).length [1, 11, 12] (fun j => [(3, .av (.v (.int .i64 (dpre k l z j : Nat)))), (13, .av (.v (.int .i64 (j : Nat))))]) (fun j => []) (fun j => True) ⟨?_, rfl, trivial⟩ trivial trivial (fun j hj _ => ?_)
      · simp at h
        simp [look, dpre, hz, h]
      rcases Nat.lt_or_ge j l.length with hlt | hge
      · have hd := dec_lt (show j < (encL l).length by omega)
        have hx : (encL l).getD j dflt = _ := encL_get hlt
        have hmem : l[j] ∈ l := List.getElem_mem hlt
        have hc := cntL_get hmem
        have hs := D_depth n l[j] (by omega) (hf.sub hmem)
        have hit := ditm_at (k := k) hlt
        have hle := ditm_le k l j
        have hle2 := dpre_le k l z hz1 j
        have hstep := dpre_step k l z j
        have hfc := hf.1
        simp only [cnt] at hfc
        generalize l[j] = x at hx hs hit
        obtain ⟨xk, xc, xneg, xmag, xt, xl⟩ := x
        simp only [encD] at hx
        (refine GC_run2 4000 ?_; dsimp only [go_sem, Nat.reduceBEq, Nat.reduceAdd, Nat.reduceMul, Nat.reduceSub, Int.reduceBEq, Int.reduceBNe, Int.reduceAdd, Int.reduceSub, Int.reduceMul, Int.reduceToNat, Int.reduceNeg])
        (repeat (simp only [hd, hx]; try (dsimp only [go_sem, Nat.reduceBEq, Nat.reduceAdd, Nat.reduceMul, Nat.reduceSub, Int.reduceBEq, Int.reduceBNe, Int.reduceAdd, Int.reduceSub, Int.reduceMul, Int.reduceToNat, Int.reduceNeg])))
        (refine GC.call (by first | rfl | (simp; done) | (simp [hdOK_encU, hdOK_encL, allSz_encU, allSz_encL, encU_length, encL_length, encD_one, encD_cells, AVone_v, AVone_sl, AVone_agg, AVone_ref, AVone_fn, AVone_ifc, AVcells_v, AVcells_sl, AVcells_agg, AVcells_ref, AVcells_fn, AVcells_ifc, Value.oneCell', allSz]; done) | (simp [hdOK_encU, hdOK_encL, allSz_encU, allSz_encL, encU_length, encL_length, encD_one, encD_cells, AVone_v, AVone_sl, AVone_agg, AVone_ref, AVone_fn, AVone_ifc, AVcells_v, AVcells_sl, AVcells_agg, AVcells_ref, AVcells_fn, AVcells_ifc, Value.oneCell', allSz]; omega)) (hs) ?_; refine GC_run2 4000 ?_; dsimp only [go_sem, Nat.reduceBEq, Nat.reduceAdd, Nat.reduceMul, Nat.reduceSub, Int.reduceBEq, Int.reduceBNe, Int.reduceAdd, Int.reduceSub, Int.reduceMul, Int.reduceToNat, Int.reduceNeg])
        have hw := wrap_nat j (by omega)
        have hw2 : IntKind.i64.wrap ((depthD (.mk xk xc xneg xmag xt xl) : Nat) + 1) = ((depthD (.mk xk xc xneg xmag xt xl) + 1 : Nat) : Int) := wrap_nat _ (by omega)
        repeat' (first | (first | (refine GC_gdK (fun h => ?_) (fun h => ?_) <;> (dsimp only [go_sem, Nat.reduceBEq, Nat.reduceAdd, Nat.reduceMul, Nat.reduceSub, Int.reduceBEq, Int.reduceBNe, Int.reduceAdd, Int.reduceSub, Int.reduceMul, Int.reduceToNat, Int.reduceNeg])) | (refine GC_brK (fun h => ?_) (fun h => ?_) <;> (dsimp only [go_sem, Nat.reduceBEq, Nat.reduceAdd, Nat.reduceMul, Nat.reduceSub, Int.reduceBEq, Int.reduceBNe, Int.reduceAdd, Int.reduceSub, Int.reduceMul, Int.reduceToNat, Int.reduceNeg]))) | (simp only [hw, hw2]; (dsimp only [go_sem, Nat.reduceBEq, Nat.reduceAdd, Nat.reduceMul, Nat.reduceSub, Int.reduceBEq, Int.reduceBNe, Int.reduceAdd, Int.reduceSub, Int.reduceMul, Int.reduceToNat, Int.reduceNeg])))
        all_goals
          refine GC.backR (by first | rfl | (simp; done) | (simp [hdOK_encU, hdOK_encL, allSz_encU, allSz_encL, encU_length, encL_length, encD_one, encD_cells, AVone_v, AVone_sl, AVone_agg, AVone_ref, AVone_fn, AVone_ifc, AVcells_v, AVcells_sl, AVcells_agg, AVcells_ref, AVcells_fn, AVcells_ifc, Value.oneCell', allSz]; done) | (simp [hdOK_encU, hdOK_encL, allSz_encU, allSz_encL, encU_length, encL_length, encD_one, encD_cells, AVone_v, AVone_sl, AVone_agg, AVone_ref, AVone_fn, AVone_ifc, AVcells_v, AVcells_sl, AVcells_agg, AVcells_ref, AVcells_fn, AVcells_ifc, Value.oneCell', allSz]; omega)) (by omega) trivial ⟨?_, ?_, rfl, rfl, rfl, trivial⟩ ⟨rfl, trivial⟩
          · refine congrArg (fun n => some (TV.av (.v (.int .i64 n)))) ?_
            rw [hstep]
            simp only [Dat.kind] at hit
            have hcast : ((dpre k l z j : Nat) : Int) = dpre k l z j := rfl
            simp only [bne_iff_ne, ne_eq, decide_eq_true_eq, decide_eq_false_iff_not, Bool.not_true, Bool.not_false, bne_eq_false_iff_eq, hw, hll] at *
            rcases hit with ⟨q1, q2, q3, q4⟩ | ⟨q1, q4⟩ <;> rw [q4] <;> split <;> omega
          · exact congrArg (fun n => some (TV.av (.v (.int .i64 n)))) (wrap_nat j (by omega))
      · have hd := dec_ge (show (encL l).length ≤ j by omega)
        have : j = l.length := by omega
        subst this
        (refine GC_run2 4000 ?_; dsimp only [go_sem, Nat.reduceBEq, Nat.reduceAdd, Nat.reduceMul, Nat.reduceSub, Int.reduceBEq, Int.reduceBNe, Int.reduceAdd, Int.reduceSub, Int.reduceMul, Int.reduceToNat, Int.reduceNeg])
        (repeat (simp only [hd]; try (dsimp only [go_sem, Nat.reduceBEq, Nat.reduceAdd, Nat.reduceMul, Nat.reduceSub, Int.reduceBEq, Int.reduceBNe, Int.reduceAdd, Int.reduceSub, Int.reduceMul, Int.reduceToNat, Int.reduceNeg])))
        refine GC.finE (by first | rfl | (simp; done) | (simp [hdOK_encU, hdOK_encL, allSz_encU, allSz_encL, encU_length, encL_length, encD_one, encD_cells, AVone_v, AVone_sl, AVone_agg, AVone_ref, AVone_fn, AVone_ifc, AVcells_v, AVcells_sl, AVcells_agg, AVcells_ref, AVcells_fn, AVcells_ifc, Value.oneCell', allSz]; done) | (simp [hdOK_encU, hdOK_encL, allSz_encU, allSz_encL, encU_length, encL_length, encD_one, encD_cells, AVone_v, AVone_sl, AVone_agg, AVone_ref, AVone_fn, AVone_ifc, AVcells_v, AVcells_sl, AVcells_agg, AVcells_ref, AVcells_fn, AVcells_ifc, Value.oneCell', allSz]; omega)) ?_
        rfl
end
end Go.Sy

/- Contracts of the program's functions over abstract values. By gen.py. -/
set_option linter.unusedVariables false
set_option linter.unusedSimpArgs false
set_option maxRecDepth 100000
set_option maxHeartbeats 4000000
namespace Go.Sy
open Go.Proofs
attribute [local go_sem] runO_t runO_f band_t band_f bor_t bor_f bnot_t bnot_f gdK_tt gdK_ff gdK_tf gdK_ft brK_t brK_f runE_some runF_some runA_some runG_some runB_some runX_some runR_some run_nil run_skip run_seq run_region run_block run_blk run_exit run_cond run_ret run_loop run_lp run_opsNil run_opsOrd run_opsOp run_opsGuard run_cl run_gd run_br run_fin run_clx run_fst run_callf runY_t runY_f runS_some runV_t runV_f aBuildK_t aBuildK_f Mode.plain run_move run_nilCheck run_assign run_pick run_alloc run_box run_build run_buildSlice run_load run_store run_binOp run_unOp run_convert run_slice run_fieldAddr run_indexAddr run_index run_field run_extract run_makeInterface run_makeFunc run_len run_max run_min run_append St.ev St.evl St.evs St.evo capsOf callOf look drop put putAll toTV_nil toTV_int toTV_bool toTV_str toTV_ptr toTV_ifc toTV_fn toAV_nil toAV_int toAV_bool toAV_str toAV_ptr toAV_ifc toAV_fn aAssign_nil aAssign_tmp aAssign_int aAssign_bool aAssign_str aAssign_ptr aAssign_nilf aAssign_ifc aAssign_func aAssign_glob nilConst_slice nilConst_ptr nilConst_ifc nilConst_tmp plain Option.bind TV.cells TV.one AVone_v AVone_sl AVone_agg AVone_ref AVone_fn AVone_ifc AVone_sent Value.oneCell' oneVs avOf avsOf expo expos expoC exposC TV.isC allC fillsT aBuildT lendR ren renT0 renC renT renO renW xFoot xSt newIds retX retXs isT0 asList List.map St.app setD St.setT ownD trA effFoot callFoot callSt callReq St.fresh freshT freshO allFresh TV.ment TVs.ment SObj.ment fsts mentW noFoot List.contains List.elem aPick aAlloc aBox aBuild aBuildSlice nonNil allSz aUn aConv aField aIndex aByte aPart aExtract aIface aFunc aLen ty1 aMax aApp aAppend aCheck emptyL aSlice okHd hdOK_nil hdOK_cons aLoad aStore aBin aNil sBin sInt isSh sameSh nilness fills fillAt fillTV putCells intOf? mkInt AVcells_v AVcells_sl AVcells_agg AVcells_ref AVcells_fn AVcells_ifc AVcells_sent St.g0 St.g guardOf guardOff udf argsOf lends lendBox bindRes bindR bindRs flatR flatV boolOf retItems retItems0 retItem rowsOf disjB ownIds resIds nodupB St.init initT popTo cond_true cond_false Option.getD Option.map List.take List.drop List.length List.zip List.zipWith List.range List.range.loop List.append List.foldr List.nil_append List.cons_append List.append_nil List.getElem?_cons_zero List.getElem?_cons_succ GetElem?.getElem? List.get?Internal Int.toNat_natCast cst0 cst1 cst2 cst3 cst4 cst5 cst6 cst7 cst8 cst9 cst10 cst11 toNat0 toNat1 toNat2 toNat3 getD0 getD1 getD2 getD3 run_zero memN keepT dropO St.re leT leO D_q2  D_q3  D_q4  D_q5  D_q9  D_q12  D_q21  D_q22  D_q24  D_q25  D_q27  D_q28  D_q32  D_q46  D_q48  D_q50  D_q52  D_q53  D_q54  D_q56  D_q57  D_q61  D_q70  D_q72  D_q76  D_q77  D_q79  D_q80  D_q83  D_q85  D_q91  D_q93  D_q104  D_q108  D_q115  D_q118  D_q121  D_q134  D_q136  D_q137
section
variable {W0 : World} {κ : Nat → Addr} {GG : Nat → Option AV}

theorem D_rdepth : ∀ (n : Nat) (d : Dat), cnt d ≤ n → fine d → Sound (CD W0 κ GG) 21 [encD d] [.av (.v (.int .i64 (depthD d : Nat)))]
  | 0, d, h, _ => absurd h (by have := cnt_pos d; omega)
  | n + 1, .mk k c neg mag t l, hn, hf => by
    have hll := encL_length l
    have hlen := hf.len
    simp only [cnt] at hn
    have hdep : depthD (.mk k c neg mag t l) = max (if k = 8 then 1 else 0) (dpre k l 0 l.length) := by rw [dpre_all, depthD]; simp
    (refine Sound.of_go D_ok D_mix Tryd.func21 rfl (by decide) (by kernel_rfl) (GC.go ?_); refine GC_run2 4000 ?_; dsimp only [Tryd.f21, CD, go_sem, Nat.reduceBEq, Nat.reduceAdd, Nat.reduceMul, Nat.reduceSub, Int.reduceBEq, Int.reduceBNe, Int.reduceAdd, Int.reduceSub, Int.reduceMul, Int.reduceToNat, Int.reduceNeg, encD])
    refine GC.loopR (by first | rfl | (simp; done) | (simp [hdOK_encU, hdOK_encL, allSz_encU, allSz_encL, encU_length, encL_length, encD_one, encD_cells, AVone_v, AVone_sl, AVone_agg, AVone_ref, AVone_fn, AVone_ifc, AVcells_v, AVcells_sl, AVcells_agg, AVcells_ref, AVcells_fn, AVcells_ifc, Value.oneCell', allSz]; done) | (simp [hdOK_encU, hdOK_encL, allSz_encU, allSz_encL, encU_length, encL_length, encD_one, encD_cells, AVone_v, AVone_sl, AVone_agg, AVone_ref, AVone_fn, AVone_ifc, AVcells_v, AVcells_sl, AVcells_agg, AVcells_ref, AVcells_fn, AVcells_ifc, Value.oneCell', allSz]; omega)) (encL l).length [1] (fun j => [(3, .av (.v (.int .i64 (dpre k l 0 j : Nat)))), (4, .av (.v (.int .i64 (j : Nat))))]) (fun j => []) (fun j => True) ⟨rfl, rfl, trivial⟩ trivial trivial (fun j hj _ => ?_)
    rcases Nat.lt_or_ge j l.length with hlt | hge
    · have hd := dec_lt (show j < (encL l).length by omega)
      have hx : (encL l).getD j dflt = _ := encL_get hlt
      have hmem : l[j] ∈ l := List.getElem_mem hlt
      have hc := cntL_get hmem
      have hs := D_rdepth n l[j] (by omega) (hf.sub hmem)
      have hit := ditm_at (k := k) hlt
      have hle := ditm_le k l j
      have hle2 := dpre_le k l 0 (by omega) j
      have hstep := dpre_step k l 0 j
      have hfc := hf.1
      simp only [cnt] at hfc
      generalize l[j] = x at hx hs hit
      obtain ⟨xk, xc, xneg, xmag, xt, xl⟩ := x
      simp only [encD] at hx
      (refine GC_run2 4000 ?_; dsimp only [go_sem, Nat.reduceBEq, Nat.reduceAdd, Nat.reduceMul, Nat.reduceSub, Int.reduceBEq, Int.reduceBNe, Int.reduceAdd, Int.reduceSub, Int.reduceMul, Int.reduceToNat, Int.reduceNeg])
      (repeat (simp only [hd, hx]; try (dsimp only [go_sem, Nat.reduceBEq, Nat.reduceAdd, Nat.reduceMul, Nat.reduceSub, Int.reduceBEq, Int.reduceBNe, Int.reduceAdd, Int.reduceSub, Int.reduceMul, Int.reduceToNat, Int.reduceNeg])))
      (refine GC.call (by first | rfl | (simp; done) | (simp [hdOK_encU, hdOK_encL, allSz_encU, allSz_encL, encU_length, encL_length, encD_one, encD_cells, AVone_v, AVone_sl, AVone_agg, AVone_ref, AVone_fn, AVone_ifc, AVcells_v, AVcells_sl, AVcells_agg, AVcells_ref, AVcells_fn, AVcells_ifc, Value.oneCell', allSz]; done) | (simp [hdOK_encU, hdOK_encL, allSz_encU, allSz_encL, encU_length, encL_length, encD_one, encD_cells, AVone_v, AVone_sl, AVone_agg, AVone_ref, AVone_fn, AVone_ifc, AVcells_v, AVcells_sl, AVcells_agg, AVcells_ref, AVcells_fn, AVcells_ifc, Value.oneCell', allSz]; omega)) (hs) ?_; refine GC_run2 4000 ?_; dsimp only [go_sem, Nat.reduceBEq, Nat.reduceAdd, Nat.reduceMul, Nat.reduceSub, Int.reduceBEq, Int.reduceBNe, Int.reduceAdd, Int.reduceSub, Int.reduceMul, Int.reduceToNat, Int.reduceNeg])
      have hw := wrap_nat j (by omega)
      have hw2 : IntKind.i64.wrap ((depthD (.mk xk xc xneg xmag xt xl) : Nat) + 1) = ((depthD (.mk xk xc xneg xmag xt xl) + 1 : Nat) : Int) := wrap_nat _ (by omega)
      have hw3 : IntKind.i64.wrap ((encL l).length - 1) = ((encL l).length - 1 : Int) := wrap_i64 (by omega) (by omega)
      repeat' (first | (first | (refine GC_gdK (fun h => ?_) (fun h => ?_) <;> (dsimp only [go_sem, Nat.reduceBEq, Nat.reduceAdd, Nat.reduceMul, Nat.reduceSub, Int.reduceBEq, Int.reduceBNe, Int.reduceAdd, Int.reduceSub, Int.reduceMul, Int.reduceToNat, Int.reduceNeg])) | (refine GC_brK (fun h => ?_) (fun h => ?_) <;> (dsimp only [go_sem, Nat.reduceBEq, Nat.reduceAdd, Nat.reduceMul, Nat.reduceSub, Int.reduceBEq, Int.reduceBNe, Int.reduceAdd, Int.reduceSub, Int.reduceMul, Int.reduceToNat, Int.reduceNeg]))) | (simp only [hx, hw, hw2, hw3]; (dsimp only [go_sem, Nat.reduceBEq, Nat.reduceAdd, Nat.reduceMul, Nat.reduceSub, Int.reduceBEq, Int.reduceBNe, Int.reduceAdd, Int.reduceSub, Int.reduceMul, Int.reduceToNat, Int.reduceNeg])))
      all_goals
        refine GC.backR (by first | rfl | (simp; done) | (simp [hdOK_encU, hdOK_encL, allSz_encU, allSz_encL, encU_length, encL_length, encD_one, encD_cells, AVone_v, AVone_sl, AVone_agg, AVone_ref, AVone_fn, AVone_ifc, AVcells_v, AVcells_sl, AVcells_agg, AVcells_ref, AVcells_fn, AVcells_ifc, Value.oneCell', allSz]; done) | (simp [hdOK_encU, hdOK_encL, allSz_encU, allSz_encL, encU_length, encL_length, encD_one, encD_cells, AVone_v, AVone_sl, AVone_agg, AVone_ref, AVone_fn, AVone_ifc, AVcells_v, AVcells_sl, AVcells_agg, AVcells_ref, AVcells_fn, AVcells_ifc, Value.oneCell', allSz]; omega)) (by omega) trivial ⟨?_, ?_, rfl, trivial⟩ ⟨rfl, trivial⟩
        · refine congrArg (fun n => some (TV.av (.v (.int .i64 n)))) ?_
          rw [hstep]
          simp only [Dat.kind] at hit
          simp only [beq_iff_eq, ne_eq, decide_eq_true_eq, decide_eq_false_iff_not, Bool.not_true, Bool.not_false, beq_eq_false_iff_ne, hw, hw3, hll] at *
          rcases hit with ⟨q1, q2, q3, q4⟩ | ⟨q1, q4⟩ <;> rw [q4] <;> split <;> omega
        · exact congrArg (fun n => some (TV.av (.v (.int .i64 n)))) (wrap_nat j (by omega))
    · have hd := dec_ge (show (encL l).length ≤ j by omega)
      have : j = l.length := by omega
      subst this
      (refine GC_run2 4000 ?_; dsimp only [go_sem, Nat.reduceBEq, Nat.reduceAdd, Nat.reduceMul, Nat.reduceSub, Int.reduceBEq, Int.reduceBNe, Int.reduceAdd, Int.reduceSub, Int.reduceMul, Int.reduceToNat, Int.reduceNeg])
      (repeat (simp only [hd]; try (dsimp only [go_sem, Nat.reduceBEq, Nat.reduceAdd, Nat.reduceMul, Nat.reduceSub, Int.reduceBEq, Int.reduceBNe, Int.reduceAdd, Int.reduceSub, Int.reduceMul, Int.reduceToNat, Int.reduceNeg])))
      (refine GC_brK (fun h => ?_) (fun h => ?_) <;> (dsimp only [go_sem, Nat.reduceBEq, Nat.reduceAdd, Nat.reduceMul, Nat.reduceSub, Int.reduceBEq, Int.reduceBNe, Int.reduceAdd, Int.reduceSub, Int.reduceMul, Int.reduceToNat, Int.reduceNeg]))
      all_goals
        refine GC.finE (by first | rfl | (simp; done) | (simp [hdOK_encU, hdOK_encL, allSz_encU, allSz_encL, encU_length, encL_length, encD_one, encD_cells, AVone_v, AVone_sl, AVone_agg, AVone_ref, AVone_fn, AVone_ifc, AVcells_v, AVcells_sl, AVcells_agg, AVcells_ref, AVcells_fn, AVcells_ifc, Value.oneCell', allSz]; done) | (simp [hdOK_encU, hdOK_encL, allSz_encU, allSz_encL, encU_length, encL_length, encD_one, encD_cells, AVone_v, AVone_sl, AVone_agg, AVone_ref, AVone_fn, AVone_ifc, AVcells_v, AVcells_sl, AVcells_agg, AVcells_ref, AVcells_fn, AVcells_ifc, Value.oneCell', allSz]; omega)) ?_
        simp at h
        rw [hdep]
        simp [h]
        try (split <;> omega)

/-- slices.EqualFunc over two lists, by Same. -/
theorem D_eqF (a b : List Dat) (ha : a.length < 1099511627776) (H : ∀ x ∈ a, ∀ y ∈ b, Sound (CD W0 κ GG) 25 [encD x, encD y] [.av (.v (.bool (sameD x y)))]) :
    Sound (CD W0 κ GG) 54 [.sl (encL a), .sl (encL b), .fn 25 []] [.av (.v (.bool (sameL a b)))] := by
  have hl := encL_length a
  have hl2 := encL_length b
  (refine Sound.of_go D_ok D_mix Tryd.func54 rfl (by decide) (by kernel_rfl) (GC.go ?_); refine GC_run2 4000 ?_; dsimp only [Tryd.f54, CD, go_sem, Nat.reduceBEq, Nat.reduceAdd, Nat.reduceMul, Nat.reduceSub, Int.reduceBEq, Int.reduceBNe, Int.reduceAdd, Int.reduceSub, Int.reduceMul, Int.reduceToNat, Int.reduceNeg, encD])
  (refine GC_brK (fun h => ?_) (fun h => ?_) <;> (dsimp only [go_sem, Nat.reduceBEq, Nat.reduceAdd, Nat.reduceMul, Nat.reduceSub, Int.reduceBEq, Int.reduceBNe, Int.reduceAdd, Int.reduceSub, Int.reduceMul, Int.reduceToNat, Int.reduceNeg]))
  · refine GC.finE (by first | rfl | (simp; done) | (simp [hdOK_encU, hdOK_encL, allSz_encU, allSz_encL, encU_length, encL_length, encD_one, encD_cells, AVone_v, AVone_sl, AVone_agg, AVone_ref, AVone_fn, AVone_ifc, AVcells_v, AVcells_sl, AVcells_agg, AVcells_ref, AVcells_fn, AVcells_ifc, Value.oneCell', allSz]; done) | (simp [hdOK_encU, hdOK_encL, allSz_encU, allSz_encL, encU_length, encL_length, encD_one, encD_cells, AVone_v, AVone_sl, AVone_agg, AVone_ref, AVone_fn, AVone_ifc, AVcells_v, AVcells_sl, AVcells_agg, AVcells_ref, AVcells_fn, AVcells_ifc, Value.oneCell', allSz]; omega)) ?_
    simp [bne_len, hl, hl2] at h
    simp [sameL_len h]
  · simp [bne_len, hl, hl2] at h
    refine GC.loopR (by first | rfl | (simp; done) | (simp [hdOK_encU, hdOK_encL, allSz_encU, allSz_encL, encU_length, encL_length, encD_one, encD_cells, AVone_v, AVone_sl, AVone_agg, AVone_ref, AVone_fn, AVone_ifc, AVcells_v, AVcells_sl, AVcells_agg, AVcells_ref, AVcells_fn, AVcells_ifc, Value.oneCell', allSz]; done) | (simp [hdOK_encU, hdOK_encL, allSz_encU, allSz_encL, encU_length, encL_length, encD_one, encD_cells, AVone_v, AVone_sl, AVone_agg, AVone_ref, AVone_fn, AVone_ifc, AVcells_v, AVcells_sl, AVcells_agg, AVcells_ref, AVcells_fn, AVcells_ifc, Value.oneCell', allSz]; omega)) (encL a).length [1, 2, 15, 16] (fun j => [(17, .av (.v (.int .i64 (j : Nat))))]) (fun j => []) (fun j => a.take j = b.take j) ⟨rfl, trivial⟩ trivial rfl (fun j hj hI => ?_)
    rcases Nat.lt_or_ge j a.length with hlt | hge
    · have hd := dec_lt (show j < (encL a).length by omega)
      have hx : (encL a).getD j dflt = _ := encL_get hlt
      have hlt2 : j < b.length := by omega
      have hy : (encL b).getD j dflt = _ := encL_get hlt2
      have hs := H _ (List.getElem_mem hlt) _ (List.getElem_mem hlt2)
      have hne := getD_ne hlt hlt2
      have hst := take_step hlt hlt2 hI
      generalize a[j] = x at hx hs hne hst
      generalize b[j] = y at hy hs hne hst
      obtain ⟨xk, xc, xneg, xmag, xt, xl⟩ := x
      obtain ⟨yk, yc, yneg, ymag, yt, yl⟩ := y
      simp only [encD] at hx hy
      (refine GC_run2 4000 ?_; dsimp only [go_sem, Nat.reduceBEq, Nat.reduceAdd, Nat.reduceMul, Nat.reduceSub, Int.reduceBEq, Int.reduceBNe, Int.reduceAdd, Int.reduceSub, Int.reduceMul, Int.reduceToNat, Int.reduceNeg])
      (repeat (simp only [hd, hx, hy]; try (dsimp only [go_sem, Nat.reduceBEq, Nat.reduceAdd, Nat.reduceMul, Nat.reduceSub, Int.reduceBEq, Int.reduceBNe, Int.reduceAdd, Int.reduceSub, Int.reduceMul, Int.reduceToNat, Int.reduceNeg])))
      (refine GC.call (by first | rfl | (simp; done) | (simp [hdOK_encU, hdOK_encL, allSz_encU, allSz_encL, encU_length, encL_length, encD_one, encD_cells, AVone_v, AVone_sl, AVone_agg, AVone_ref, AVone_fn, AVone_ifc, AVcells_v, AVcells_sl, AVcells_agg, AVcells_ref, AVcells_fn, AVcells_ifc, Value.oneCell', allSz]; done) | (simp [hdOK_encU, hdOK_encL, allSz_encU, allSz_encL, encU_length, encL_length, encD_one, encD_cells, AVone_v, AVone_sl, AVone_agg, AVone_ref, AVone_fn, AVone_ifc, AVcells_v, AVcells_sl, AVcells_agg, AVcells_ref, AVcells_fn, AVcells_ifc, Value.oneCell', allSz]; omega)) (hs) ?_; refine GC_run2 4000 ?_; dsimp only [go_sem, Nat.reduceBEq, Nat.reduceAdd, Nat.reduceMul, Nat.reduceSub, Int.reduceBEq, Int.reduceBNe, Int.reduceAdd, Int.reduceSub, Int.reduceMul, Int.reduceToNat, Int.reduceNeg])
      (refine GC_brK (fun h => ?_) (fun h => ?_) <;> (dsimp only [go_sem, Nat.reduceBEq, Nat.reduceAdd, Nat.reduceMul, Nat.reduceSub, Int.reduceBEq, Int.reduceBNe, Int.reduceAdd, Int.reduceSub, Int.reduceMul, Int.reduceToNat, Int.reduceNeg]))
      · refine GC.finE (by first | rfl | (simp; done) | (simp [hdOK_encU, hdOK_encL, allSz_encU, allSz_encL, encU_length, encL_length, encD_one, encD_cells, AVone_v, AVone_sl, AVone_agg, AVone_ref, AVone_fn, AVone_ifc, AVcells_v, AVcells_sl, AVcells_agg, AVcells_ref, AVcells_fn, AVcells_ifc, Value.oneCell', allSz]; done) | (simp [hdOK_encU, hdOK_encL, allSz_encU, allSz_encL, encU_length, encL_length, encD_one, encD_cells, AVone_v, AVone_sl, AVone_agg, AVone_ref, AVone_fn, AVone_ifc, AVcells_v, AVcells_sl, AVcells_agg, AVcells_ref, AVcells_fn, AVcells_ifc, Value.oneCell', allSz]; omega)) ?_
        have : sameL a b = false := by
          cases hs2 : sameL a b with
          | false => rfl
          | true =>
            have e := hne (by intro e; rw [e, sameD_refl] at h; simp at h)
            exact absurd (sameL_eq a b hs2) e
        simp [this]
      · refine GC.backR (by first | rfl | (simp; done) | (simp [hdOK_encU, hdOK_encL, allSz_encU, allSz_encL, encU_length, encL_length, encD_one, encD_cells, AVone_v, AVone_sl, AVone_agg, AVone_ref, AVone_fn, AVone_ifc, AVcells_v, AVcells_sl, AVcells_agg, AVcells_ref, AVcells_fn, AVcells_ifc, Value.oneCell', allSz]; done) | (simp [hdOK_encU, hdOK_encL, allSz_encU, allSz_encL, encU_length, encL_length, encD_one, encD_cells, AVone_v, AVone_sl, AVone_agg, AVone_ref, AVone_fn, AVone_ifc, AVcells_v, AVcells_sl, AVcells_agg, AVcells_ref, AVcells_fn, AVcells_ifc, Value.oneCell', allSz]; omega)) (by omega) (hst (sameD_eq _ _ (by simpa using h))) ⟨?_, rfl, rfl, rfl, rfl, trivial⟩ trivial
        exact congrArg (fun n => some (TV.av (.v (.int .i64 n)))) (wrap_nat j (by omega))
    · have hd := dec_ge (show (encL a).length ≤ j by omega)
      have : j = a.length := by omega
      subst this
      (refine GC_run2 4000 ?_; dsimp only [go_sem, Nat.reduceBEq, Nat.reduceAdd, Nat.reduceMul, Nat.reduceSub, Int.reduceBEq, Int.reduceBNe, Int.reduceAdd, Int.reduceSub, Int.reduceMul, Int.reduceToNat, Int.reduceNeg])
      (repeat (simp only [hd]; try (dsimp only [go_sem, Nat.reduceBEq, Nat.reduceAdd, Nat.reduceMul, Nat.reduceSub, Int.reduceBEq, Int.reduceBNe, Int.reduceAdd, Int.reduceSub, Int.reduceMul, Int.reduceToNat, Int.reduceNeg])))
      refine GC.finE (by first | rfl | (simp; done) | (simp [hdOK_encU, hdOK_encL, allSz_encU, allSz_encL, encU_length, encL_length, encD_one, encD_cells, AVone_v, AVone_sl, AVone_agg, AVone_ref, AVone_fn, AVone_ifc, AVcells_v, AVcells_sl, AVcells_agg, AVcells_ref, AVcells_fn, AVcells_ifc, Value.oneCell', allSz]; done) | (simp [hdOK_encU, hdOK_encL, allSz_encU, allSz_encL, encU_length, encL_length, encD_one, encD_cells, AVone_v, AVone_sl, AVone_agg, AVone_ref, AVone_fn, AVone_ifc, AVcells_v, AVcells_sl, AVcells_agg, AVcells_ref, AVcells_fn, AVcells_ifc, Value.oneCell', allSz]; omega)) ?_
      have : a = b := eq_of_upto h hI
      subst this
      simp [sameL_refl]

theorem D_same : ∀ (n : Nat) (a b : Dat), cnt a ≤ n → fine a → fine b → Sound (CD W0 κ GG) 25 [encD a, encD b] [.av (.v (.bool (sameD a b)))]
  | 0, d, _, h, _, _ => absurd h (by have := cnt_pos d; omega)
  | n + 1, .mk k c neg mag t l, .mk k' c' neg' mag' t' l', hn, ha, hb => by
    simp only [cnt] at hn
    have hF : Sound (CD W0 κ GG) 54 [.sl (encL l), .sl (encL l'), .fn 25 []] [.av (.v (.bool (sameL l l')))] :=
      D_eqF l l' ha.len fun x hx y hy => D_same n x y (by have := cntL_get hx; omega) (ha.sub hx) (hb.sub hy)
    have hsp := sameD_flat (.mk k c neg mag t l) (.mk k' c' neg' mag' t' l')
    simp only [Dat.l] at hsp
    rw [hsp]
    (refine Sound.of_go D_ok D_mix Tryd.func25 rfl (by decide) (by kernel_rfl) (GC.go ?_); refine GC_run2 4000 ?_; dsimp only [Tryd.f25, CD, go_sem, Nat.reduceBEq, Nat.reduceAdd, Nat.reduceMul, Nat.reduceSub, Int.reduceBEq, Int.reduceBNe, Int.reduceAdd, Int.reduceSub, Int.reduceMul, Int.reduceToNat, Int.reduceNeg, encD])
    (refine GC.call (by first | rfl | (simp; done) | (simp [hdOK_encU, hdOK_encL, allSz_encU, allSz_encL, encU_length, encL_length, encD_one, encD_cells, AVone_v, AVone_sl, AVone_agg, AVone_ref, AVone_fn, AVone_ifc, AVcells_v, AVcells_sl, AVcells_agg, AVcells_ref, AVcells_fn, AVcells_ifc, Value.oneCell', allSz]; done) | (simp [hdOK_encU, hdOK_encL, allSz_encU, allSz_encL, encU_length, encL_length, encD_one, encD_cells, AVone_v, AVone_sl, AVone_agg, AVone_ref, AVone_fn, AVone_ifc, AVcells_v, AVcells_sl, AVcells_agg, AVcells_ref, AVcells_fn, AVcells_ifc, Value.oneCell', allSz]; omega)) (D_flat (.mk k c neg mag t l) (.mk k' c' neg' mag' t' l') ha hb) ?_; refine GC_run2 4000 ?_; dsimp only [go_sem, Nat.reduceBEq, Nat.reduceAdd, Nat.reduceMul, Nat.reduceSub, Int.reduceBEq, Int.reduceBNe, Int.reduceAdd, Int.reduceSub, Int.reduceMul, Int.reduceToNat, Int.reduceNeg])
    (first | (refine GC_gdK (fun h => ?_) (fun h => ?_) <;> (dsimp only [go_sem, Nat.reduceBEq, Nat.reduceAdd, Nat.reduceMul, Nat.reduceSub, Int.reduceBEq, Int.reduceBNe, Int.reduceAdd, Int.reduceSub, Int.reduceMul, Int.reduceToNat, Int.reduceNeg])) | (refine GC_brK (fun h => ?_) (fun h => ?_) <;> (dsimp only [go_sem, Nat.reduceBEq, Nat.reduceAdd, Nat.reduceMul, Nat.reduceSub, Int.reduceBEq, Int.reduceBNe, Int.reduceAdd, Int.reduceSub, Int.reduceMul, Int.reduceToNat, Int.reduceNeg])))
    · (refine GC.call (by first | rfl | (simp; done) | (simp [hdOK_encU, hdOK_encL, allSz_encU, allSz_encL, encU_length, encL_length, encD_one, encD_cells, AVone_v, AVone_sl, AVone_agg, AVone_ref, AVone_fn, AVone_ifc, AVcells_v, AVcells_sl, AVcells_agg, AVcells_ref, AVcells_fn, AVcells_ifc, Value.oneCell', allSz]; done) | (simp [hdOK_encU, hdOK_encL, allSz_encU, allSz_encL, encU_length, encL_length, encD_one, encD_cells, AVone_v, AVone_sl, AVone_agg, AVone_ref, AVone_fn, AVone_ifc, AVcells_v, AVcells_sl, AVcells_agg, AVcells_ref, AVcells_fn, AVcells_ifc, Value.oneCell', allSz]; omega)) (hF) ?_; refine GC_run2 4000 ?_; dsimp only [go_sem, Nat.reduceBEq, Nat.reduceAdd, Nat.reduceMul, Nat.reduceSub, Int.reduceBEq, Int.reduceBNe, Int.reduceAdd, Int.reduceSub, Int.reduceMul, Int.reduceToNat, Int.reduceNeg])
      refine GC.finE (by first | rfl | (simp; done) | (simp [hdOK_encU, hdOK_encL, allSz_encU, allSz_encL, encU_length, encL_length, encD_one, encD_cells, AVone_v, AVone_sl, AVone_agg, AVone_ref, AVone_fn, AVone_ifc, AVcells_v, AVcells_sl, AVcells_agg, AVcells_ref, AVcells_fn, AVcells_ifc, Value.oneCell', allSz]; done) | (simp [hdOK_encU, hdOK_encL, allSz_encU, allSz_encL, encU_length, encL_length, encD_one, encD_cells, AVone_v, AVone_sl, AVone_agg, AVone_ref, AVone_fn, AVone_ifc, AVcells_v, AVcells_sl, AVcells_agg, AVcells_ref, AVcells_fn, AVcells_ifc, Value.oneCell', allSz]; omega)) ?_
      simp [h]
    · refine GC.finE (by first | rfl | (simp; done) | (simp [hdOK_encU, hdOK_encL, allSz_encU, allSz_encL, encU_length, encL_length, encD_one, encD_cells, AVone_v, AVone_sl, AVone_agg, AVone_ref, AVone_fn, AVone_ifc, AVcells_v, AVcells_sl, AVcells_agg, AVcells_ref, AVcells_fn, AVcells_ifc, Value.oneCell', allSz]; done) | (simp [hdOK_encU, hdOK_encL, allSz_encU, allSz_encL, encU_length, encL_length, encD_one, encD_cells, AVone_v, AVone_sl, AVone_agg, AVone_ref, AVone_fn, AVone_ifc, AVcells_v, AVcells_sl, AVcells_agg, AVcells_ref, AVcells_fn, AVcells_ifc, Value.oneCell', allSz]; omega)) ?_
      simp [h]
end
end Go.Sy

/- Contracts of the program's functions over abstract values. By gen.py. -/
set_option linter.unusedVariables false
set_option linter.unusedSimpArgs false
set_option maxRecDepth 100000
set_option maxHeartbeats 4000000
namespace Go.Sy
open Go.Proofs
attribute [local go_sem] runO_t runO_f band_t band_f bor_t bor_f bnot_t bnot_f gdK_tt gdK_ff gdK_tf gdK_ft brK_t brK_f runE_some runF_some runA_some runG_some runB_some runX_some runR_some run_nil run_skip run_seq run_region run_block run_blk run_exit run_cond run_ret run_loop run_lp run_opsNil run_opsOrd run_opsOp run_opsGuard run_cl run_gd run_br run_fin run_clx run_fst run_callf runY_t runY_f runS_some runV_t runV_f aBuildK_t aBuildK_f Mode.plain run_move run_nilCheck run_assign run_pick run_alloc run_box run_build run_buildSlice run_load run_store run_binOp run_unOp run_convert run_slice run_fieldAddr run_indexAddr run_index run_field run_extract run_makeInterface run_makeFunc run_len run_max run_min run_append St.ev St.evl St.evs St.evo capsOf callOf look drop put putAll toTV_nil toTV_int toTV_bool toTV_str toTV_ptr toTV_ifc toTV_fn toAV_nil toAV_int toAV_bool toAV_str toAV_ptr toAV_ifc toAV_fn aAssign_nil aAssign_tmp aAssign_int aAssign_bool aAssign_str aAssign_ptr aAssign_nilf aAssign_ifc aAssign_func aAssign_glob nilConst_slice nilConst_ptr nilConst_ifc nilConst_tmp plain Option.bind TV.cells TV.one AVone_v AVone_sl AVone_agg AVone_ref AVone_fn AVone_ifc AVone_sent Value.oneCell' oneVs avOf avsOf expo expos expoC exposC TV.isC allC fillsT aBuildT lendR ren renT0 renC renT renO renW xFoot xSt newIds retX retXs isT0 asList List.map St.app setD St.setT ownD trA effFoot callFoot callSt callReq St.fresh freshT freshO allFresh TV.ment TVs.ment SObj.ment fsts mentW noFoot List.contains List.elem aPick aAlloc aBox aBuild aBuildSlice nonNil allSz aUn aConv aField aIndex aByte aPart aExtract aIface aFunc aLen ty1 aMax aApp aAppend aCheck emptyL aSlice okHd hdOK_nil hdOK_cons aLoad aStore aBin aNil sBin sInt isSh sameSh nilness fills fillAt fillTV putCells intOf? mkInt AVcells_v AVcells_sl AVcells_agg AVcells_ref AVcells_fn AVcells_ifc AVcells_sent St.g0 St.g guardOf guardOff udf argsOf lends lendBox bindRes bindR bindRs flatR flatV boolOf retItems retItems0 retItem rowsOf disjB ownIds resIds nodupB St.init initT popTo cond_true cond_false Option.getD Option.map List.take List.drop List.length List.zip List.zipWith List.range List.range.loop List.append List.foldr List.nil_append List.cons_append List.append_nil List.getElem?_cons_zero List.getElem?_cons_succ GetElem?.getElem? List.get?Internal Int.toNat_natCast cst0 cst1 cst2 cst3 cst4 cst5 cst6 cst7 cst8 cst9 cst10 cst11 toNat0 toNat1 toNat2 toNat3 getD0 getD1 getD2 getD3 run_zero memN keepT dropO St.re leT leO D_q2  D_q3  D_q4  D_q5  D_q9  D_q12  D_q21  D_q22  D_q24  D_q25  D_q27  D_q28  D_q32  D_q46  D_q48  D_q50  D_q52  D_q53  D_q54  D_q56  D_q57  D_q61  D_q70  D_q72  D_q76  D_q77  D_q79  D_q80  D_q83  D_q85  D_q91  D_q93  D_q104  D_q108  D_q115  D_q118  D_q121  D_q134  D_q136  D_q137
section
variable {W0 : World} {κ : Nat → Addr} {GG : Nat → Option AV}

theorem take_snoc_encL {l : List Dat} {j : Nat} (h : j < l.length) : encL (l.take j) ++ [encD l[j]] = encL (l.take (j + 1)) := by
  rw [List.take_succ_eq_append_getElem h, encL_append]; rfl

theorem D_rcopy : ∀ (n : Nat) (d : Dat), cnt d ≤ n → fine d → Sound (CD W0 κ GG) 17 [encD d] [.av (encD d)]
  | 0, d, h, _ => absurd h (by have := cnt_pos d; omega)
  | n + 1, .mk k c neg mag t l, hn, hf => by
    have hll := encL_length l
    have hlen := hf.len
    have hm := hf.mag
    have hu := encU_length mag
    simp only [cnt] at hn
    (refine Sound.of_go D_ok D_mix Tryd.func17 rfl (by decide) (by kernel_rfl) (GC.go ?_); refine GC_run2 4000 ?_; dsimp only [Tryd.f17, CD, go_sem, Nat.reduceBEq, Nat.reduceAdd, Nat.reduceMul, Nat.reduceSub, Int.reduceBEq, Int.reduceBNe, Int.reduceAdd, Int.reduceSub, Int.reduceMul, Int.reduceToNat, Int.reduceNeg, encD])
    
    refine GC.loopR (by first | rfl | (simp; done) | (simp [hdOK_encU, hdOK_encL, allSz_encU, allSz_encL, encU_length, encL_length, encD_one, encD_cells, AVone_v, AVone_sl, AVone_agg, AVone_ref, AVone_fn, AVone_ifc, AVcells_v, AVcells_sl, AVcells_agg, AVcells_ref, AVcells_fn, AVcells_ifc, Value.oneCell', allSz]; done) | (simp [hdOK_encU, hdOK_encL, allSz_encU, allSz_encL, encU_length, encL_length, encD_one, encD_cells, AVone_v, AVone_sl, AVone_agg, AVone_ref, AVone_fn, AVone_ifc, AVcells_v, AVcells_sl, AVcells_agg, AVcells_ref, AVcells_fn, AVcells_ifc, Value.oneCell', allSz]; omega)) (encL l).length [1, 2] (fun j => [(3, .row 24 j), (4, .av (.v (.int .i64 (j : Nat))))]) (fun j => [(24, .row true 27 6 (encL (l.take j)))]) (fun j => True) ⟨rfl, rfl, trivial⟩ ⟨rfl, trivial⟩ trivial (fun j hj _ => ?_)
    rcases Nat.lt_or_ge j l.length with hlt | hge
    · have hd := dec_lt (show j < (encL l).length by omega)
      have hx : (encL l).getD j dflt = _ := encL_get hlt
      have hmem : l[j] ∈ l := List.getElem_mem hlt
      have hc := cntL_get hmem
      have hs := D_rcopy n l[j] (by omega) (hf.sub hmem)
      have hsn := take_snoc_encL hlt
      have htl : (encL (l.take j)).length = j := by rw [encL_length, List.length_take]; omega
      generalize l[j] = x at hx hs hsn
      obtain ⟨xk, xc, xneg, xmag, xt, xl⟩ := x
      simp only [encD] at hx hsn
      (refine GC_run2 4000 ?_; dsimp only [go_sem, Nat.reduceBEq, Nat.reduceAdd, Nat.reduceMul, Nat.reduceSub, Int.reduceBEq, Int.reduceBNe, Int.reduceAdd, Int.reduceSub, Int.reduceMul, Int.reduceToNat, Int.reduceNeg])
      (repeat (simp only [hd, hx]; try (dsimp only [go_sem, Nat.reduceBEq, Nat.reduceAdd, Nat.reduceMul, Nat.reduceSub, Int.reduceBEq, Int.reduceBNe, Int.reduceAdd, Int.reduceSub, Int.reduceMul, Int.reduceToNat, Int.reduceNeg])))
      (refine GC.call (by first | rfl | (simp; done) | (simp [hdOK_encU, hdOK_encL, allSz_encU, allSz_encL, encU_length, encL_length, encD_one, encD_cells, AVone_v, AVone_sl, AVone_agg, AVone_ref, AVone_fn, AVone_ifc, AVcells_v, AVcells_sl, AVcells_agg, AVcells_ref, AVcells_fn, AVcells_ifc, Value.oneCell', allSz]; done) | (simp [hdOK_encU, hdOK_encL, allSz_encU, allSz_encL, encU_length, encL_length, encD_one, encD_cells, AVone_v, AVone_sl, AVone_agg, AVone_ref, AVone_fn, AVone_ifc, AVcells_v, AVcells_sl, AVcells_agg, AVcells_ref, AVcells_fn, AVcells_ifc, Value.oneCell', allSz]; omega)) (hs) ?_; refine GC_run2 4000 ?_; dsimp only [go_sem, Nat.reduceBEq, Nat.reduceAdd, Nat.reduceMul, Nat.reduceSub, Int.reduceBEq, Int.reduceBNe, Int.reduceAdd, Int.reduceSub, Int.reduceMul, Int.reduceToNat, Int.reduceNeg])
      (refine GC.backR (by simp [htl, encD_one, encD_cells, allSz, hll]; omega) (by omega) (trivial) ?_ ?_ <;> (repeat' (first | exact trivial | refine And.intro ?_ ?_)) <;> (try (dsimp only [go_sem, Nat.reduceBEq, Nat.reduceAdd, Nat.reduceMul, Nat.reduceSub, Int.reduceBEq, Int.reduceBNe, Int.reduceAdd, Int.reduceSub, Int.reduceMul, Int.reduceToNat, Int.reduceNeg])))
      · simp [look, htl]
      · exact congrArg (fun n => some (TV.av (.v (.int .i64 n)))) (wrap_nat j (by omega))
      · exact congrArg (fun n => some (SObj.row true 27 6 n)) hsn
    · have hd := dec_ge (show (encL l).length ≤ j by omega)
      have : j = l.length := by omega
      subst this
      have htk : l.take l.length = l := List.take_length
      simp only [htk]
      (refine GC_run2 4000 ?_; dsimp only [go_sem, Nat.reduceBEq, Nat.reduceAdd, Nat.reduceMul, Nat.reduceSub, Int.reduceBEq, Int.reduceBNe, Int.reduceAdd, Int.reduceSub, Int.reduceMul, Int.reduceToNat, Int.reduceNeg])
      (repeat (simp only [hd]; try (dsimp only [go_sem, Nat.reduceBEq, Nat.reduceAdd, Nat.reduceMul, Nat.reduceSub, Int.reduceBEq, Int.reduceBNe, Int.reduceAdd, Int.reduceSub, Int.reduceMul, Int.reduceToNat, Int.reduceNeg])))
      refine GC.fin (by simp [hll]) ?_
      rfl
end
end Go.Sy

/- Contracts of the program's functions over abstract values. By gen.py. -/
set_option linter.unusedVariables false
set_option linter.unusedSimpArgs false
set_option maxRecDepth 100000
set_option maxHeartbeats 4000000
namespace Go.Sy
open Go.Proofs
attribute [local go_sem] runO_t runO_f band_t band_f bor_t bor_f bnot_t bnot_f gdK_tt gdK_ff gdK_tf gdK_ft brK_t brK_f runE_some runF_some runA_some runG_some runB_some runX_some runR_some run_nil run_skip run_seq run_region run_block run_blk run_exit run_cond run_ret run_loop run_lp run_opsNil run_opsOrd run_opsOp run_opsGuard run_cl run_gd run_br run_fin run_clx run_fst run_callf runY_t runY_f runS_some runV_t runV_f aBuildK_t aBuildK_f Mode.plain run_move run_nilCheck run_assign run_pick run_alloc run_box run_build run_buildSlice run_load run_store run_binOp run_unOp run_convert run_slice run_fieldAddr run_indexAddr run_index run_field run_extract run_makeInterface run_makeFunc run_len run_max run_min run_append St.ev St.evl St.evs St.evo capsOf callOf look drop put putAll toTV_nil toTV_int toTV_bool toTV_str toTV_ptr toTV_ifc toTV_fn toAV_nil toAV_int toAV_bool toAV_str toAV_ptr toAV_ifc toAV_fn aAssign_nil aAssign_tmp aAssign_int aAssign_bool aAssign_str aAssign_ptr aAssign_nilf aAssign_ifc aAssign_func aAssign_glob nilConst_slice nilConst_ptr nilConst_ifc nilConst_tmp plain Option.bind TV.cells TV.one AVone_v AVone_sl AVone_agg AVone_ref AVone_fn AVone_ifc AVone_sent Value.oneCell' oneVs avOf avsOf expo expos expoC exposC TV.isC allC fillsT aBuildT lendR ren renT0 renC renT renO renW xFoot xSt newIds retX retXs isT0 asList List.map St.app setD St.setT ownD trA effFoot callFoot callSt callReq St.fresh freshT freshO allFresh TV.ment TVs.ment SObj.ment fsts mentW noFoot List.contains List.elem aPick aAlloc aBox aBuild aBuildSlice nonNil allSz aUn aConv aField aIndex aByte aPart aExtract aIface aFunc aLen ty1 aMax aApp aAppend aCheck emptyL aSlice okHd hdOK_nil hdOK_cons aLoad aStore aBin aNil sBin sInt isSh sameSh nilness fills fillAt fillTV putCells intOf? mkInt AVcells_v AVcells_sl AVcells_agg AVcells_ref AVcells_fn AVcells_ifc AVcells_sent St.g0 St.g guardOf guardOff udf argsOf lends lendBox bindRes bindR bindRs flatR flatV boolOf retItems retItems0 retItem rowsOf disjB ownIds resIds nodupB St.init initT popTo cond_true cond_false Option.getD Option.map List.take List.drop List.length List.zip List.zipWith List.range List.range.loop List.append List.foldr List.nil_append List.cons_append List.append_nil List.getElem?_cons_zero List.getElem?_cons_succ GetElem?.getElem? List.get?Internal Int.toNat_natCast cst0 cst1 cst2 cst3 cst4 cst5 cst6 cst7 cst8 cst9 cst10 cst11 toNat0 toNat1 toNat2 toNat3 getD0 getD1 getD2 getD3 run_zero memN keepT dropO St.re leT leO D_q2  D_q3  D_q4  D_q5  D_q9  D_q12  D_q21  D_q22  D_q24  D_q25  D_q27  D_q28  D_q32  D_q46  D_q48  D_q50  D_q52  D_q53  D_q54  D_q56  D_q57  D_q61  D_q70  D_q72  D_q76  D_q77  D_q79  D_q80  D_q83  D_q85  D_q91  D_q93  D_q104  D_q108  D_q115  D_q118  D_q121  D_q134  D_q136  D_q137
section
variable {W0 : World} {κ : Nat → Addr} {GG : Nat → Option AV}

theorem D_clone (m : List Int) (hm : m.length < 1099511627776) : Sound (CD W0 κ GG) 83 [.sl (encU m)] [.av (.sl (encU m))] := by
  cases m with
  | nil =>
    refine Sound.empty fun a c => ?_
    cases a with
    | none =>
      (refine Sound.of_go D_ok D_mix Tryd.func83 rfl (by decide) (by kernel_rfl) (GC.go ?_); refine GC_run2 4000 ?_; dsimp only [Tryd.f83, CD, go_sem, Nat.reduceBEq, Nat.reduceAdd, Nat.reduceMul, Nat.reduceSub, Int.reduceBEq, Int.reduceBNe, Int.reduceAdd, Int.reduceSub, Int.reduceMul, Int.reduceToNat, Int.reduceNeg, encD])
      refine GC.finE (by first | rfl | (simp; done) | (simp [hdOK_encU, hdOK_encL, allSz_encU, allSz_encL, encU_length, encL_length, encD_one, encD_cells, AVone_v, AVone_sl, AVone_agg, AVone_ref, AVone_fn, AVone_ifc, AVcells_v, AVcells_sl, AVcells_agg, AVcells_ref, AVcells_fn, AVcells_ifc, Value.oneCell', allSz]; done) | (simp [hdOK_encU, hdOK_encL, allSz_encU, allSz_encL, encU_length, encL_length, encD_one, encD_cells, AVone_v, AVone_sl, AVone_agg, AVone_ref, AVone_fn, AVone_ifc, AVcells_v, AVcells_sl, AVcells_agg, AVcells_ref, AVcells_fn, AVcells_ifc, Value.oneCell', allSz]; omega)) ?_
      rfl
    | some a =>
      refine Sound.frz (ex := true) (e := 79) (sz := 1) ?_
      (refine Sound.of_go D_ok D_mix Tryd.func83 rfl (by decide) (by kernel_rfl) (GC.go ?_); refine GC_run2 4000 ?_; dsimp only [Tryd.f83, CD, go_sem, Nat.reduceBEq, Nat.reduceAdd, Nat.reduceMul, Nat.reduceSub, Int.reduceBEq, Int.reduceBNe, Int.reduceAdd, Int.reduceSub, Int.reduceMul, Int.reduceToNat, Int.reduceNeg, encD])
      refine GC.finE (by first | rfl | (simp; done) | (simp [hdOK_encU, hdOK_encL, allSz_encU, allSz_encL, encU_length, encL_length, encD_one, encD_cells, AVone_v, AVone_sl, AVone_agg, AVone_ref, AVone_fn, AVone_ifc, AVcells_v, AVcells_sl, AVcells_agg, AVcells_ref, AVcells_fn, AVcells_ifc, Value.oneCell', allSz]; done) | (simp [hdOK_encU, hdOK_encL, allSz_encU, allSz_encL, encU_length, encL_length, encD_one, encD_cells, AVone_v, AVone_sl, AVone_agg, AVone_ref, AVone_fn, AVone_ifc, AVcells_v, AVcells_sl, AVcells_agg, AVcells_ref, AVcells_fn, AVcells_ifc, Value.oneCell', allSz]; omega)) ?_
      rfl
  | cons x r =>
    have hu := encU_length (x :: r)
    have hz := allSz_encU r
    have hu2 := encU_length r
    have he : encU (x :: r) = .v (.int .u32 x) :: encU r := rfl
    rw [he] at hu ⊢
    simp only [List.length_cons] at hu hm
    refine Sound.frz (ex := true) (e := 79) (sz := 1) ?_
    (refine Sound.of_go D_ok D_mix Tryd.func83 rfl (by decide) (by kernel_rfl) (GC.go ?_); refine GC_run2 4000 ?_; dsimp only [Tryd.f83, CD, go_sem, Nat.reduceBEq, Nat.reduceAdd, Nat.reduceMul, Nat.reduceSub, Int.reduceBEq, Int.reduceBNe, Int.reduceAdd, Int.reduceSub, Int.reduceMul, Int.reduceToNat, Int.reduceNeg, encD])
    refine GC.fin (by simp [hz]; omega) ?_
    rfl

theorem D_copied : ∀ (n : Nat) (d : Dat), cnt d ≤ n → fine d → Sound (CD W0 κ GG) 56 [encD d] [.av (encD d)]
  | 0, d, h, _ => absurd h (by have := cnt_pos d; omega)
  | n + 1, .mk k c neg mag t l, hn, hf => by
    have hll := encL_length l
    have hlen := hf.len
    have hm := hf.mag
    have hu := encU_length mag
    simp only [cnt] at hn
    (refine Sound.of_go D_ok D_mix Tryd.func56 rfl (by decide) (by kernel_rfl) (GC.go ?_); refine GC_run2 4000 ?_; dsimp only [Tryd.f56, CD, go_sem, Nat.reduceBEq, Nat.reduceAdd, Nat.reduceMul, Nat.reduceSub, Int.reduceBEq, Int.reduceBNe, Int.reduceAdd, Int.reduceSub, Int.reduceMul, Int.reduceToNat, Int.reduceNeg, encD])
    (refine GC.call (by first | rfl | (simp; done) | (simp [hdOK_encU, hdOK_encL, allSz_encU, allSz_encL, encU_length, encL_length, encD_one, encD_cells, AVone_v, AVone_sl, AVone_agg, AVone_ref, AVone_fn, AVone_ifc, AVcells_v, AVcells_sl, AVcells_agg, AVcells_ref, AVcells_fn, AVcells_ifc, Value.oneCell', allSz]; done) | (simp [hdOK_encU, hdOK_encL, allSz_encU, allSz_encL, encU_length, encL_length, encD_one, encD_cells, AVone_v, AVone_sl, AVone_agg, AVone_ref, AVone_fn, AVone_ifc, AVcells_v, AVcells_sl, AVcells_agg, AVcells_ref, AVcells_fn, AVcells_ifc, Value.oneCell', allSz]; omega)) (D_clone mag hm) ?_; refine GC_run2 4000 ?_; dsimp only [go_sem, Nat.reduceBEq, Nat.reduceAdd, Nat.reduceMul, Nat.reduceSub, Int.reduceBEq, Int.reduceBNe, Int.reduceAdd, Int.reduceSub, Int.reduceMul, Int.reduceToNat, Int.reduceNeg])
    refine GC.loopR (by first | rfl | (simp; done) | (simp [hdOK_encU, hdOK_encL, allSz_encU, allSz_encL, encU_length, encL_length, encD_one, encD_cells, AVone_v, AVone_sl, AVone_agg, AVone_ref, AVone_fn, AVone_ifc, AVcells_v, AVcells_sl, AVcells_agg, AVcells_ref, AVcells_fn, AVcells_ifc, Value.oneCell', allSz]; done) | (simp [hdOK_encU, hdOK_encL, allSz_encU, allSz_encL, encU_length, encL_length, encD_one, encD_cells, AVone_v, AVone_sl, AVone_agg, AVone_ref, AVone_fn, AVone_ifc, AVcells_v, AVcells_sl, AVcells_agg, AVcells_ref, AVcells_fn, AVcells_ifc, Value.oneCell', allSz]; omega)) (encL l).length [1, 2, 13, 14] (fun j => [(3, .row 24 j), (15, .av (.v (.int .i64 (j : Nat))))]) (fun j => [(24, .row true 27 6 (encL (l.take j)))]) (fun j => True) ⟨rfl, rfl, trivial⟩ ⟨rfl, trivial⟩ trivial (fun j hj _ => ?_)
    rcases Nat.lt_or_ge j l.length with hlt | hge
    · have hd := dec_lt (show j < (encL l).length by omega)
      have hx : (encL l).getD j dflt = _ := encL_get hlt
      have hmem : l[j] ∈ l := List.getElem_mem hlt
      have hc := cntL_get hmem
      have hs := D_copied n l[j] (by omega) (hf.sub hmem)
      have hsn := take_snoc_encL hlt
      have htl : (encL (l.take j)).length = j := by rw [encL_length, List.length_take]; omega
      generalize l[j] = x at hx hs hsn
      obtain ⟨xk, xc, xneg, xmag, xt, xl⟩ := x
      simp only [encD] at hx hsn
      (refine GC_run2 4000 ?_; dsimp only [go_sem, Nat.reduceBEq, Nat.reduceAdd, Nat.reduceMul, Nat.reduceSub, Int.reduceBEq, Int.reduceBNe, Int.reduceAdd, Int.reduceSub, Int.reduceMul, Int.reduceToNat, Int.reduceNeg])
      (repeat (simp only [hd, hx]; try (dsimp only [go_sem, Nat.reduceBEq, Nat.reduceAdd, Nat.reduceMul, Nat.reduceSub, Int.reduceBEq, Int.reduceBNe, Int.reduceAdd, Int.reduceSub, Int.reduceMul, Int.reduceToNat, Int.reduceNeg])))
      (refine GC.call (by first | rfl | (simp; done) | (simp [hdOK_encU, hdOK_encL, allSz_encU, allSz_encL, encU_length, encL_length, encD_one, encD_cells, AVone_v, AVone_sl, AVone_agg, AVone_ref, AVone_fn, AVone_ifc, AVcells_v, AVcells_sl, AVcells_agg, AVcells_ref, AVcells_fn, AVcells_ifc, Value.oneCell', allSz]; done) | (simp [hdOK_encU, hdOK_encL, allSz_encU, allSz_encL, encU_length, encL_length, encD_one, encD_cells, AVone_v, AVone_sl, AVone_agg, AVone_ref, AVone_fn, AVone_ifc, AVcells_v, AVcells_sl, AVcells_agg, AVcells_ref, AVcells_fn, AVcells_ifc, Value.oneCell', allSz]; omega)) (hs) ?_; refine GC_run2 4000 ?_; dsimp only [go_sem, Nat.reduceBEq, Nat.reduceAdd, Nat.reduceMul, Nat.reduceSub, Int.reduceBEq, Int.reduceBNe, Int.reduceAdd, Int.reduceSub, Int.reduceMul, Int.reduceToNat, Int.reduceNeg])
      (refine GC.backR (by simp [htl, encD_one, encD_cells, allSz, hll]; omega) (by omega) (trivial) ?_ ?_ <;> (repeat' (first | exact trivial | refine And.intro ?_ ?_)) <;> (try (dsimp only [go_sem, Nat.reduceBEq, Nat.reduceAdd, Nat.reduceMul, Nat.reduceSub, Int.reduceBEq, Int.reduceBNe, Int.reduceAdd, Int.reduceSub, Int.reduceMul, Int.reduceToNat, Int.reduceNeg])))
      · simp [look, htl]
      · exact congrArg (fun n => some (TV.av (.v (.int .i64 n)))) (wrap_nat j (by omega))
      · exact congrArg (fun n => some (SObj.row true 27 6 n)) hsn
    · have hd := dec_ge (show (encL l).length ≤ j by omega)
      have : j = l.length := by omega
      subst this
      have htk : l.take l.length = l := List.take_length
      simp only [htk]
      (refine GC_run2 4000 ?_; dsimp only [go_sem, Nat.reduceBEq, Nat.reduceAdd, Nat.reduceMul, Nat.reduceSub, Int.reduceBEq, Int.reduceBNe, Int.reduceAdd, Int.reduceSub, Int.reduceMul, Int.reduceToNat, Int.reduceNeg])
      (repeat (simp only [hd]; try (dsimp only [go_sem, Nat.reduceBEq, Nat.reduceAdd, Nat.reduceMul, Nat.reduceSub, Int.reduceBEq, Int.reduceBNe, Int.reduceAdd, Int.reduceSub, Int.reduceMul, Int.reduceToNat, Int.reduceNeg])))
      refine GC.fin (by simp [hll]) ?_
      rfl

theorem D_copied' (d : Dat) (h : fine d) : Sound (CD W0 κ GG) 56 [encD d] [.av (encD d)] := D_copied _ d (Nat.le_refl _) h
theorem D_cons (a d : Dat) (ha : fine a) (hd : fine d) : Sound (CD W0 κ GG) 27 [encD a, encD d] [.av (encD (consD a d))] := by
  have h1 := D_copied' (W0 := W0) (κ := κ) (GG := GG) a ha
  have h2 := D_copied' (W0 := W0) (κ := κ) (GG := GG) d hd
  obtain ⟨ak, ac, aneg, amag, at', al⟩ := a
  obtain ⟨dk, dc, dneg, dmag, dt, dl⟩ := d
  simp only [encD] at h1 h2
  (refine Sound.of_go D_ok D_mix Tryd.func27 rfl (by decide) (by kernel_rfl) (GC.go ?_); refine GC_run2 4000 ?_; dsimp only [Tryd.f27, CD, go_sem, Nat.reduceBEq, Nat.reduceAdd, Nat.reduceMul, Nat.reduceSub, Int.reduceBEq, Int.reduceBNe, Int.reduceAdd, Int.reduceSub, Int.reduceMul, Int.reduceToNat, Int.reduceNeg, encD])
  (refine GC.call (by first | rfl | (simp; done) | (simp [hdOK_encU, hdOK_encL, allSz_encU, allSz_encL, encU_length, encL_length, encD_one, encD_cells, AVone_v, AVone_sl, AVone_agg, AVone_ref, AVone_fn, AVone_ifc, AVcells_v, AVcells_sl, AVcells_agg, AVcells_ref, AVcells_fn, AVcells_ifc, Value.oneCell', allSz]; done) | (simp [hdOK_encU, hdOK_encL, allSz_encU, allSz_encL, encU_length, encL_length, encD_one, encD_cells, AVone_v, AVone_sl, AVone_agg, AVone_ref, AVone_fn, AVone_ifc, AVcells_v, AVcells_sl, AVcells_agg, AVcells_ref, AVcells_fn, AVcells_ifc, Value.oneCell', allSz]; omega)) (h1) ?_; refine GC_run2 4000 ?_; dsimp only [go_sem, Nat.reduceBEq, Nat.reduceAdd, Nat.reduceMul, Nat.reduceSub, Int.reduceBEq, Int.reduceBNe, Int.reduceAdd, Int.reduceSub, Int.reduceMul, Int.reduceToNat, Int.reduceNeg])
  (refine GC.call (by first | rfl | (simp; done) | (simp [hdOK_encU, hdOK_encL, allSz_encU, allSz_encL, encU_length, encL_length, encD_one, encD_cells, AVone_v, AVone_sl, AVone_agg, AVone_ref, AVone_fn, AVone_ifc, AVcells_v, AVcells_sl, AVcells_agg, AVcells_ref, AVcells_fn, AVcells_ifc, Value.oneCell', allSz]; done) | (simp [hdOK_encU, hdOK_encL, allSz_encU, allSz_encL, encU_length, encL_length, encD_one, encD_cells, AVone_v, AVone_sl, AVone_agg, AVone_ref, AVone_fn, AVone_ifc, AVcells_v, AVcells_sl, AVcells_agg, AVcells_ref, AVcells_fn, AVcells_ifc, Value.oneCell', allSz]; omega)) (h2) ?_; refine GC_run2 4000 ?_; dsimp only [go_sem, Nat.reduceBEq, Nat.reduceAdd, Nat.reduceMul, Nat.reduceSub, Int.reduceBEq, Int.reduceBNe, Int.reduceAdd, Int.reduceSub, Int.reduceMul, Int.reduceToNat, Int.reduceNeg])
  (refine GC.ord (by first | rfl | (simp; done) | (simp [hdOK_encU, hdOK_encL, allSz_encU, allSz_encL, encU_length, encL_length, encD_one, encD_cells, AVone_v, AVone_sl, AVone_agg, AVone_ref, AVone_fn, AVone_ifc, AVcells_v, AVcells_sl, AVcells_agg, AVcells_ref, AVcells_fn, AVcells_ifc, Value.oneCell', allSz]; done) | (simp [hdOK_encU, hdOK_encL, allSz_encU, allSz_encL, encU_length, encL_length, encD_one, encD_cells, AVone_v, AVone_sl, AVone_agg, AVone_ref, AVone_fn, AVone_ifc, AVcells_v, AVcells_sl, AVcells_agg, AVcells_ref, AVcells_fn, AVcells_ifc, Value.oneCell', allSz]; omega)) (by kernel_rfl) (by kernel_rfl) ?_; refine GC_run2 4000 ?_; dsimp only [go_sem, Nat.reduceBEq, Nat.reduceAdd, Nat.reduceMul, Nat.reduceSub, Int.reduceBEq, Int.reduceBNe, Int.reduceAdd, Int.reduceSub, Int.reduceMul, Int.reduceToNat, Int.reduceNeg])
  refine GC.finE (by first | rfl | (simp; done) | (simp [hdOK_encU, hdOK_encL, allSz_encU, allSz_encL, encU_length, encL_length, encD_one, encD_cells, AVone_v, AVone_sl, AVone_agg, AVone_ref, AVone_fn, AVone_ifc, AVcells_v, AVcells_sl, AVcells_agg, AVcells_ref, AVcells_fn, AVcells_ifc, Value.oneCell', allSz]; done) | (simp [hdOK_encU, hdOK_encL, allSz_encU, allSz_encL, encU_length, encL_length, encD_one, encD_cells, AVone_v, AVone_sl, AVone_agg, AVone_ref, AVone_fn, AVone_ifc, AVcells_v, AVcells_sl, AVcells_agg, AVcells_ref, AVcells_fn, AVcells_ifc, Value.oneCell', allSz]; omega)) ?_
  rfl
end
end Go.Sy

/- Contracts of the program's functions over abstract values. By gen.py. -/
set_option linter.unusedVariables false
set_option linter.unusedSimpArgs false
set_option maxRecDepth 100000
set_option maxHeartbeats 4000000
namespace Go.Sy
open Go.Proofs
attribute [local go_sem] runO_t runO_f band_t band_f bor_t bor_f bnot_t bnot_f gdK_tt gdK_ff gdK_tf gdK_ft brK_t brK_f runE_some runF_some runA_some runG_some runB_some runX_some runR_some run_nil run_skip run_seq run_region run_block run_blk run_exit run_cond run_ret run_loop run_lp run_opsNil run_opsOrd run_opsOp run_opsGuard run_cl run_gd run_br run_fin run_clx run_fst run_callf runY_t runY_f runS_some runV_t runV_f aBuildK_t aBuildK_f Mode.plain run_move run_nilCheck run_assign run_pick run_alloc run_box run_build run_buildSlice run_load run_store run_binOp run_unOp run_convert run_slice run_fieldAddr run_indexAddr run_index run_field run_extract run_makeInterface run_makeFunc run_len run_max run_min run_append St.ev St.evl St.evs St.evo capsOf callOf look drop put putAll toTV_nil toTV_int toTV_bool toTV_str toTV_ptr toTV_ifc toTV_fn toAV_nil toAV_int toAV_bool toAV_str toAV_ptr toAV_ifc toAV_fn aAssign_nil aAssign_tmp aAssign_int aAssign_bool aAssign_str aAssign_ptr aAssign_nilf aAssign_ifc aAssign_func aAssign_glob nilConst_slice nilConst_ptr nilConst_ifc nilConst_tmp plain Option.bind TV.cells TV.one AVone_v AVone_sl AVone_agg AVone_ref AVone_fn AVone_ifc AVone_sent Value.oneCell' oneVs avOf avsOf expo expos expoC exposC TV.isC allC fillsT aBuildT lendR ren renT0 renC renT renO renW xFoot xSt newIds retX retXs isT0 asList List.map St.app setD St.setT ownD trA effFoot callFoot callSt callReq St.fresh freshT freshO allFresh TV.ment TVs.ment SObj.ment fsts mentW noFoot List.contains List.elem aPick aAlloc aBox aBuild aBuildSlice nonNil allSz aUn aConv aField aIndex aByte aPart aExtract aIface aFunc aLen ty1 aMax aApp aAppend aCheck emptyL aSlice okHd hdOK_nil hdOK_cons aLoad aStore aBin aNil sBin sInt isSh sameSh nilness fills fillAt fillTV putCells intOf? mkInt AVcells_v AVcells_sl AVcells_agg AVcells_ref AVcells_fn AVcells_ifc AVcells_sent St.g0 St.g guardOf guardOff udf argsOf lends lendBox bindRes bindR bindRs flatR flatV boolOf retItems retItems0 retItem rowsOf disjB ownIds resIds nodupB St.init initT popTo cond_true cond_false Option.getD Option.map List.take List.drop List.length List.zip List.zipWith List.range List.range.loop List.append List.foldr List.nil_append List.cons_append List.append_nil List.getElem?_cons_zero List.getElem?_cons_succ GetElem?.getElem? List.get?Internal Int.toNat_natCast cst0 cst1 cst2 cst3 cst4 cst5 cst6 cst7 cst8 cst9 cst10 cst11 toNat0 toNat1 toNat2 toNat3 getD0 getD1 getD2 getD3 run_zero memN keepT dropO St.re leT leO D_q2  D_q3  D_q4  D_q5  D_q9  D_q12  D_q21  D_q22  D_q24  D_q25  D_q27  D_q28  D_q32  D_q46  D_q48  D_q50  D_q52  D_q53  D_q54  D_q56  D_q57  D_q61  D_q70  D_q72  D_q76  D_q77  D_q79  D_q80  D_q83  D_q85  D_q91  D_q93  D_q104  D_q108  D_q115  D_q118  D_q121  D_q134  D_q136  D_q137
section
variable {W0 : World} {κ : Nat → Addr} {GG : Nat → Option AV}

theorem D_items (d : Dat) (hf : fine d) : Sound (CD W0 κ GG) 28 [encD d] (match itemsD d with | some l => [.own true 27 6 (encL l), .av (.v (.bool true))] | none => [.av (.sl []), .av (.v (.bool false))]) := by
  obtain ⟨h1, h2, h3, h4⟩ := items_spec (cnt d) d (Nat.le_refl _)
  have hfin := fun j => tailN_fine j d hf
  unfold itemsD
  generalize (itemsA d).1 = out at *
  generalize (itemsA d).2 = e at *
  have hcd := hf.1
  obtain ⟨dk, dc, dneg, dmag, dt, dl⟩ := d
  (refine Sound.of_go D_ok D_mix Tryd.func28 rfl (by decide) (by kernel_rfl) (GC.go ?_); refine GC_run2 4000 ?_; dsimp only [Tryd.f28, CD, go_sem, Nat.reduceBEq, Nat.reduceAdd, Nat.reduceMul, Nat.reduceSub, Int.reduceBEq, Int.reduceBNe, Int.reduceAdd, Int.reduceSub, Int.reduceMul, Int.reduceToNat, Int.reduceNeg, encD])
  refine GC.loopR (by first | rfl | (simp; done) | (simp [hdOK_encU, hdOK_encL, allSz_encU, allSz_encL, encU_length, encL_length, encD_one, encD_cells, AVone_v, AVone_sl, AVone_agg, AVone_ref, AVone_fn, AVone_ifc, AVcells_v, AVcells_sl, AVcells_agg, AVcells_ref, AVcells_fn, AVcells_ifc, Value.oneCell', allSz]; done) | (simp [hdOK_encU, hdOK_encL, allSz_encU, allSz_encL, encU_length, encL_length, encD_one, encD_cells, AVone_v, AVone_sl, AVone_agg, AVone_ref, AVone_fn, AVone_ifc, AVcells_v, AVcells_sl, AVcells_agg, AVcells_ref, AVcells_fn, AVcells_ifc, Value.oneCell', allSz]; omega)) out.length [1] (fun j => [(4, .row 32 j)]) (fun j => [(8, boxD (tailN j (.mk dk dc dneg dmag dt dl))), (32, .row true 27 6 (encL (out.take j)))]) (fun j => True) ⟨rfl, trivial⟩ ⟨rfl, rfl, trivial⟩ trivial (fun j hj _ => ?_)
  have hfj := hfin j
  have htl : (encL (out.take j)).length = j := by rw [encL_length, List.length_take]; omega
  rcases Nat.lt_or_ge j out.length with hlt | hge
  · have hs := h1 j hlt
    have hsn := take_snoc_encL hlt
    have hf1 := stepD_fine hs hfj
    generalize htj : tailN j (.mk dk dc dneg dmag dt dl) = cur at *
    generalize htj2 : tailN (j + 1) (.mk dk dc dneg dmag dt dl) = nx at *
    obtain ⟨c, neg, mag, t, rfl⟩ := stepD_some hs
    generalize out[j] = x at *
    have hs2 := D_copied' (W0 := W0) (κ := κ) (GG := GG) x hf1.1
    obtain ⟨xk, xc, xneg, xmag, xt, xl⟩ := x
    obtain ⟨yk, yc, yneg, ymag, yt, yl⟩ := nx
    simp only [encD] at hsn hs2
    simp only [boxD, Dat.kind, Dat.c, Dat.neg, Dat.mag, Dat.t, Dat.l, encL, encD]
    (refine GC_run2 4000 ?_; dsimp only [go_sem, Nat.reduceBEq, Nat.reduceAdd, Nat.reduceMul, Nat.reduceSub, Int.reduceBEq, Int.reduceBNe, Int.reduceAdd, Int.reduceSub, Int.reduceMul, Int.reduceToNat, Int.reduceNeg])
    (refine GC.call (by first | rfl | (simp; done) | (simp [hdOK_encU, hdOK_encL, allSz_encU, allSz_encL, encU_length, encL_length, encD_one, encD_cells, AVone_v, AVone_sl, AVone_agg, AVone_ref, AVone_fn, AVone_ifc, AVcells_v, AVcells_sl, AVcells_agg, AVcells_ref, AVcells_fn, AVcells_ifc, Value.oneCell', allSz]; done) | (simp [hdOK_encU, hdOK_encL, allSz_encU, allSz_encL, encU_length, encL_length, encD_one, encD_cells, AVone_v, AVone_sl, AVone_agg, AVone_ref, AVone_fn, AVone_ifc, AVcells_v, AVcells_sl, AVcells_agg, AVcells_ref, AVcells_fn, AVcells_ifc, Value.oneCell', allSz]; omega)) (hs2) ?_; refine GC_run2 4000 ?_; dsimp only [go_sem, Nat.reduceBEq, Nat.reduceAdd, Nat.reduceMul, Nat.reduceSub, Int.reduceBEq, Int.reduceBNe, Int.reduceAdd, Int.reduceSub, Int.reduceMul, Int.reduceToNat, Int.reduceNeg])
    (refine GC.backR (by first | (simp [hdOK_encU, hdOK_encL, allSz_encU, allSz_encL, encU_length, encL_length, encD_one, encD_cells, AVone_v, AVone_sl, AVone_agg, AVone_ref, AVone_fn, AVone_ifc, AVcells_v, AVcells_sl, AVcells_agg, AVcells_ref, AVcells_fn, AVcells_ifc, Value.oneCell', allSz, htl]; done) | (simp [hdOK_encU, hdOK_encL, allSz_encU, allSz_encL, encU_length, encL_length, encD_one, encD_cells, AVone_v, AVone_sl, AVone_agg, AVone_ref, AVone_fn, AVone_ifc, AVcells_v, AVcells_sl, AVcells_agg, AVcells_ref, AVcells_fn, AVcells_ifc, Value.oneCell', allSz, htl]; omega)) (by omega) trivial ?_ ?_ <;> (repeat' (first | exact trivial | refine And.intro ?_ ?_)) <;> (try (dsimp only [go_sem, Nat.reduceBEq, Nat.reduceAdd, Nat.reduceMul, Nat.reduceSub, Int.reduceBEq, Int.reduceBNe, Int.reduceAdd, Int.reduceSub, Int.reduceMul, Int.reduceToNat, Int.reduceNeg])))
    · simp [look, htl]
    · rw [htj2]
    · exact congrArg (fun n => some (SObj.row true 27 6 n)) hsn
  · have : j = out.length := by omega
    subst this
    have htk : out.take out.length = out := List.take_length
    simp only [htk]
    rw [h2] at hfj ⊢
    obtain ⟨ek, ec, eneg, emag, et, el⟩ := e
    have hne := stepD_none h3
    have hll := encL_length el
    simp only [boxD, Dat.kind, Dat.c, Dat.neg, Dat.mag, Dat.t, Dat.l, encL, encD]
    (refine GC_run2 4000 ?_; dsimp only [go_sem, Nat.reduceBEq, Nat.reduceAdd, Nat.reduceMul, Nat.reduceSub, Int.reduceBEq, Int.reduceBNe, Int.reduceAdd, Int.reduceSub, Int.reduceMul, Int.reduceToNat, Int.reduceNeg])
    repeat' (first | (refine GC_gdK (fun h => ?_) (fun h => ?_) <;> (dsimp only [go_sem, Nat.reduceBEq, Nat.reduceAdd, Nat.reduceMul, Nat.reduceSub, Int.reduceBEq, Int.reduceBNe, Int.reduceAdd, Int.reduceSub, Int.reduceMul, Int.reduceToNat, Int.reduceNeg])) | (refine GC_brK (fun h => ?_) (fun h => ?_) <;> (dsimp only [go_sem, Nat.reduceBEq, Nat.reduceAdd, Nat.reduceMul, Nat.reduceSub, Int.reduceBEq, Int.reduceBNe, Int.reduceAdd, Int.reduceSub, Int.reduceMul, Int.reduceToNat, Int.reduceNeg])))
    all_goals
      first
      | (exfalso; simp [beq_len, hll] at *; omega)
      | (refine GC.finE (by first | rfl | (simp; done) | (simp [hdOK_encU, hdOK_encL, allSz_encU, allSz_encL, encU_length, encL_length, encD_one, encD_cells, AVone_v, AVone_sl, AVone_agg, AVone_ref, AVone_fn, AVone_ifc, AVcells_v, AVcells_sl, AVcells_agg, AVcells_ref, AVcells_fn, AVcells_ifc, Value.oneCell', allSz]; done) | (simp [hdOK_encU, hdOK_encL, allSz_encU, allSz_encL, encU_length, encL_length, encD_one, encD_cells, AVone_v, AVone_sl, AVone_agg, AVone_ref, AVone_fn, AVone_ifc, AVcells_v, AVcells_sl, AVcells_agg, AVcells_ref, AVcells_fn, AVcells_ifc, Value.oneCell', allSz]; omega)) ?_
         simp at *
         simp [*, encL_length]
         done)
      | (refine GC.finE (by first | rfl | (simp; done) | (simp [hdOK_encU, hdOK_encL, allSz_encU, allSz_encL, encU_length, encL_length, encD_one, encD_cells, AVone_v, AVone_sl, AVone_agg, AVone_ref, AVone_fn, AVone_ifc, AVcells_v, AVcells_sl, AVcells_agg, AVcells_ref, AVcells_fn, AVcells_ifc, Value.oneCell', allSz]; done) | (simp [hdOK_encU, hdOK_encL, allSz_encU, allSz_encL, encU_length, encL_length, encD_one, encD_cells, AVone_v, AVone_sl, AVone_agg, AVone_ref, AVone_fn, AVone_ifc, AVcells_v, AVcells_sl, AVcells_agg, AVcells_ref, AVcells_fn, AVcells_ifc, Value.oneCell', allSz]; omega)) ?_
         simp at *
         rfl)

theorem D_ritems (d : Dat) (hf : fine d) : Sound (CD W0 κ GG) 36 [encD d] (match itemsD d with | some l => [.own true 27 6 (encL l), .av (.v (.bool true))] | none => [.av (.sl []), .av (.v (.bool false))]) := by
  obtain ⟨h1, h2, h3, h4⟩ := items_spec (cnt d) d (Nat.le_refl _)
  have hfin := fun j => tailN_fine j d hf
  unfold itemsD
  generalize (itemsA d).1 = out at *
  generalize (itemsA d).2 = e at *
  have hcd := hf.1
  obtain ⟨dk, dc, dneg, dmag, dt, dl⟩ := d
  (refine Sound.of_go D_ok D_mix Tryd.func36 rfl (by decide) (by kernel_rfl) (GC.go ?_); refine GC_run2 4000 ?_; dsimp only [Tryd.f36, CD, go_sem, Nat.reduceBEq, Nat.reduceAdd, Nat.reduceMul, Nat.reduceSub, Int.reduceBEq, Int.reduceBNe, Int.reduceAdd, Int.reduceSub, Int.reduceMul, Int.reduceToNat, Int.reduceNeg, encD])
  refine GC.loopR (by first | rfl | (simp; done) | (simp [hdOK_encU, hdOK_encL, allSz_encU, allSz_encL, encU_length, encL_length, encD_one, encD_cells, AVone_v, AVone_sl, AVone_agg, AVone_ref, AVone_fn, AVone_ifc, AVcells_v, AVcells_sl, AVcells_agg, AVcells_ref, AVcells_fn, AVcells_ifc, Value.oneCell', allSz]; done) | (simp [hdOK_encU, hdOK_encL, allSz_encU, allSz_encL, encU_length, encL_length, encD_one, encD_cells, AVone_v, AVone_sl, AVone_agg, AVone_ref, AVone_fn, AVone_ifc, AVcells_v, AVcells_sl, AVcells_agg, AVcells_ref, AVcells_fn, AVcells_ifc, Value.oneCell', allSz]; omega)) out.length [1] (fun j => [(4, .row 32 j)]) (fun j => [(8, boxD (tailN j (.mk dk dc dneg dmag dt dl))), (32, .row true 27 6 (encL (out.take j)))]) (fun j => True) ⟨rfl, trivial⟩ ⟨rfl, rfl, trivial⟩ trivial (fun j hj _ => ?_)
  have hfj := hfin j
  have htl : (encL (out.take j)).length = j := by rw [encL_length, List.length_take]; omega
  rcases Nat.lt_or_ge j out.length with hlt | hge
  · have hs := h1 j hlt
    have hsn := take_snoc_encL hlt
    have hf1 := stepD_fine hs hfj
    generalize htj : tailN j (.mk dk dc dneg dmag dt dl) = cur at *
    generalize htj2 : tailN (j + 1) (.mk dk dc dneg dmag dt dl) = nx at *
    obtain ⟨c, neg, mag, t, rfl⟩ := stepD_some hs
    generalize out[j] = x at *
    
    obtain ⟨xk, xc, xneg, xmag, xt, xl⟩ := x
    obtain ⟨yk, yc, yneg, ymag, yt, yl⟩ := nx
    simp only [encD] at hsn 
    simp only [boxD, Dat.kind, Dat.c, Dat.neg, Dat.mag, Dat.t, Dat.l, encL, encD]
    (refine GC_run2 4000 ?_; dsimp only [go_sem, Nat.reduceBEq, Nat.reduceAdd, Nat.reduceMul, Nat.reduceSub, Int.reduceBEq, Int.reduceBNe, Int.reduceAdd, Int.reduceSub, Int.reduceMul, Int.reduceToNat, Int.reduceNeg])
    
    (refine GC.backR (by first | (simp [hdOK_encU, hdOK_encL, allSz_encU, allSz_encL, encU_length, encL_length, encD_one, encD_cells, AVone_v, AVone_sl, AVone_agg, AVone_ref, AVone_fn, AVone_ifc, AVcells_v, AVcells_sl, AVcells_agg, AVcells_ref, AVcells_fn, AVcells_ifc, Value.oneCell', allSz, htl]; done) | (simp [hdOK_encU, hdOK_encL, allSz_encU, allSz_encL, encU_length, encL_length, encD_one, encD_cells, AVone_v, AVone_sl, AVone_agg, AVone_ref, AVone_fn, AVone_ifc, AVcells_v, AVcells_sl, AVcells_agg, AVcells_ref, AVcells_fn, AVcells_ifc, Value.oneCell', allSz, htl]; omega)) (by omega) trivial ?_ ?_ <;> (repeat' (first | exact trivial | refine And.intro ?_ ?_)) <;> (try (dsimp only [go_sem, Nat.reduceBEq, Nat.reduceAdd, Nat.reduceMul, Nat.reduceSub, Int.reduceBEq, Int.reduceBNe, Int.reduceAdd, Int.reduceSub, Int.reduceMul, Int.reduceToNat, Int.reduceNeg])))
    · simp [look, htl]
    · rw [htj2]
    · exact congrArg (fun n => some (SObj.row true 27 6 n)) hsn
  · have : j = out.length := by omega
    subst this
    have htk : out.take out.length = out := List.take_length
    simp only [htk]
    rw [h2] at hfj ⊢
    obtain ⟨ek, ec, eneg, emag, et, el⟩ := e
    have hne := stepD_none h3
    have hll := encL_length el
    simp only [boxD, Dat.kind, Dat.c, Dat.neg, Dat.mag, Dat.t, Dat.l, encL, encD]
    (refine GC_run2 4000 ?_; dsimp only [go_sem, Nat.reduceBEq, Nat.reduceAdd, Nat.reduceMul, Nat.reduceSub, Int.reduceBEq, Int.reduceBNe, Int.reduceAdd, Int.reduceSub, Int.reduceMul, Int.reduceToNat, Int.reduceNeg])
    repeat' (first | (refine GC_gdK (fun h => ?_) (fun h => ?_) <;> (dsimp only [go_sem, Nat.reduceBEq, Nat.reduceAdd, Nat.reduceMul, Nat.reduceSub, Int.reduceBEq, Int.reduceBNe, Int.reduceAdd, Int.reduceSub, Int.reduceMul, Int.reduceToNat, Int.reduceNeg])) | (refine GC_brK (fun h => ?_) (fun h => ?_) <;> (dsimp only [go_sem, Nat.reduceBEq, Nat.reduceAdd, Nat.reduceMul, Nat.reduceSub, Int.reduceBEq, Int.reduceBNe, Int.reduceAdd, Int.reduceSub, Int.reduceMul, Int.reduceToNat, Int.reduceNeg])))
    all_goals
      first
      | (exfalso; simp [beq_len, hll] at *; omega)
      | (refine GC.finE (by first | rfl | (simp; done) | (simp [hdOK_encU, hdOK_encL, allSz_encU, allSz_encL, encU_length, encL_length, encD_one, encD_cells, AVone_v, AVone_sl, AVone_agg, AVone_ref, AVone_fn, AVone_ifc, AVcells_v, AVcells_sl, AVcells_agg, AVcells_ref, AVcells_fn, AVcells_ifc, Value.oneCell', allSz]; done) | (simp [hdOK_encU, hdOK_encL, allSz_encU, allSz_encL, encU_length, encL_length, encD_one, encD_cells, AVone_v, AVone_sl, AVone_agg, AVone_ref, AVone_fn, AVone_ifc, AVcells_v, AVcells_sl, AVcells_agg, AVcells_ref, AVcells_fn, AVcells_ifc, Value.oneCell', allSz]; omega)) ?_
         simp at *
         simp [*, encL_length]
         done)
      | (refine GC.finE (by first | rfl | (simp; done) | (simp [hdOK_encU, hdOK_encL, allSz_encU, allSz_encL, encU_length, encL_length, encD_one, encD_cells, AVone_v, AVone_sl, AVone_agg, AVone_ref, AVone_fn, AVone_ifc, AVcells_v, AVcells_sl, AVcells_agg, AVcells_ref, AVcells_fn, AVcells_ifc, Value.oneCell', allSz]; done) | (simp [hdOK_encU, hdOK_encL, allSz_encU, allSz_encL, encU_length, encL_length, encD_one, encD_cells, AVone_v, AVone_sl, AVone_agg, AVone_ref, AVone_fn, AVone_ifc, AVcells_v, AVcells_sl, AVcells_agg, AVcells_ref, AVcells_fn, AVcells_ifc, Value.oneCell', allSz]; omega)) ?_
         simp at *
         rfl)

/-- The document's list: from the last one on. -/
theorem D_rlist (l : List Dat) (hl : l.length < 1099511627776) : Sound (CD W0 κ GG) 35 [.sl (encL l)] [.av (encD (listD l))] := by
  have hll := encL_length l
  (refine Sound.of_go D_ok D_mix Tryd.func35 rfl (by decide) (by kernel_rfl) (GC.go ?_); refine GC_run2 4000 ?_; dsimp only [Tryd.f35, CD, go_sem, Nat.reduceBEq, Nat.reduceAdd, Nat.reduceMul, Nat.reduceSub, Int.reduceBEq, Int.reduceBNe, Int.reduceAdd, Int.reduceSub, Int.reduceMul, Int.reduceToNat, Int.reduceNeg, encD])
  refine GC.loopR (by first | rfl | (simp; done) | (simp [hdOK_encU, hdOK_encL, allSz_encU, allSz_encL, encU_length, encL_length, encD_one, encD_cells, AVone_v, AVone_sl, AVone_agg, AVone_ref, AVone_fn, AVone_ifc, AVcells_v, AVcells_sl, AVcells_agg, AVcells_ref, AVcells_fn, AVcells_ifc, Value.oneCell', allSz]; done) | (simp [hdOK_encU, hdOK_encL, allSz_encU, allSz_encL, encU_length, encL_length, encD_one, encD_cells, AVone_v, AVone_sl, AVone_agg, AVone_ref, AVone_fn, AVone_ifc, AVcells_v, AVcells_sl, AVcells_agg, AVcells_ref, AVcells_fn, AVcells_ifc, Value.oneCell', allSz]; omega)) l.length [0, 2, 3] (fun j => [(4, .av (.v (.int .i64 ((l.length : Int) - 1 - j))))]) (fun j => [(24, boxD (listE (l.drop (l.length - j)) nilD))]) (fun j => True) ⟨?_, trivial⟩ ⟨?_, trivial⟩ trivial (fun j hj _ => ?_)
  · have : IntKind.i64.wrap ((l.length : Int) - 1) = (l.length : Int) - 1 := wrap_i64 (by omega) (by omega)
    simp [look, hll, this]
  · simp [look, listE, List.drop_length]; rfl
  rcases Nat.lt_or_ge j l.length with hlt | hge
  · have hd : decide ((l.length : Int) - 1 - j ≥ 0) = true := by simp; omega
    have hn : ((l.length : Int) - 1 - j).toNat = l.length - 1 - j := by omega
    have hx : (encL l).getD (l.length - 1 - j) dflt = _ := encL_get (by omega)
    have hdr := listE_drop (l := l) (i := l.length - (j + 1)) (by omega) nilD
    have he : l.length - (j + 1) + 1 = l.length - j := by omega
    have he2 : l.length - (j + 1) = l.length - 1 - j := by omega
    have hw : IntKind.i64.wrap ((l.length : Int) - 1 - j - 1) = (l.length : Int) - 1 - (j + 1 : Nat) := by rw [wrap_i64 (by omega) (by omega)]; omega
    rw [he] at hdr
    simp only [he2] at hdr
    generalize hcur : listE (l.drop (l.length - j)) nilD = cur at *
    generalize l[l.length - 1 - j] = x at *
    obtain ⟨xk, xc, xneg, xmag, xt, xl⟩ := x
    obtain ⟨yk, yc, yneg, ymag, yt, yl⟩ := cur
    simp only [encD] at hx
    simp only [boxD, Dat.kind, Dat.c, Dat.neg, Dat.mag, Dat.t, Dat.l]
    (refine GC_run2 4000 ?_; dsimp only [go_sem, Nat.reduceBEq, Nat.reduceAdd, Nat.reduceMul, Nat.reduceSub, Int.reduceBEq, Int.reduceBNe, Int.reduceAdd, Int.reduceSub, Int.reduceMul, Int.reduceToNat, Int.reduceNeg])
    (repeat (simp only [hd, hn, hx]; try (dsimp only [go_sem, Nat.reduceBEq, Nat.reduceAdd, Nat.reduceMul, Nat.reduceSub, Int.reduceBEq, Int.reduceBNe, Int.reduceAdd, Int.reduceSub, Int.reduceMul, Int.reduceToNat, Int.reduceNeg])))
    (refine GC.ord (by first | rfl | (simp; done) | (simp [hdOK_encU, hdOK_encL, allSz_encU, allSz_encL, encU_length, encL_length, encD_one, encD_cells, AVone_v, AVone_sl, AVone_agg, AVone_ref, AVone_fn, AVone_ifc, AVcells_v, AVcells_sl, AVcells_agg, AVcells_ref, AVcells_fn, AVcells_ifc, Value.oneCell', allSz]; done) | (simp [hdOK_encU, hdOK_encL, allSz_encU, allSz_encL, encU_length, encL_length, encD_one, encD_cells, AVone_v, AVone_sl, AVone_agg, AVone_ref, AVone_fn, AVone_ifc, AVcells_v, AVcells_sl, AVcells_agg, AVcells_ref, AVcells_fn, AVcells_ifc, Value.oneCell', allSz]; omega)) (by kernel_rfl) (by kernel_rfl) ?_; refine GC_run2 4000 ?_; dsimp only [go_sem, Nat.reduceBEq, Nat.reduceAdd, Nat.reduceMul, Nat.reduceSub, Int.reduceBEq, Int.reduceBNe, Int.reduceAdd, Int.reduceSub, Int.reduceMul, Int.reduceToNat, Int.reduceNeg])
    (refine GC.backR (by first | (simp [hdOK_encU, hdOK_encL, allSz_encU, allSz_encL, encU_length, encL_length, encD_one, encD_cells, AVone_v, AVone_sl, AVone_agg, AVone_ref, AVone_fn, AVone_ifc, AVcells_v, AVcells_sl, AVcells_agg, AVcells_ref, AVcells_fn, AVcells_ifc, Value.oneCell', allSz, hll]; done) | (simp [hdOK_encU, hdOK_encL, allSz_encU, allSz_encL, encU_length, encL_length, encD_one, encD_cells, AVone_v, AVone_sl, AVone_agg, AVone_ref, AVone_fn, AVone_ifc, AVcells_v, AVcells_sl, AVcells_agg, AVcells_ref, AVcells_fn, AVcells_ifc, Value.oneCell', allSz, hll]; omega)) (by omega) trivial ?_ ?_ <;> (repeat' (first | exact trivial | refine And.intro ?_ ?_)) <;> (try (dsimp only [go_sem, Nat.reduceBEq, Nat.reduceAdd, Nat.reduceMul, Nat.reduceSub, Int.reduceBEq, Int.reduceBNe, Int.reduceAdd, Int.reduceSub, Int.reduceMul, Int.reduceToNat, Int.reduceNeg])))
    · exact congrArg (fun n => some (TV.av (.v (.int .i64 n)))) hw
    · rw [he2, hdr]; rfl
  · have : j = l.length := by omega
    subst this
    have hd : decide ((l.length : Int) - 1 - l.length ≥ 0) = false := by simp; omega
    have : l.drop (l.length - l.length) = l := by simp
    simp only [this]
    unfold listD
    generalize listE l nilD = e
    obtain ⟨xk, xc, xneg, xmag, xt, xl⟩ := e
    simp only [boxD, Dat.kind, Dat.c, Dat.neg, Dat.mag, Dat.t, Dat.l]
    (refine GC_run2 4000 ?_; dsimp only [go_sem, Nat.reduceBEq, Nat.reduceAdd, Nat.reduceMul, Nat.reduceSub, Int.reduceBEq, Int.reduceBNe, Int.reduceAdd, Int.reduceSub, Int.reduceMul, Int.reduceToNat, Int.reduceNeg])
    (repeat (simp only [hd]; try (dsimp only [go_sem, Nat.reduceBEq, Nat.reduceAdd, Nat.reduceMul, Nat.reduceSub, Int.reduceBEq, Int.reduceBNe, Int.reduceAdd, Int.reduceSub, Int.reduceMul, Int.reduceToNat, Int.reduceNeg])))
    refine GC.finE (by first | rfl | (simp; done) | (simp [hdOK_encU, hdOK_encL, allSz_encU, allSz_encL, encU_length, encL_length, encD_one, encD_cells, AVone_v, AVone_sl, AVone_agg, AVone_ref, AVone_fn, AVone_ifc, AVcells_v, AVcells_sl, AVcells_agg, AVcells_ref, AVcells_fn, AVcells_ifc, Value.oneCell', allSz]; done) | (simp [hdOK_encU, hdOK_encL, allSz_encU, allSz_encL, encU_length, encL_length, encD_one, encD_cells, AVone_v, AVone_sl, AVone_agg, AVone_ref, AVone_fn, AVone_ifc, AVcells_v, AVcells_sl, AVcells_agg, AVcells_ref, AVcells_fn, AVcells_ifc, Value.oneCell', allSz]; omega)) ?_
    rfl
end
end Go.Sy

/- Contracts of the program's functions over abstract values. By gen.py. -/
set_option linter.unusedVariables false
set_option linter.unusedSimpArgs false
set_option maxRecDepth 100000
set_option maxHeartbeats 4000000
namespace Go.Sy
open Go.Proofs
attribute [local go_sem] runO_t runO_f band_t band_f bor_t bor_f bnot_t bnot_f gdK_tt gdK_ff gdK_tf gdK_ft brK_t brK_f runE_some runF_some runA_some runG_some runB_some runX_some runR_some run_nil run_skip run_seq run_region run_block run_blk run_exit run_cond run_ret run_loop run_lp run_opsNil run_opsOrd run_opsOp run_opsGuard run_cl run_gd run_br run_fin run_clx run_fst run_callf runY_t runY_f runS_some runV_t runV_f aBuildK_t aBuildK_f Mode.plain run_move run_nilCheck run_assign run_pick run_alloc run_box run_build run_buildSlice run_load run_store run_binOp run_unOp run_convert run_slice run_fieldAddr run_indexAddr run_index run_field run_extract run_makeInterface run_makeFunc run_len run_max run_min run_append St.ev St.evl St.evs St.evo capsOf callOf look drop put putAll toTV_nil toTV_int toTV_bool toTV_str toTV_ptr toTV_ifc toTV_fn toAV_nil toAV_int toAV_bool toAV_str toAV_ptr toAV_ifc toAV_fn aAssign_nil aAssign_tmp aAssign_int aAssign_bool aAssign_str aAssign_ptr aAssign_nilf aAssign_ifc aAssign_func aAssign_glob nilConst_slice nilConst_ptr nilConst_ifc nilConst_tmp plain Option.bind TV.cells TV.one AVone_v AVone_sl AVone_agg AVone_ref AVone_fn AVone_ifc AVone_sent Value.oneCell' oneVs avOf avsOf expo expos expoC exposC TV.isC allC fillsT aBuildT lendR ren renT0 renC renT renO renW xFoot xSt newIds retX retXs isT0 asList List.map St.app setD St.setT ownD trA effFoot callFoot callSt callReq St.fresh freshT freshO allFresh TV.ment TVs.ment SObj.ment fsts mentW noFoot List.contains List.elem aPick aAlloc aBox aBuild aBuildSlice nonNil allSz aUn aConv aField aIndex aByte aPart aExtract aIface aFunc aLen ty1 aMax aApp aAppend aCheck emptyL aSlice okHd hdOK_nil hdOK_cons aLoad aStore aBin aNil sBin sInt isSh sameSh nilness fills fillAt fillTV putCells intOf? mkInt AVcells_v AVcells_sl AVcells_agg AVcells_ref AVcells_fn AVcells_ifc AVcells_sent St.g0 St.g guardOf guardOff udf argsOf lends lendBox bindRes bindR bindRs flatR flatV boolOf retItems retItems0 retItem rowsOf disjB ownIds resIds nodupB St.init initT popTo cond_true cond_false Option.getD Option.map List.take List.drop List.length List.zip List.zipWith List.range List.range.loop List.append List.foldr List.nil_append List.cons_append List.append_nil List.getElem?_cons_zero List.getElem?_cons_succ GetElem?.getElem? List.get?Internal Int.toNat_natCast cst0 cst1 cst2 cst3 cst4 cst5 cst6 cst7 cst8 cst9 cst10 cst11 toNat0 toNat1 toNat2 toNat3 getD0 getD1 getD2 getD3 run_zero memN keepT dropO St.re leT leO D_q2  D_q3  D_q4  D_q5  D_q9  D_q12  D_q21  D_q22  D_q24  D_q25  D_q27  D_q28  D_q32  D_q46  D_q48  D_q50  D_q52  D_q53  D_q54  D_q56  D_q57  D_q61  D_q70  D_q72  D_q76  D_q77  D_q79  D_q80  D_q83  D_q85  D_q91  D_q93  D_q104  D_q108  D_q115  D_q118  D_q121  D_q134  D_q136  D_q137
section
variable {W0 : World} {κ : Nat → Addr} {GG : Nat → Option AV}

theorem D_own (d : Dat) : Sound (CD W0 κ GG) 71 [encD d] [.av (encD (bareD d))] := by
  obtain ⟨k, c, neg, mag, t, l⟩ := d
  (refine Sound.of_go D_ok D_mix Tryd.func71 rfl (by decide) (by kernel_rfl) (GC.go ?_); refine GC_run2 4000 ?_; dsimp only [Tryd.f71, CD, go_sem, Nat.reduceBEq, Nat.reduceAdd, Nat.reduceMul, Nat.reduceSub, Int.reduceBEq, Int.reduceBNe, Int.reduceAdd, Int.reduceSub, Int.reduceMul, Int.reduceToNat, Int.reduceNeg, encD])
  repeat' (first | (refine GC_gdK (fun h => ?_) (fun h => ?_) <;> (dsimp only [go_sem, Nat.reduceBEq, Nat.reduceAdd, Nat.reduceMul, Nat.reduceSub, Int.reduceBEq, Int.reduceBNe, Int.reduceAdd, Int.reduceSub, Int.reduceMul, Int.reduceToNat, Int.reduceNeg])) | (refine GC_brK (fun h => ?_) (fun h => ?_) <;> (dsimp only [go_sem, Nat.reduceBEq, Nat.reduceAdd, Nat.reduceMul, Nat.reduceSub, Int.reduceBEq, Int.reduceBNe, Int.reduceAdd, Int.reduceSub, Int.reduceMul, Int.reduceToNat, Int.reduceNeg])))
  all_goals
    first
    | (exfalso; simp only [beq_iff_eq, beq_eq_false_iff_ne] at *; omega)
    | (refine GC.finE (by first | rfl | (simp; done) | (simp [hdOK_encU, hdOK_encL, allSz_encU, allSz_encL, encU_length, encL_length, encD_one, encD_cells, AVone_v, AVone_sl, AVone_agg, AVone_ref, AVone_fn, AVone_ifc, AVcells_v, AVcells_sl, AVcells_agg, AVcells_ref, AVcells_fn, AVcells_ifc, Value.oneCell', allSz]; done) | (simp [hdOK_encU, hdOK_encL, allSz_encU, allSz_encL, encU_length, encL_length, encD_one, encD_cells, AVone_v, AVone_sl, AVone_agg, AVone_ref, AVone_fn, AVone_ifc, AVcells_v, AVcells_sl, AVcells_agg, AVcells_ref, AVcells_fn, AVcells_ifc, Value.oneCell', allSz]; omega)) ?_
       simp at *
       simp [bareD, *]
       try rfl)
theorem D_vrune (c : Int) : Sound (CD W0 κ GG) 72 [.v (.int .i32 c)] [.av (.v (.bool (charOK c)))] := by
  (refine Sound.of_go D_ok D_mix Tryd.func72 rfl (by decide) (by kernel_rfl) (GC.go ?_); refine GC_run2 4000 ?_; dsimp only [Tryd.f72, CD, go_sem, Nat.reduceBEq, Nat.reduceAdd, Nat.reduceMul, Nat.reduceSub, Int.reduceBEq, Int.reduceBNe, Int.reduceAdd, Int.reduceSub, Int.reduceMul, Int.reduceToNat, Int.reduceNeg, encD])
  repeat' (first | (refine GC_gdK (fun h => ?_) (fun h => ?_) <;> (dsimp only [go_sem, Nat.reduceBEq, Nat.reduceAdd, Nat.reduceMul, Nat.reduceSub, Int.reduceBEq, Int.reduceBNe, Int.reduceAdd, Int.reduceSub, Int.reduceMul, Int.reduceToNat, Int.reduceNeg])) | (refine GC_brK (fun h => ?_) (fun h => ?_) <;> (dsimp only [go_sem, Nat.reduceBEq, Nat.reduceAdd, Nat.reduceMul, Nat.reduceSub, Int.reduceBEq, Int.reduceBNe, Int.reduceAdd, Int.reduceSub, Int.reduceMul, Int.reduceToNat, Int.reduceNeg])))
  all_goals
    refine GC.finE (by first | rfl | (simp; done) | (simp [hdOK_encU, hdOK_encL, allSz_encU, allSz_encL, encU_length, encL_length, encD_one, encD_cells, AVone_v, AVone_sl, AVone_agg, AVone_ref, AVone_fn, AVone_ifc, AVcells_v, AVcells_sl, AVcells_agg, AVcells_ref, AVcells_fn, AVcells_ifc, Value.oneCell', allSz]; done) | (simp [hdOK_encU, hdOK_encL, allSz_encU, allSz_encL, encU_length, encL_length, encD_one, encD_cells, AVone_v, AVone_sl, AVone_agg, AVone_ref, AVone_fn, AVone_ifc, AVcells_v, AVcells_sl, AVcells_agg, AVcells_ref, AVcells_fn, AVcells_ifc, Value.oneCell', allSz]; omega)) ?_
    refine congrArg (fun b => [RItem.av (AV.v (Value.bool b))]) ?_
    rw [Bool.eq_iff_iff]
    simp [charOK] at *
    try omega
theorem D_rchar (c : Int) : Sound (CD W0 κ GG) 78 [.v (.int .i32 c)] [.av (.v (.bool (charOK c)))] := by
  (refine Sound.of_go D_ok D_mix Tryd.func78 rfl (by decide) (by kernel_rfl) (GC.go ?_); refine GC_run2 4000 ?_; dsimp only [Tryd.f78, CD, go_sem, Nat.reduceBEq, Nat.reduceAdd, Nat.reduceMul, Nat.reduceSub, Int.reduceBEq, Int.reduceBNe, Int.reduceAdd, Int.reduceSub, Int.reduceMul, Int.reduceToNat, Int.reduceNeg, encD])
  repeat' (first | (refine GC_gdK (fun h => ?_) (fun h => ?_) <;> (dsimp only [go_sem, Nat.reduceBEq, Nat.reduceAdd, Nat.reduceMul, Nat.reduceSub, Int.reduceBEq, Int.reduceBNe, Int.reduceAdd, Int.reduceSub, Int.reduceMul, Int.reduceToNat, Int.reduceNeg])) | (refine GC_brK (fun h => ?_) (fun h => ?_) <;> (dsimp only [go_sem, Nat.reduceBEq, Nat.reduceAdd, Nat.reduceMul, Nat.reduceSub, Int.reduceBEq, Int.reduceBNe, Int.reduceAdd, Int.reduceSub, Int.reduceMul, Int.reduceToNat, Int.reduceNeg])))
  all_goals
    refine GC.finE (by first | rfl | (simp; done) | (simp [hdOK_encU, hdOK_encL, allSz_encU, allSz_encL, encU_length, encL_length, encD_one, encD_cells, AVone_v, AVone_sl, AVone_agg, AVone_ref, AVone_fn, AVone_ifc, AVcells_v, AVcells_sl, AVcells_agg, AVcells_ref, AVcells_fn, AVcells_ifc, Value.oneCell', allSz]; done) | (simp [hdOK_encU, hdOK_encL, allSz_encU, allSz_encL, encU_length, encL_length, encD_one, encD_cells, AVone_v, AVone_sl, AVone_agg, AVone_ref, AVone_fn, AVone_ifc, AVcells_v, AVcells_sl, AVcells_agg, AVcells_ref, AVcells_fn, AVcells_ifc, Value.oneCell', allSz]; omega)) ?_
    refine congrArg (fun b => [RItem.av (AV.v (Value.bool b))]) ?_
    rw [Bool.eq_iff_iff]
    simp [charOK] at *
    try omega
end
end Go.Sy

/- Contracts of the program's functions over abstract values. By gen.py. -/
set_option linter.unusedVariables false
set_option linter.unusedSimpArgs false
set_option maxRecDepth 100000
set_option maxHeartbeats 4000000
namespace Go.Sy
open Go.Proofs
attribute [local go_sem] runO_t runO_f band_t band_f bor_t bor_f bnot_t bnot_f gdK_tt gdK_ff gdK_tf gdK_ft brK_t brK_f runE_some runF_some runA_some runG_some runB_some runX_some runR_some run_nil run_skip run_seq run_region run_block run_blk run_exit run_cond run_ret run_loop run_lp run_opsNil run_opsOrd run_opsOp run_opsGuard run_cl run_gd run_br run_fin run_clx run_fst run_callf runY_t runY_f runS_some runV_t runV_f aBuildK_t aBuildK_f Mode.plain run_move run_nilCheck run_assign run_pick run_alloc run_box run_build run_buildSlice run_load run_store run_binOp run_unOp run_convert run_slice run_fieldAddr run_indexAddr run_index run_field run_extract run_makeInterface run_makeFunc run_len run_max run_min run_append St.ev St.evl St.evs St.evo capsOf callOf look drop put putAll toTV_nil toTV_int toTV_bool toTV_str toTV_ptr toTV_ifc toTV_fn toAV_nil toAV_int toAV_bool toAV_str toAV_ptr toAV_ifc toAV_fn aAssign_nil aAssign_tmp aAssign_int aAssign_bool aAssign_str aAssign_ptr aAssign_nilf aAssign_ifc aAssign_func aAssign_glob nilConst_slice nilConst_ptr nilConst_ifc nilConst_tmp plain Option.bind TV.cells TV.one AVone_v AVone_sl AVone_agg AVone_ref AVone_fn AVone_ifc AVone_sent Value.oneCell' oneVs avOf avsOf expo expos expoC exposC TV.isC allC fillsT aBuildT lendR ren renT0 renC renT renO renW xFoot xSt newIds retX retXs isT0 asList List.map St.app setD St.setT ownD trA effFoot callFoot callSt callReq St.fresh freshT freshO allFresh TV.ment TVs.ment SObj.ment fsts mentW noFoot List.contains List.elem aPick aAlloc aBox aBuild aBuildSlice nonNil allSz aUn aConv aField aIndex aByte aPart aExtract aIface aFunc aLen ty1 aMax aApp aAppend aCheck emptyL aSlice okHd hdOK_nil hdOK_cons aLoad aStore aBin aNil sBin sInt isSh sameSh nilness fills fillAt fillTV putCells intOf? mkInt AVcells_v AVcells_sl AVcells_agg AVcells_ref AVcells_fn AVcells_ifc AVcells_sent St.g0 St.g guardOf guardOff udf argsOf lends lendBox bindRes bindR bindRs flatR flatV boolOf retItems retItems0 retItem rowsOf disjB ownIds resIds nodupB St.init initT popTo cond_true cond_false Option.getD Option.map List.take List.drop List.length List.zip List.zipWith List.range List.range.loop List.append List.foldr List.nil_append List.cons_append List.append_nil List.getElem?_cons_zero List.getElem?_cons_succ GetElem?.getElem? List.get?Internal Int.toNat_natCast cst0 cst1 cst2 cst3 cst4 cst5 cst6 cst7 cst8 cst9 cst10 cst11 toNat0 toNat1 toNat2 toNat3 getD0 getD1 getD2 getD3 run_zero memN keepT dropO St.re leT leO D_q2  D_q3  D_q4  D_q5  D_q9  D_q12  D_q21  D_q22  D_q24  D_q25  D_q27  D_q28  D_q32  D_q46  D_q48  D_q50  D_q52  D_q53  D_q54  D_q56  D_q57  D_q61  D_q70  D_q72  D_q76  D_q77  D_q79  D_q80  D_q83  D_q85  D_q91  D_q93  D_q104  D_q108  D_q115  D_q118  D_q121  D_q134  D_q136  D_q137
section
variable {W0 : World} {κ : Nat → Addr} {GG : Nat → Option AV}

theorem D_trim (m : List Int) (hm : m.length < 1099511627776) : Sound (CD W0 κ GG) 99 [.sl (encU m)] [.av (.sl (encU (trimL m)))] := by
  have hl := encU_length m
  (refine Sound.of_go D_ok D_mix Tryd.func99 rfl (by decide) (by kernel_rfl) (GC.go ?_); refine GC_run2 4000 ?_; dsimp only [Tryd.f99, CD, go_sem, Nat.reduceBEq, Nat.reduceAdd, Nat.reduceMul, Nat.reduceSub, Int.reduceBEq, Int.reduceBNe, Int.reduceAdd, Int.reduceSub, Int.reduceMul, Int.reduceToNat, Int.reduceNeg, encD])
  refine GC.loopR (by first | rfl | (simp; done) | (simp [hdOK_encU, hdOK_encL, allSz_encU, allSz_encL, encU_length, encL_length, encD_one, encD_cells, AVone_v, AVone_sl, AVone_agg, AVone_ref, AVone_fn, AVone_ifc, AVcells_v, AVcells_sl, AVcells_agg, AVcells_ref, AVcells_fn, AVcells_ifc, Value.oneCell', allSz]; done) | (simp [hdOK_encU, hdOK_encL, allSz_encU, allSz_encL, encU_length, encL_length, encD_one, encD_cells, AVone_v, AVone_sl, AVone_agg, AVone_ref, AVone_fn, AVone_ifc, AVcells_v, AVcells_sl, AVcells_agg, AVcells_ref, AVcells_fn, AVcells_ifc, Value.oneCell', allSz]; omega)) m.length [0] (fun j => [(3, .av (.v (.int .i64 ((m.length : Int) - j))))]) (fun j => []) (fun j => trimL (m.take (m.length - j)) = trimL m) ⟨?_, trivial⟩ trivial (by simp) (fun j hj hI => ?_)
  · simp [look, hl]
  rcases Nat.lt_or_ge j m.length with hlt | hge
  · have hd : decide ((m.length : Int) - j > 0) = true := by simp; omega
    have hw : IntKind.i64.wrap ((m.length : Int) - j - 1) = ((m.length - 1 - j : Nat) : Int) := by rw [wrap_i64 (by omega) (by omega)]; omega
    have hx : (encU m).getD (m.length - 1 - j) dflt = _ := encU_get (by omega)
    have hst := trim_step hlt hI
    have hsp := trim_stop hlt hI
    generalize m[m.length - 1 - j] = x at hx hst hsp
    (refine GC_run2 4000 ?_; dsimp only [go_sem, Nat.reduceBEq, Nat.reduceAdd, Nat.reduceMul, Nat.reduceSub, Int.reduceBEq, Int.reduceBNe, Int.reduceAdd, Int.reduceSub, Int.reduceMul, Int.reduceToNat, Int.reduceNeg])
    (repeat (simp only [hd, hw, hx]; try (dsimp only [go_sem, Nat.reduceBEq, Nat.reduceAdd, Nat.reduceMul, Nat.reduceSub, Int.reduceBEq, Int.reduceBNe, Int.reduceAdd, Int.reduceSub, Int.reduceMul, Int.reduceToNat, Int.reduceNeg])))
    (refine GC_brK (fun h => ?_) (fun h => ?_) <;> (dsimp only [go_sem, Nat.reduceBEq, Nat.reduceAdd, Nat.reduceMul, Nat.reduceSub, Int.reduceBEq, Int.reduceBNe, Int.reduceAdd, Int.reduceSub, Int.reduceMul, Int.reduceToNat, Int.reduceNeg]))
    · (refine GC.backR (by first | (simp [hdOK_encU, hdOK_encL, allSz_encU, allSz_encL, encU_length, encL_length, encD_one, encD_cells, AVone_v, AVone_sl, AVone_agg, AVone_ref, AVone_fn, AVone_ifc, AVcells_v, AVcells_sl, AVcells_agg, AVcells_ref, AVcells_fn, AVcells_ifc, Value.oneCell', allSz, hl]; done) | (simp [hdOK_encU, hdOK_encL, allSz_encU, allSz_encL, encU_length, encL_length, encD_one, encD_cells, AVone_v, AVone_sl, AVone_agg, AVone_ref, AVone_fn, AVone_ifc, AVcells_v, AVcells_sl, AVcells_agg, AVcells_ref, AVcells_fn, AVcells_ifc, Value.oneCell', allSz, hl]; omega)) (by omega) (hst (by simpa using h)) ?_ ?_ <;> (repeat' (first | exact trivial | refine And.intro ?_ ?_)) <;> (try (dsimp only [go_sem, Nat.reduceBEq, Nat.reduceAdd, Nat.reduceMul, Nat.reduceSub, Int.reduceBEq, Int.reduceBNe, Int.reduceAdd, Int.reduceSub, Int.reduceMul, Int.reduceToNat, Int.reduceNeg])))
      all_goals (refine congrArg (fun n => some (TV.av (.v (.int .i64 n)))) ?_; omega)
    · refine GC.fin (by first | (simp [hdOK_encU, hdOK_encL, allSz_encU, allSz_encL, encU_length, encL_length, encD_one, encD_cells, AVone_v, AVone_sl, AVone_agg, AVone_ref, AVone_fn, AVone_ifc, AVcells_v, AVcells_sl, AVcells_agg, AVcells_ref, AVcells_fn, AVcells_ifc, Value.oneCell', allSz, hl]; done) | (simp [hdOK_encU, hdOK_encL, allSz_encU, allSz_encL, encU_length, encL_length, encD_one, encD_cells, AVone_v, AVone_sl, AVone_agg, AVone_ref, AVone_fn, AVone_ifc, AVcells_v, AVcells_sl, AVcells_agg, AVcells_ref, AVcells_fn, AVcells_ifc, Value.oneCell', allSz, hl]; omega)) ?_
      have e : ((m.length : Int) - j).toNat = m.length - j := by omega
      simp only [e, ← encU_take, hsp (by simpa using h)]
      try rfl
  · have : j = m.length := by omega
    subst this
    have hd : decide ((m.length : Int) - m.length > 0) = false := by simp
    (refine GC_run2 4000 ?_; dsimp only [go_sem, Nat.reduceBEq, Nat.reduceAdd, Nat.reduceMul, Nat.reduceSub, Int.reduceBEq, Int.reduceBNe, Int.reduceAdd, Int.reduceSub, Int.reduceMul, Int.reduceToNat, Int.reduceNeg])
    (repeat (simp only [hd]; try (dsimp only [go_sem, Nat.reduceBEq, Nat.reduceAdd, Nat.reduceMul, Nat.reduceSub, Int.reduceBEq, Int.reduceBNe, Int.reduceAdd, Int.reduceSub, Int.reduceMul, Int.reduceToNat, Int.reduceNeg])))
    refine GC.fin (by first | (simp [hdOK_encU, hdOK_encL, allSz_encU, allSz_encL, encU_length, encL_length, encD_one, encD_cells, AVone_v, AVone_sl, AVone_agg, AVone_ref, AVone_fn, AVone_ifc, AVcells_v, AVcells_sl, AVcells_agg, AVcells_ref, AVcells_fn, AVcells_ifc, Value.oneCell', allSz, hl]; done) | (simp [hdOK_encU, hdOK_encL, allSz_encU, allSz_encL, encU_length, encL_length, encD_one, encD_cells, AVone_v, AVone_sl, AVone_agg, AVone_ref, AVone_fn, AVone_ifc, AVcells_v, AVcells_sl, AVcells_agg, AVcells_ref, AVcells_fn, AVcells_ifc, Value.oneCell', allSz, hl]; omega)) ?_
    have e : ((m.length : Int) - m.length).toNat = 0 := by omega
    have e2 : trimL m = [] := by rw [← hI]; simp [trimL]
    simp only [e, e2]
    try rfl
theorem numOK_eq (neg : Bool) (mag : List Int) : numOK neg mag = (decide (mag.length ≤ 48) && (decide ((trimL mag).length = mag.length) && (!neg || decide (0 < mag.length)))) := rfl
theorem D_nmay (neg : Bool) (mag : List Int) (hm : mag.length < 1099511627776) : Sound (CD W0 κ GG) 73 [.agg [.v (.bool neg), .sl (encU mag)]] [.av (.v (.bool (numOK neg mag)))] := by
  have hl := encU_length mag
  have hl2 := encU_length (trimL mag)
  (refine Sound.of_go D_ok D_mix Tryd.func73 rfl (by decide) (by kernel_rfl) (GC.go ?_); refine GC_run2 4000 ?_; dsimp only [Tryd.f73, CD, go_sem, Nat.reduceBEq, Nat.reduceAdd, Nat.reduceMul, Nat.reduceSub, Int.reduceBEq, Int.reduceBNe, Int.reduceAdd, Int.reduceSub, Int.reduceMul, Int.reduceToNat, Int.reduceNeg, encD])
  repeat' (first | (first | (refine GC_gdK (fun h => ?_) (fun h => ?_) <;> (dsimp only [go_sem, Nat.reduceBEq, Nat.reduceAdd, Nat.reduceMul, Nat.reduceSub, Int.reduceBEq, Int.reduceBNe, Int.reduceAdd, Int.reduceSub, Int.reduceMul, Int.reduceToNat, Int.reduceNeg])) | (refine GC_brK (fun h => ?_) (fun h => ?_) <;> (dsimp only [go_sem, Nat.reduceBEq, Nat.reduceAdd, Nat.reduceMul, Nat.reduceSub, Int.reduceBEq, Int.reduceBNe, Int.reduceAdd, Int.reduceSub, Int.reduceMul, Int.reduceToNat, Int.reduceNeg]))) | (refine GC.call (by first | rfl | (simp; done) | (simp [hdOK_encU, hdOK_encL, allSz_encU, allSz_encL, encU_length, encL_length, encD_one, encD_cells, AVone_v, AVone_sl, AVone_agg, AVone_ref, AVone_fn, AVone_ifc, AVcells_v, AVcells_sl, AVcells_agg, AVcells_ref, AVcells_fn, AVcells_ifc, Value.oneCell', allSz]; done) | (simp [hdOK_encU, hdOK_encL, allSz_encU, allSz_encL, encU_length, encL_length, encD_one, encD_cells, AVone_v, AVone_sl, AVone_agg, AVone_ref, AVone_fn, AVone_ifc, AVcells_v, AVcells_sl, AVcells_agg, AVcells_ref, AVcells_fn, AVcells_ifc, Value.oneCell', allSz]; omega)) (D_trim mag hm) ?_; refine GC_run2 4000 ?_; dsimp only [go_sem, Nat.reduceBEq, Nat.reduceAdd, Nat.reduceMul, Nat.reduceSub, Int.reduceBEq, Int.reduceBNe, Int.reduceAdd, Int.reduceSub, Int.reduceMul, Int.reduceToNat, Int.reduceNeg]) | (refine GC.ord (by first | rfl | (simp; done) | (simp [hdOK_encU, hdOK_encL, allSz_encU, allSz_encL, encU_length, encL_length, encD_one, encD_cells, AVone_v, AVone_sl, AVone_agg, AVone_ref, AVone_fn, AVone_ifc, AVcells_v, AVcells_sl, AVcells_agg, AVcells_ref, AVcells_fn, AVcells_ifc, Value.oneCell', allSz]; done) | (simp [hdOK_encU, hdOK_encL, allSz_encU, allSz_encL, encU_length, encL_length, encD_one, encD_cells, AVone_v, AVone_sl, AVone_agg, AVone_ref, AVone_fn, AVone_ifc, AVcells_v, AVcells_sl, AVcells_agg, AVcells_ref, AVcells_fn, AVcells_ifc, Value.oneCell', allSz]; omega)) (by kernel_rfl) (by kernel_rfl) ?_; refine GC_run2 4000 ?_; dsimp only [go_sem, Nat.reduceBEq, Nat.reduceAdd, Nat.reduceMul, Nat.reduceSub, Int.reduceBEq, Int.reduceBNe, Int.reduceAdd, Int.reduceSub, Int.reduceMul, Int.reduceToNat, Int.reduceNeg]))
  all_goals
    refine GC.finE (by first | rfl | (simp; done) | (simp [hdOK_encU, hdOK_encL, allSz_encU, allSz_encL, encU_length, encL_length, encD_one, encD_cells, AVone_v, AVone_sl, AVone_agg, AVone_ref, AVone_fn, AVone_ifc, AVcells_v, AVcells_sl, AVcells_agg, AVcells_ref, AVcells_fn, AVcells_ifc, Value.oneCell', allSz]; done) | (simp [hdOK_encU, hdOK_encL, allSz_encU, allSz_encL, encU_length, encL_length, encD_one, encD_cells, AVone_v, AVone_sl, AVone_agg, AVone_ref, AVone_fn, AVone_ifc, AVcells_v, AVcells_sl, AVcells_agg, AVcells_ref, AVcells_fn, AVcells_ifc, Value.oneCell', allSz]; omega)) ?_
    refine congrArg (fun b => [RItem.av (AV.v (Value.bool b))]) ?_
    rw [Bool.eq_iff_iff]
    simp [numOK, beq_len, hl, hl2] at *
    try simp [*]
    try omega
theorem D_text (hU : D_Tabs W0) (t : ByteArray) (least : Int) (ht : t.size < 1099511627776) : Sound (CD W0 κ GG) 74 [.v (.string t), .v (.int .i64 least)] [.av (.v (.bool (textOK t least)))] := by
  (refine Sound.of_go D_ok D_mix Tryd.func74 rfl (by decide) (by kernel_rfl) (GC.go ?_); refine GC_run2 4000 ?_; dsimp only [Tryd.f74, CD, go_sem, Nat.reduceBEq, Nat.reduceAdd, Nat.reduceMul, Nat.reduceSub, Int.reduceBEq, Int.reduceBNe, Int.reduceAdd, Int.reduceSub, Int.reduceMul, Int.reduceToNat, Int.reduceNeg, encD])
  (refine GC.call (by first | rfl | (simp; done) | (simp [hdOK_encU, hdOK_encL, allSz_encU, allSz_encL, encU_length, encL_length, encD_one, encD_cells, AVone_v, AVone_sl, AVone_agg, AVone_ref, AVone_fn, AVone_ifc, AVcells_v, AVcells_sl, AVcells_agg, AVcells_ref, AVcells_fn, AVcells_ifc, Value.oneCell', allSz]; done) | (simp [hdOK_encU, hdOK_encL, allSz_encU, allSz_encL, encU_length, encL_length, encD_one, encD_cells, AVone_v, AVone_sl, AVone_agg, AVone_ref, AVone_fn, AVone_ifc, AVcells_v, AVcells_sl, AVcells_agg, AVcells_ref, AVcells_fn, AVcells_ifc, Value.oneCell', allSz]; omega)) (D_rcount t ht) ?_; refine GC_run2 4000 ?_; dsimp only [go_sem, Nat.reduceBEq, Nat.reduceAdd, Nat.reduceMul, Nat.reduceSub, Int.reduceBEq, Int.reduceBNe, Int.reduceAdd, Int.reduceSub, Int.reduceMul, Int.reduceToNat, Int.reduceNeg])
  (refine GC.call (by first | rfl | (simp; done) | (simp [hdOK_encU, hdOK_encL, allSz_encU, allSz_encL, encU_length, encL_length, encD_one, encD_cells, AVone_v, AVone_sl, AVone_agg, AVone_ref, AVone_fn, AVone_ifc, AVcells_v, AVcells_sl, AVcells_agg, AVcells_ref, AVcells_fn, AVcells_ifc, Value.oneCell', allSz]; done) | (simp [hdOK_encU, hdOK_encL, allSz_encU, allSz_encL, encU_length, encL_length, encD_one, encD_cells, AVone_v, AVone_sl, AVone_agg, AVone_ref, AVone_fn, AVone_ifc, AVcells_v, AVcells_sl, AVcells_agg, AVcells_ref, AVcells_fn, AVcells_ifc, Value.oneCell', allSz]; omega)) (D_valid hU t ht) ?_; refine GC_run2 4000 ?_; dsimp only [go_sem, Nat.reduceBEq, Nat.reduceAdd, Nat.reduceMul, Nat.reduceSub, Int.reduceBEq, Int.reduceBNe, Int.reduceAdd, Int.reduceSub, Int.reduceMul, Int.reduceToNat, Int.reduceNeg])
  repeat' (first | (refine GC_gdK (fun h => ?_) (fun h => ?_) <;> (dsimp only [go_sem, Nat.reduceBEq, Nat.reduceAdd, Nat.reduceMul, Nat.reduceSub, Int.reduceBEq, Int.reduceBNe, Int.reduceAdd, Int.reduceSub, Int.reduceMul, Int.reduceToNat, Int.reduceNeg])) | (refine GC_brK (fun h => ?_) (fun h => ?_) <;> (dsimp only [go_sem, Nat.reduceBEq, Nat.reduceAdd, Nat.reduceMul, Nat.reduceSub, Int.reduceBEq, Int.reduceBNe, Int.reduceAdd, Int.reduceSub, Int.reduceMul, Int.reduceToNat, Int.reduceNeg])))
  all_goals
    refine GC.finE (by first | rfl | (simp; done) | (simp [hdOK_encU, hdOK_encL, allSz_encU, allSz_encL, encU_length, encL_length, encD_one, encD_cells, AVone_v, AVone_sl, AVone_agg, AVone_ref, AVone_fn, AVone_ifc, AVcells_v, AVcells_sl, AVcells_agg, AVcells_ref, AVcells_fn, AVcells_ifc, Value.oneCell', allSz]; done) | (simp [hdOK_encU, hdOK_encL, allSz_encU, allSz_encL, encU_length, encL_length, encD_one, encD_cells, AVone_v, AVone_sl, AVone_agg, AVone_ref, AVone_fn, AVone_ifc, AVcells_v, AVcells_sl, AVcells_agg, AVcells_ref, AVcells_fn, AVcells_ifc, Value.oneCell', allSz]; omega)) ?_
    refine congrArg (fun b => [RItem.av (AV.v (Value.bool b))]) ?_
    rw [Bool.eq_iff_iff]
    simp [textOK] at *
    try simp [*]
    try omega
/-- slices.IndexFunc over data. -/
theorem D_indexF (g : FuncId) (p : Dat → Bool) (l : List Dat) (hl : l.length < 1099511627776) (H : ∀ x ∈ l, Sound (CD W0 κ GG) g [encD x] [.av (.v (.bool (p x)))]) :
    Sound (CD W0 κ GG) 102 [.sl (encL l), .fn g []] [.av (.v (.int .i64 (idxFrom p l 0)))] := by
  have hll := encL_length l
  (refine Sound.of_go D_ok D_mix Tryd.func102 rfl (by decide) (by kernel_rfl) (GC.go ?_); refine GC_run2 4000 ?_; dsimp only [Tryd.f102, CD, go_sem, Nat.reduceBEq, Nat.reduceAdd, Nat.reduceMul, Nat.reduceSub, Int.reduceBEq, Int.reduceBNe, Int.reduceAdd, Int.reduceSub, Int.reduceMul, Int.reduceToNat, Int.reduceNeg, encD])
  refine GC.loopR (by first | rfl | (simp; done) | (simp [hdOK_encU, hdOK_encL, allSz_encU, allSz_encL, encU_length, encL_length, encD_one, encD_cells, AVone_v, AVone_sl, AVone_agg, AVone_ref, AVone_fn, AVone_ifc, AVcells_v, AVcells_sl, AVcells_agg, AVcells_ref, AVcells_fn, AVcells_ifc, Value.oneCell', allSz]; done) | (simp [hdOK_encU, hdOK_encL, allSz_encU, allSz_encL, encU_length, encL_length, encD_one, encD_cells, AVone_v, AVone_sl, AVone_agg, AVone_ref, AVone_fn, AVone_ifc, AVcells_v, AVcells_sl, AVcells_agg, AVcells_ref, AVcells_fn, AVcells_ifc, Value.oneCell', allSz]; omega)) l.length [0, 1, 7] (fun j => [(8, .av (.v (.int .i64 (j : Nat))))]) (fun j => []) (fun j => idxFrom p l 0 = idxFrom p (l.drop j) j) ⟨rfl, trivial⟩ trivial rfl (fun j hj hI => ?_)
  rcases Nat.lt_or_ge j l.length with hlt | hge
  · have hd := dec_lt (show j < (encL l).length by omega)
    have hx : (encL l).getD j dflt = _ := encL_get hlt
    have hs := H _ (List.getElem_mem hlt)
    have h1 := idxFrom_drop p hlt
    have h2 := idxFrom_hit p hlt
    generalize l[j] = x at hx hs h1 h2
    obtain ⟨xk, xc, xneg, xmag, xt, xl⟩ := x
    simp only [encD] at hx
    (refine GC_run2 4000 ?_; dsimp only [go_sem, Nat.reduceBEq, Nat.reduceAdd, Nat.reduceMul, Nat.reduceSub, Int.reduceBEq, Int.reduceBNe, Int.reduceAdd, Int.reduceSub, Int.reduceMul, Int.reduceToNat, Int.reduceNeg])
    (repeat (simp only [hd, hx]; try (dsimp only [go_sem, Nat.reduceBEq, Nat.reduceAdd, Nat.reduceMul, Nat.reduceSub, Int.reduceBEq, Int.reduceBNe, Int.reduceAdd, Int.reduceSub, Int.reduceMul, Int.reduceToNat, Int.reduceNeg])))
    (refine GC.call (by first | rfl | (simp; done) | (simp [hdOK_encU, hdOK_encL, allSz_encU, allSz_encL, encU_length, encL_length, encD_one, encD_cells, AVone_v, AVone_sl, AVone_agg, AVone_ref, AVone_fn, AVone_ifc, AVcells_v, AVcells_sl, AVcells_agg, AVcells_ref, AVcells_fn, AVcells_ifc, Value.oneCell', allSz]; done) | (simp [hdOK_encU, hdOK_encL, allSz_encU, allSz_encL, encU_length, encL_length, encD_one, encD_cells, AVone_v, AVone_sl, AVone_agg, AVone_ref, AVone_fn, AVone_ifc, AVcells_v, AVcells_sl, AVcells_agg, AVcells_ref, AVcells_fn, AVcells_ifc, Value.oneCell', allSz]; omega)) (hs) ?_; refine GC_run2 4000 ?_; dsimp only [go_sem, Nat.reduceBEq, Nat.reduceAdd, Nat.reduceMul, Nat.reduceSub, Int.reduceBEq, Int.reduceBNe, Int.reduceAdd, Int.reduceSub, Int.reduceMul, Int.reduceToNat, Int.reduceNeg])
    (refine GC_brK (fun h => ?_) (fun h => ?_) <;> (dsimp only [go_sem, Nat.reduceBEq, Nat.reduceAdd, Nat.reduceMul, Nat.reduceSub, Int.reduceBEq, Int.reduceBNe, Int.reduceAdd, Int.reduceSub, Int.reduceMul, Int.reduceToNat, Int.reduceNeg]))
    · refine GC.finE (by first | rfl | (simp; done) | (simp [hdOK_encU, hdOK_encL, allSz_encU, allSz_encL, encU_length, encL_length, encD_one, encD_cells, AVone_v, AVone_sl, AVone_agg, AVone_ref, AVone_fn, AVone_ifc, AVcells_v, AVcells_sl, AVcells_agg, AVcells_ref, AVcells_fn, AVcells_ifc, Value.oneCell', allSz]; done) | (simp [hdOK_encU, hdOK_encL, allSz_encU, allSz_encL, encU_length, encL_length, encD_one, encD_cells, AVone_v, AVone_sl, AVone_agg, AVone_ref, AVone_fn, AVone_ifc, AVcells_v, AVcells_sl, AVcells_agg, AVcells_ref, AVcells_fn, AVcells_ifc, Value.oneCell', allSz]; omega)) ?_
      rw [hI, h2 h]
    · (refine GC.backR (by first | rfl | (simp; done) | (simp [hdOK_encU, hdOK_encL, allSz_encU, allSz_encL, encU_length, encL_length, encD_one, encD_cells, AVone_v, AVone_sl, AVone_agg, AVone_ref, AVone_fn, AVone_ifc, AVcells_v, AVcells_sl, AVcells_agg, AVcells_ref, AVcells_fn, AVcells_ifc, Value.oneCell', allSz]; done) | (simp [hdOK_encU, hdOK_encL, allSz_encU, allSz_encL, encU_length, encL_length, encD_one, encD_cells, AVone_v, AVone_sl, AVone_agg, AVone_ref, AVone_fn, AVone_ifc, AVcells_v, AVcells_sl, AVcells_agg, AVcells_ref, AVcells_fn, AVcells_ifc, Value.oneCell', allSz]; omega)) (by omega) (hI.trans (h1 h)) ?_ ?_ <;> (repeat' (first | exact trivial | refine And.intro ?_ ?_)) <;> (try (dsimp only [go_sem, Nat.reduceBEq, Nat.reduceAdd, Nat.reduceMul, Nat.reduceSub, Int.reduceBEq, Int.reduceBNe, Int.reduceAdd, Int.reduceSub, Int.reduceMul, Int.reduceToNat, Int.reduceNeg])))
      exact congrArg (fun n => some (TV.av (.v (.int .i64 n)))) (wrap_nat j (by omega))
  · have hd := dec_ge (show (encL l).length ≤ j by omega)
    have : j = l.length := by omega
    subst this
    (refine GC_run2 4000 ?_; dsimp only [go_sem, Nat.reduceBEq, Nat.reduceAdd, Nat.reduceMul, Nat.reduceSub, Int.reduceBEq, Int.reduceBNe, Int.reduceAdd, Int.reduceSub, Int.reduceMul, Int.reduceToNat, Int.reduceNeg])
    (repeat (simp only [hd]; try (dsimp only [go_sem, Nat.reduceBEq, Nat.reduceAdd, Nat.reduceMul, Nat.reduceSub, Int.reduceBEq, Int.reduceBNe, Int.reduceAdd, Int.reduceSub, Int.reduceMul, Int.reduceToNat, Int.reduceNeg])))
    refine GC.finE (by first | rfl | (simp; done) | (simp [hdOK_encU, hdOK_encL, allSz_encU, allSz_encL, encU_length, encL_length, encD_one, encD_cells, AVone_v, AVone_sl, AVone_agg, AVone_ref, AVone_fn, AVone_ifc, AVcells_v, AVcells_sl, AVcells_agg, AVcells_ref, AVcells_fn, AVcells_ifc, Value.oneCell', allSz]; done) | (simp [hdOK_encU, hdOK_encL, allSz_encU, allSz_encL, encU_length, encL_length, encD_one, encD_cells, AVone_v, AVone_sl, AVone_agg, AVone_ref, AVone_fn, AVone_ifc, AVcells_v, AVcells_sl, AVcells_agg, AVcells_ref, AVcells_fn, AVcells_ifc, Value.oneCell', allSz]; omega)) ?_
    rw [hI]; simp [idxFrom]
theorem D_containsF (g : FuncId) (p : Dat → Bool) (l : List Dat) (hl : l.length < 1099511627776) (H : ∀ x ∈ l, Sound (CD W0 κ GG) g [encD x] [.av (.v (.bool (p x)))]) :
    Sound (CD W0 κ GG) 75 [.sl (encL l), .fn g []] [.av (.v (.bool (l.any p)))] := by
  rw [← idxFrom_any p l 0]
  (refine Sound.of_go D_ok D_mix Tryd.func75 rfl (by decide) (by kernel_rfl) (GC.go ?_); refine GC_run2 4000 ?_; dsimp only [Tryd.f75, CD, go_sem, Nat.reduceBEq, Nat.reduceAdd, Nat.reduceMul, Nat.reduceSub, Int.reduceBEq, Int.reduceBNe, Int.reduceAdd, Int.reduceSub, Int.reduceMul, Int.reduceToNat, Int.reduceNeg, encD])
  (refine GC.call (by first | rfl | (simp; done) | (simp [hdOK_encU, hdOK_encL, allSz_encU, allSz_encL, encU_length, encL_length, encD_one, encD_cells, AVone_v, AVone_sl, AVone_agg, AVone_ref, AVone_fn, AVone_ifc, AVcells_v, AVcells_sl, AVcells_agg, AVcells_ref, AVcells_fn, AVcells_ifc, Value.oneCell', allSz]; done) | (simp [hdOK_encU, hdOK_encL, allSz_encU, allSz_encL, encU_length, encL_length, encD_one, encD_cells, AVone_v, AVone_sl, AVone_agg, AVone_ref, AVone_fn, AVone_ifc, AVcells_v, AVcells_sl, AVcells_agg, AVcells_ref, AVcells_fn, AVcells_ifc, Value.oneCell', allSz]; omega)) (D_indexF g p l hl H) ?_; refine GC_run2 4000 ?_; dsimp only [go_sem, Nat.reduceBEq, Nat.reduceAdd, Nat.reduceMul, Nat.reduceSub, Int.reduceBEq, Int.reduceBNe, Int.reduceAdd, Int.reduceSub, Int.reduceMul, Int.reduceToNat, Int.reduceNeg])
  refine GC.finE (by first | rfl | (simp; done) | (simp [hdOK_encU, hdOK_encL, allSz_encU, allSz_encL, encU_length, encL_length, encD_one, encD_cells, AVone_v, AVone_sl, AVone_agg, AVone_ref, AVone_fn, AVone_ifc, AVcells_v, AVcells_sl, AVcells_agg, AVcells_ref, AVcells_fn, AVcells_ifc, Value.oneCell', allSz]; done) | (simp [hdOK_encU, hdOK_encL, allSz_encU, allSz_encL, encU_length, encL_length, encD_one, encD_cells, AVone_v, AVone_sl, AVone_agg, AVone_ref, AVone_fn, AVone_ifc, AVcells_v, AVcells_sl, AVcells_agg, AVcells_ref, AVcells_fn, AVcells_ifc, Value.oneCell', allSz]; omega)) ?_
  rfl
theorem D_plain1 (d : Dat) (h : Sound (CD W0 κ GG) 51 [encD d] [.av (.v (.bool (plainD d)))]) : Sound (CD W0 κ GG) 76 [encD d] [.av (.v (.bool (!plainD d)))] := by
  obtain ⟨k, c, neg, mag, t, l⟩ := d
  (refine Sound.of_go D_ok D_mix Tryd.func76 rfl (by decide) (by kernel_rfl) (GC.go ?_); refine GC_run2 4000 ?_; dsimp only [Tryd.f76, CD, go_sem, Nat.reduceBEq, Nat.reduceAdd, Nat.reduceMul, Nat.reduceSub, Int.reduceBEq, Int.reduceBNe, Int.reduceAdd, Int.reduceSub, Int.reduceMul, Int.reduceToNat, Int.reduceNeg, encD])
  (refine GC.call (by first | rfl | (simp; done) | (simp [hdOK_encU, hdOK_encL, allSz_encU, allSz_encL, encU_length, encL_length, encD_one, encD_cells, AVone_v, AVone_sl, AVone_agg, AVone_ref, AVone_fn, AVone_ifc, AVcells_v, AVcells_sl, AVcells_agg, AVcells_ref, AVcells_fn, AVcells_ifc, Value.oneCell', allSz]; done) | (simp [hdOK_encU, hdOK_encL, allSz_encU, allSz_encL, encU_length, encL_length, encD_one, encD_cells, AVone_v, AVone_sl, AVone_agg, AVone_ref, AVone_fn, AVone_ifc, AVcells_v, AVcells_sl, AVcells_agg, AVcells_ref, AVcells_fn, AVcells_ifc, Value.oneCell', allSz]; omega)) (h) ?_; refine GC_run2 4000 ?_; dsimp only [go_sem, Nat.reduceBEq, Nat.reduceAdd, Nat.reduceMul, Nat.reduceSub, Int.reduceBEq, Int.reduceBNe, Int.reduceAdd, Int.reduceSub, Int.reduceMul, Int.reduceToNat, Int.reduceNeg])
  refine GC.finE (by first | rfl | (simp; done) | (simp [hdOK_encU, hdOK_encL, allSz_encU, allSz_encL, encU_length, encL_length, encD_one, encD_cells, AVone_v, AVone_sl, AVone_agg, AVone_ref, AVone_fn, AVone_ifc, AVcells_v, AVcells_sl, AVcells_agg, AVcells_ref, AVcells_fn, AVcells_ifc, Value.oneCell', allSz]; done) | (simp [hdOK_encU, hdOK_encL, allSz_encU, allSz_encL, encU_length, encL_length, encD_one, encD_cells, AVone_v, AVone_sl, AVone_agg, AVone_ref, AVone_fn, AVone_ifc, AVcells_v, AVcells_sl, AVcells_agg, AVcells_ref, AVcells_fn, AVcells_ifc, Value.oneCell', allSz]; omega)) ?_
  rfl
end
end Go.Sy

/- Contracts of the program's functions over abstract values. By gen.py. -/
set_option linter.unusedVariables false
set_option linter.unusedSimpArgs false
set_option maxRecDepth 100000
set_option maxHeartbeats 4000000
namespace Go.Sy
open Go.Proofs
attribute [local go_sem] runO_t runO_f band_t band_f bor_t bor_f bnot_t bnot_f gdK_tt gdK_ff gdK_tf gdK_ft brK_t brK_f runE_some runF_some runA_some runG_some runB_some runX_some runR_some run_nil run_skip run_seq run_region run_block run_blk run_exit run_cond run_ret run_loop run_lp run_opsNil run_opsOrd run_opsOp run_opsGuard run_cl run_gd run_br run_fin run_clx run_fst run_callf runY_t runY_f runS_some runV_t runV_f aBuildK_t aBuildK_f Mode.plain run_move run_nilCheck run_assign run_pick run_alloc run_box run_build run_buildSlice run_load run_store run_binOp run_unOp run_convert run_slice run_fieldAddr run_indexAddr run_index run_field run_extract run_makeInterface run_makeFunc run_len run_max run_min run_append St.ev St.evl St.evs St.evo capsOf callOf look drop put putAll toTV_nil toTV_int toTV_bool toTV_str toTV_ptr toTV_ifc toTV_fn toAV_nil toAV_int toAV_bool toAV_str toAV_ptr toAV_ifc toAV_fn aAssign_nil aAssign_tmp aAssign_int aAssign_bool aAssign_str aAssign_ptr aAssign_nilf aAssign_ifc aAssign_func aAssign_glob nilConst_slice nilConst_ptr nilConst_ifc nilConst_tmp plain Option.bind TV.cells TV.one AVone_v AVone_sl AVone_agg AVone_ref AVone_fn AVone_ifc AVone_sent Value.oneCell' oneVs avOf avsOf expo expos expoC exposC TV.isC allC fillsT aBuildT lendR ren renT0 renC renT renO renW xFoot xSt newIds retX retXs isT0 asList List.map St.app setD St.setT ownD trA effFoot callFoot callSt callReq St.fresh freshT freshO allFresh TV.ment TVs.ment SObj.ment fsts mentW noFoot List.contains List.elem aPick aAlloc aBox aBuild aBuildSlice nonNil allSz aUn aConv aField aIndex aByte aPart aExtract aIface aFunc aLen ty1 aMax aApp aAppend aCheck emptyL aSlice okHd hdOK_nil hdOK_cons aLoad aStore aBin aNil sBin sInt isSh sameSh nilness fills fillAt fillTV putCells intOf? mkInt AVcells_v AVcells_sl AVcells_agg AVcells_ref AVcells_fn AVcells_ifc AVcells_sent St.g0 St.g guardOf guardOff udf argsOf lends lendBox bindRes bindR bindRs flatR flatV boolOf retItems retItems0 retItem rowsOf disjB ownIds resIds nodupB St.init initT popTo cond_true cond_false Option.getD Option.map List.take List.drop List.length List.zip List.zipWith List.range List.range.loop List.append List.foldr List.nil_append List.cons_append List.append_nil List.getElem?_cons_zero List.getElem?_cons_succ GetElem?.getElem? List.get?Internal Int.toNat_natCast cst0 cst1 cst2 cst3 cst4 cst5 cst6 cst7 cst8 cst9 cst10 cst11 toNat0 toNat1 toNat2 toNat3 getD0 getD1 getD2 getD3 run_zero memN keepT dropO St.re leT leO D_q2  D_q3  D_q4  D_q5  D_q9  D_q12  D_q21  D_q22  D_q24  D_q25  D_q27  D_q28  D_q32  D_q46  D_q48  D_q50  D_q52  D_q53  D_q54  D_q56  D_q57  D_q61  D_q70  D_q72  D_q76  D_q77  D_q79  D_q80  D_q83  D_q85  D_q91  D_q93  D_q104  D_q108  D_q115  D_q118  D_q121  D_q134  D_q136  D_q137
section
variable {W0 : World} {κ : Nat → Addr} {GG : Nat → Option AV}

theorem any_not_plain (l : List Dat) : (l.any fun d => !plainD d) = !plainL l := by
  rw [plainL_all]; induction l with
  | nil => rfl
  | cons x r ih => simp [List.any_cons, List.all_cons, ih]
theorem D_plain (hU : D_Tabs W0) : ∀ (n : Nat) (d : Dat), cnt d ≤ n → fine d → Sound (CD W0 κ GG) 51 [encD d] [.av (.v (.bool (plainD d)))]
  | 0, d, h, _ => absurd h (by have := cnt_pos d; omega)
  | n + 1, .mk k c neg mag t l, hn, hf => by
    have hll := encL_length l
    have hlen := hf.len
    have hm := hf.mag
    have ht := hf.txt
    simp only [cnt] at hn
    have hfl : Sound (CD W0 κ GG) 53 [encD (.mk k c neg mag t l), encD (bareD (.mk k c neg mag t l))] _ := D_flat _ _ hf (bareD_fine hf)
    have how : Sound (CD W0 κ GG) 71 [encD (.mk k c neg mag t l)] _ := D_own _
    have hc : Sound (CD W0 κ GG) 75 [.sl (encL l), .fn 76 []] _ := D_containsF 76 (fun d => !plainD d) l hlen fun x hx => D_plain1 x (D_plain hU n x (by have := cntL_get hx; omega) (hf.sub hx))
    rw [any_not_plain] at hc
    rw [plainD_eq]
    generalize hfb : flatD (.mk k c neg mag t l) (bareD (.mk k c neg mag t l)) = fb at hfl ⊢
    generalize hob : bareD (.mk k c neg mag t l) = ob at *
    obtain ⟨ok, oc, oneg, omag, ot, ol⟩ := ob
    simp only [encD] at hfl how
    clear hfb hob
    (refine Sound.of_go D_ok D_mix Tryd.func51 rfl (by decide) (by kernel_rfl) (GC.go ?_); refine GC_run2 4000 ?_; dsimp only [Tryd.f51, CD, go_sem, Nat.reduceBEq, Nat.reduceAdd, Nat.reduceMul, Nat.reduceSub, Int.reduceBEq, Int.reduceBNe, Int.reduceAdd, Int.reduceSub, Int.reduceMul, Int.reduceToNat, Int.reduceNeg, encD])
    repeat' (first | (first | (refine GC_gdK (fun h => ?_) (fun h => ?_) <;> (dsimp only [go_sem, Nat.reduceBEq, Nat.reduceAdd, Nat.reduceMul, Nat.reduceSub, Int.reduceBEq, Int.reduceBNe, Int.reduceAdd, Int.reduceSub, Int.reduceMul, Int.reduceToNat, Int.reduceNeg])) | (refine GC_brK (fun h => ?_) (fun h => ?_) <;> (dsimp only [go_sem, Nat.reduceBEq, Nat.reduceAdd, Nat.reduceMul, Nat.reduceSub, Int.reduceBEq, Int.reduceBNe, Int.reduceAdd, Int.reduceSub, Int.reduceMul, Int.reduceToNat, Int.reduceNeg]))) | (refine GC.call (by first | rfl | (simp; done) | (simp [hdOK_encU, hdOK_encL, allSz_encU, allSz_encL, encU_length, encL_length, encD_one, encD_cells, AVone_v, AVone_sl, AVone_agg, AVone_ref, AVone_fn, AVone_ifc, AVcells_v, AVcells_sl, AVcells_agg, AVcells_ref, AVcells_fn, AVcells_ifc, Value.oneCell', allSz]; done) | (simp [hdOK_encU, hdOK_encL, allSz_encU, allSz_encL, encU_length, encL_length, encD_one, encD_cells, AVone_v, AVone_sl, AVone_agg, AVone_ref, AVone_fn, AVone_ifc, AVcells_v, AVcells_sl, AVcells_agg, AVcells_ref, AVcells_fn, AVcells_ifc, Value.oneCell', allSz]; omega)) (how) ?_; refine GC_run2 4000 ?_; dsimp only [go_sem, Nat.reduceBEq, Nat.reduceAdd, Nat.reduceMul, Nat.reduceSub, Int.reduceBEq, Int.reduceBNe, Int.reduceAdd, Int.reduceSub, Int.reduceMul, Int.reduceToNat, Int.reduceNeg]) | (refine GC.call (by first | rfl | (simp; done) | (simp [hdOK_encU, hdOK_encL, allSz_encU, allSz_encL, encU_length, encL_length, encD_one, encD_cells, AVone_v, AVone_sl, AVone_agg, AVone_ref, AVone_fn, AVone_ifc, AVcells_v, AVcells_sl, AVcells_agg, AVcells_ref, AVcells_fn, AVcells_ifc, Value.oneCell', allSz]; done) | (simp [hdOK_encU, hdOK_encL, allSz_encU, allSz_encL, encU_length, encL_length, encD_one, encD_cells, AVone_v, AVone_sl, AVone_agg, AVone_ref, AVone_fn, AVone_ifc, AVcells_v, AVcells_sl, AVcells_agg, AVcells_ref, AVcells_fn, AVcells_ifc, Value.oneCell', allSz]; omega)) (hfl) ?_; refine GC_run2 4000 ?_; dsimp only [go_sem, Nat.reduceBEq, Nat.reduceAdd, Nat.reduceMul, Nat.reduceSub, Int.reduceBEq, Int.reduceBNe, Int.reduceAdd, Int.reduceSub, Int.reduceMul, Int.reduceToNat, Int.reduceNeg]) | (refine GC.ord (by first | rfl | (simp; done) | (simp [hdOK_encU, hdOK_encL, allSz_encU, allSz_encL, encU_length, encL_length, encD_one, encD_cells, AVone_v, AVone_sl, AVone_agg, AVone_ref, AVone_fn, AVone_ifc, AVcells_v, AVcells_sl, AVcells_agg, AVcells_ref, AVcells_fn, AVcells_ifc, Value.oneCell', allSz]; done) | (simp [hdOK_encU, hdOK_encL, allSz_encU, allSz_encL, encU_length, encL_length, encD_one, encD_cells, AVone_v, AVone_sl, AVone_agg, AVone_ref, AVone_fn, AVone_ifc, AVcells_v, AVcells_sl, AVcells_agg, AVcells_ref, AVcells_fn, AVcells_ifc, Value.oneCell', allSz]; omega)) (by kernel_rfl) (by kernel_rfl) ?_; refine GC_run2 4000 ?_; dsimp only [go_sem, Nat.reduceBEq, Nat.reduceAdd, Nat.reduceMul, Nat.reduceSub, Int.reduceBEq, Int.reduceBNe, Int.reduceAdd, Int.reduceSub, Int.reduceMul, Int.reduceToNat, Int.reduceNeg]) | (refine GC.call (by first | rfl | (simp; done) | (simp [hdOK_encU, hdOK_encL, allSz_encU, allSz_encL, encU_length, encL_length, encD_one, encD_cells, AVone_v, AVone_sl, AVone_agg, AVone_ref, AVone_fn, AVone_ifc, AVcells_v, AVcells_sl, AVcells_agg, AVcells_ref, AVcells_fn, AVcells_ifc, Value.oneCell', allSz]; done) | (simp [hdOK_encU, hdOK_encL, allSz_encU, allSz_encL, encU_length, encL_length, encD_one, encD_cells, AVone_v, AVone_sl, AVone_agg, AVone_ref, AVone_fn, AVone_ifc, AVcells_v, AVcells_sl, AVcells_agg, AVcells_ref, AVcells_fn, AVcells_ifc, Value.oneCell', allSz]; omega)) (D_vrune c) ?_; refine GC_run2 4000 ?_; dsimp only [go_sem, Nat.reduceBEq, Nat.reduceAdd, Nat.reduceMul, Nat.reduceSub, Int.reduceBEq, Int.reduceBNe, Int.reduceAdd, Int.reduceSub, Int.reduceMul, Int.reduceToNat, Int.reduceNeg]) | (refine GC.call (by first | rfl | (simp; done) | (simp [hdOK_encU, hdOK_encL, allSz_encU, allSz_encL, encU_length, encL_length, encD_one, encD_cells, AVone_v, AVone_sl, AVone_agg, AVone_ref, AVone_fn, AVone_ifc, AVcells_v, AVcells_sl, AVcells_agg, AVcells_ref, AVcells_fn, AVcells_ifc, Value.oneCell', allSz]; done) | (simp [hdOK_encU, hdOK_encL, allSz_encU, allSz_encL, encU_length, encL_length, encD_one, encD_cells, AVone_v, AVone_sl, AVone_agg, AVone_ref, AVone_fn, AVone_ifc, AVcells_v, AVcells_sl, AVcells_agg, AVcells_ref, AVcells_fn, AVcells_ifc, Value.oneCell', allSz]; omega)) (D_nmay neg mag hm) ?_; refine GC_run2 4000 ?_; dsimp only [go_sem, Nat.reduceBEq, Nat.reduceAdd, Nat.reduceMul, Nat.reduceSub, Int.reduceBEq, Int.reduceBNe, Int.reduceAdd, Int.reduceSub, Int.reduceMul, Int.reduceToNat, Int.reduceNeg]) | (refine GC.call (by first | rfl | (simp; done) | (simp [hdOK_encU, hdOK_encL, allSz_encU, allSz_encL, encU_length, encL_length, encD_one, encD_cells, AVone_v, AVone_sl, AVone_agg, AVone_ref, AVone_fn, AVone_ifc, AVcells_v, AVcells_sl, AVcells_agg, AVcells_ref, AVcells_fn, AVcells_ifc, Value.oneCell', allSz]; done) | (simp [hdOK_encU, hdOK_encL, allSz_encU, allSz_encL, encU_length, encL_length, encD_one, encD_cells, AVone_v, AVone_sl, AVone_agg, AVone_ref, AVone_fn, AVone_ifc, AVcells_v, AVcells_sl, AVcells_agg, AVcells_ref, AVcells_fn, AVcells_ifc, Value.oneCell', allSz]; omega)) (D_text hU t 1 ht) ?_; refine GC_run2 4000 ?_; dsimp only [go_sem, Nat.reduceBEq, Nat.reduceAdd, Nat.reduceMul, Nat.reduceSub, Int.reduceBEq, Int.reduceBNe, Int.reduceAdd, Int.reduceSub, Int.reduceMul, Int.reduceToNat, Int.reduceNeg]) | (refine GC.call (by first | rfl | (simp; done) | (simp [hdOK_encU, hdOK_encL, allSz_encU, allSz_encL, encU_length, encL_length, encD_one, encD_cells, AVone_v, AVone_sl, AVone_agg, AVone_ref, AVone_fn, AVone_ifc, AVcells_v, AVcells_sl, AVcells_agg, AVcells_ref, AVcells_fn, AVcells_ifc, Value.oneCell', allSz]; done) | (simp [hdOK_encU, hdOK_encL, allSz_encU, allSz_encL, encU_length, encL_length, encD_one, encD_cells, AVone_v, AVone_sl, AVone_agg, AVone_ref, AVone_fn, AVone_ifc, AVcells_v, AVcells_sl, AVcells_agg, AVcells_ref, AVcells_fn, AVcells_ifc, Value.oneCell', allSz]; omega)) (D_text hU t 0 ht) ?_; refine GC_run2 4000 ?_; dsimp only [go_sem, Nat.reduceBEq, Nat.reduceAdd, Nat.reduceMul, Nat.reduceSub, Int.reduceBEq, Int.reduceBNe, Int.reduceAdd, Int.reduceSub, Int.reduceMul, Int.reduceToNat, Int.reduceNeg]) | (refine GC.call (by first | rfl | (simp; done) | (simp [hdOK_encU, hdOK_encL, allSz_encU, allSz_encL, encU_length, encL_length, encD_one, encD_cells, AVone_v, AVone_sl, AVone_agg, AVone_ref, AVone_fn, AVone_ifc, AVcells_v, AVcells_sl, AVcells_agg, AVcells_ref, AVcells_fn, AVcells_ifc, Value.oneCell', allSz]; done) | (simp [hdOK_encU, hdOK_encL, allSz_encU, allSz_encL, encU_length, encL_length, encD_one, encD_cells, AVone_v, AVone_sl, AVone_agg, AVone_ref, AVone_fn, AVone_ifc, AVcells_v, AVcells_sl, AVcells_agg, AVcells_ref, AVcells_fn, AVcells_ifc, Value.oneCell', allSz]; omega)) (hc) ?_; refine GC_run2 4000 ?_; dsimp only [go_sem, Nat.reduceBEq, Nat.reduceAdd, Nat.reduceMul, Nat.reduceSub, Int.reduceBEq, Int.reduceBNe, Int.reduceAdd, Int.reduceSub, Int.reduceMul, Int.reduceToNat, Int.reduceNeg]))
    all_goals
      first
      | (exfalso; simp only [beq_iff_eq, beq_eq_false_iff_ne, decide_eq_true_eq, decide_eq_false_iff_not, Bool.not_true, Bool.not_false] at *; omega)
      | (refine GC.finE (by first | rfl | (simp; done) | (simp [hdOK_encU, hdOK_encL, allSz_encU, allSz_encL, encU_length, encL_length, encD_one, encD_cells, AVone_v, AVone_sl, AVone_agg, AVone_ref, AVone_fn, AVone_ifc, AVcells_v, AVcells_sl, AVcells_agg, AVcells_ref, AVcells_fn, AVcells_ifc, Value.oneCell', allSz]; done) | (simp [hdOK_encU, hdOK_encL, allSz_encU, allSz_encL, encU_length, encL_length, encD_one, encD_cells, AVone_v, AVone_sl, AVone_agg, AVone_ref, AVone_fn, AVone_ifc, AVcells_v, AVcells_sl, AVcells_agg, AVcells_ref, AVcells_fn, AVcells_ifc, Value.oneCell', allSz]; omega)) ?_
         refine congrArg (fun b => [RItem.av (AV.v (Value.bool b))]) ?_
         simp [hll] at *
         simp [restD, *]
         try omega)
end
end Go.Sy
