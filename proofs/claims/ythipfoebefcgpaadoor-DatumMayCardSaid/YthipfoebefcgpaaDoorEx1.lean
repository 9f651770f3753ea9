/- The executor of loaded code over abstract values, and what it stands for in memory. -/
import Derived.Below
import Derived.Orders
import Derived.Laws.AppendOwn
import Derived.Laws.Build
import Derived.Laws.Pointers
import Derived.Laws.Small
import Derived.Laws.Strings
set_option linter.unusedVariables false
set_option linter.unusedSimpArgs false
/- The symbolic executor: abstract values, states, operations, the computed weakest precondition. -/
set_option linter.unusedVariables false
namespace Go.Sy

/-- An abstract value: a tree, without memory. -/
inductive AV where
  | v (x : Value)
  | sl (xs : List AV)
  | agg (cs : List AV)
  | ref (cs : List AV)
  | fn (f : FuncId) (cap : List AV)
  | ifc (t : TypeId) (x : AV)
  | sent (g : Nat)
  deriving Inhabited

/-- The cells of a value as it lies in memory. -/
def AV.cells : AV → List AV
  | .agg cs => cs
  | x => [x]

/-- One cell alone (or cells that are told one by one). -/
def AV.one : AV → Bool
  | .v x => x.oneCell'
  | _ => true

/-- What a temporary, or a cell of a variable, holds. -/
inductive TV where
  | av (x : AV)
  | full (xs : List AV)
  | row (id n : Nat)
  | box (id off : Nat)
  | elem (id n sz i off : Nat)
  | clo (f : FuncId) (caps : List (Nat × Nat))
  | tup (xs : List TV)
  | ag (xs : List TV)
  | dead
  deriving Inhabited

/-- What stands where an operation was passed over. -/
def udf : TV := .av (.v (.tuple #[]))
def TV.one : TV → Bool
  | .av x => x.one
  | _ => true
def oneVs : List Value → Bool
  | [] => true
  | x :: r => x.oneCell' && oneVs r

/-- A variable, or a slice's row that is the call's own. -/
inductive SObj where
  | box (cs : List TV)
  | row (ex : Bool) (e : TypeId) (sz : Nat) (xs : List AV)
  | fbox (cs : List AV)
  | frow (xs : List AV)
  | gh (x : TV) (u : Value)
  deriving Inhabited

structure St where
  tmps : List (Nat × TV)
  objs : List (Nat × SObj)
  deriving Inhabited

def look {α : Type} : List (Nat × α) → Nat → Option α
  | [], _ => none
  | (k, x) :: r, t => bif k == t then some x else look r t

def drop {α : Type} : List (Nat × α) → Nat → List (Nat × α)
  | [], _ => []
  | (k, x) :: r, t => bif k == t then drop r t else (k, x) :: drop r t

def put {α : Type} (l : List (Nat × α)) (t : Nat) (x : α) : List (Nat × α) := (t, x) :: drop l t

/-- An item of a result: a value, or a row of the call's own. -/
inductive RItem where
  | av (x : AV)
  | own (ex : Bool) (e : TypeId) (sz : Nat) (xs : List AV)
  deriving Inhabited

/-- What kind of type. -/
inductive Sh where
  | int | str | bool | slice | ptr | iface | other
  deriving DecidableEq
def shOf : TypeDesc → Sh
  | .int _ => .int
  | .string => .str
  | .bool => .bool
  | .slice _ => .slice
  | .pointer _ => .ptr
  | .interface _ => .iface
  | _ => .other

structure TyI where
  size : Nat
  bytes : Nat
  agg : Bool
  zero : List Value
  fields : List (Nat × Nat × Bool)
  elem : Option TypeId
  kind : Option IntKind
  conc : Bool
  sh : Sh

def aggB (P : Program) (t : TypeId) : Bool := match P.underlying t with
  | some (.struct _) | some (.array _ _) => true
  | _ => false

def okD (P : Program) : TypeDesc → Bool
  | .struct fs => fs.toList.all fun f => (P.info? f.type).isSome && (P.underlying f.type).isSome
  | _ => true
def fieldsD (P : Program) : TypeDesc → List (Nat × Nat × Bool)
  | .struct fs => fs.toList.map fun f => (f.offset, P.cellsOf f.type, aggB P f.type)
  | _ => []
def elemD : TypeDesc → Option TypeId
  | .slice e => some e
  | _ => none
def kindD : TypeDesc → Option IntKind
  | .int k => some k
  | _ => none
def tyOf (P : Program) (t : TypeId) : Option TyI :=
  match P.info? t, P.underlying t with
  | some i, some d => match i.zero with
    | some z => if okD P d = true then some {
        size := i.size, bytes := i.bytes, agg := aggB P t, zero := z.cells.toList, fields := fieldsD P d,
        elem := elemD d, kind := kindD d, conc := P.concrete t, sh := shOf d } else none
    | none => none
  | _, _ => none

/-- How a function is walked: which aggregates are kept part by part; to whom rows are lent; who is told of the caller's own; and whether it is told so itself. -/
structure Mode where
  K : TypeId → Bool
  L : FuncId → Bool
  X : FuncId → Bool
  XR : Bool
  SX : FuncId → List TV → List (Nat × SObj) → TV → List (Nat × SObj) → Prop
def Mode.plain : Mode := ⟨fun _ => false, fun _ => false, fun _ => false, false, fun _ _ _ _ _ => False⟩

structure Ctx where
  P : Program
  T : TypeId → Option TyI
  W0 : World
  κ : Nat → Addr
  G : Nat → Option AV
  M : Mode

/-- Footprint of an operation: objects that it writes, reads, makes; and those that its result names. -/
structure Foot where
  wr : List Nat
  rd : List Nat
  nw : List Nat
  mt : List Nat
  deriving Inhabited

structure Eff where
  req : Bool
  val : TV
  wr : List (Nat × SObj)
  rd : List Nat
  nw : List Nat
  deriving Inhabited

def toAV : Value → AV
  | .slice none 0 0 => .sl []
  | x => .v x

def toTV : Value → TV
  | .slice none 0 0 => .full []
  | x => .av (.v x)

def St.ev (C : Ctx) (s : St) : Operand → Option TV
  | .tmp t => look s.tmps t
  | .const c => some (toTV c)
  | .global g => (C.G g).map fun x => .av (.ref [x])
  | .func f => some (.av (.fn f []))

def avOf : TV → Option AV
  | .av x => some x
  | .full xs => some (.sl xs)
  | _ => none
def avsOf : List TV → Option (List AV)
  | [] => some []
  | x :: r => match avOf x, avsOf r with
    | some a, some as => some (a :: as)
    | _, _ => none

structure Expo where
  req : Bool
  a : AV
  w : List (Nat × SObj)
  r : List Nat
structure Expos where
  req : Bool
  as : List AV
  w : List (Nat × SObj)
  r : List Nat

/-- A cell that is handed on. -/
def expoC (g : Nat → Option SObj) : TV → Option Expo
  | .av x => some ⟨x.one, x, [], []⟩
  | .full xs => some ⟨true, .sl xs, [], []⟩
  | .row id n => match g id with
    | some (.row _ _ _ xs) => some ⟨decide (xs.length = n), .sl xs, [(id, .frow xs)], [id]⟩
    | some (.frow xs) => some ⟨decide (xs.length = n), .sl xs, [], [id]⟩
    | _ => none
  | _ => none
def exposC (g : Nat → Option SObj) : List TV → Option Expos
  | [] => some ⟨true, [], [], []⟩
  | x :: r => match expoC g x, exposC g r with
    | some p, some q => some ⟨p.req && q.req, p.a :: q.as, p.w ++ q.w, p.r ++ q.r⟩
    | _, _ => none
/-- A value that is handed on: rows and variables are frozen. -/
def expo (g : Nat → Option SObj) : TV → Option Expo
  | .av x => some ⟨true, x, [], []⟩
  | .full xs => some ⟨true, .sl xs, [], []⟩
  | .row id n => match g id with
    | some (.row _ _ _ xs) => some ⟨decide (xs.length = n), .sl xs, [(id, .frow xs)], [id]⟩
    | some (.frow xs) => some ⟨decide (xs.length = n), .sl xs, [], [id]⟩
    | _ => none
  | .box id off => match g id with
    | some (.box cs) => match avsOf cs with
      | some avs => some ⟨true, .ref (avs.drop off), [(id, .fbox avs)], [id]⟩
      | none => none
    | some (.fbox avs) => some ⟨true, .ref (avs.drop off), [], [id]⟩
    | _ => none
  | .ag xs => match exposC g xs with
    | some p => some ⟨p.req, .agg p.as, p.w, p.r⟩
    | none => none
  | _ => none

/-- May it be a part of an aggregate that is told part by part? -/
def TV.isC : TV → Bool
  | .av x => x.one
  | .full _ => true
  | .row _ _ => true
  | _ => false
def allC : List TV → Bool
  | [] => true
  | x :: r => x.isC && allC r

def TV.cells : TV → Option (List TV)
  | .av (.agg cs) => some (cs.map .av)
  | .av x => some [.av x]
  | .tup _ => none
  | .ag xs => some xs
  | .dead => none
  | x => some [x]

def dflt : AV := .v (.tuple #[])

def sInt (op : BinOp) (k : IntKind) (a b : Int) : Option (Bool × Value) :=
  match op with
  | .add => some (true, .int k (k.wrap (a + b)))
  | .sub => some (true, .int k (k.wrap (a - b)))
  | .mul => some (true, .int k (k.wrap (a * b)))
  | .quo => some (decide (b ≠ 0), .int k (k.wrap (a.tdiv b)))
  | .rem => some (decide (b ≠ 0), .int k (a.tmod b))
  | .eql => some (true, .bool (a == b))
  | .neq => some (true, .bool (a != b))
  | .lss => some (true, .bool (decide (a < b)))
  | .leq => some (true, .bool (decide (a ≤ b)))
  | .gtr => some (true, .bool (decide (a > b)))
  | .geq => some (true, .bool (decide (a ≥ b)))
  | .and => some (true, .int k (k.wrap (BitVec.ofInt k.bits a &&& BitVec.ofInt k.bits b).toNat))
  | .or => some (true, .int k (k.wrap (BitVec.ofInt k.bits a ||| BitVec.ofInt k.bits b).toNat))
  | _ => none

def isSh (t : Option TyI) (s : Sh) : Bool := match t with
  | some t => match t.sh, s with
    | .int, .int => true
    | .str, .str => true
    | .bool, .bool => true
    | .slice, .slice => true
    | .ptr, .ptr => true
    | .iface, .iface => true
    | _, _ => false
  | none => false

def sBin (ty : Option TyI) (op : BinOp) (x y : Value) : Option (Bool × Value) :=
  match op, x, y with
  | .shl, .int k a, .int _ b => some (decide (0 ≤ b), .int k (k.wrap (a * 2 ^ min b.toNat k.bits)))
  | .shr, .int k a, .int _ b => some (decide (0 ≤ b), .int k (a.fdiv (2 ^ min b.toNat k.bits)))
  | op, .int k a, .int k' b => (sInt op k a b).map fun r => (r.1 && decide (k = k'), r.2)
  | .eql, .string a, .string b => some (true, .bool (a.toList == b.toList))
  | .neq, .string a, .string b => some (true, .bool (!(a.toList == b.toList)))
  | .add, .string a, .string b => some (decide (a.size + b.size ≤ 9223372036854775807), .string (a ++ b))
  | .eql, .bool a, .bool b => some (isSh ty .bool, .bool (a == b))
  | .neq, .bool a, .bool b => some (isSh ty .bool, .bool (!(a == b)))
  | _, _, _ => none

/-- What a comparison with nil tells. -/
def nilness : TV → Option (Sh × Bool)
  | .av (.v .nilIface) => some (.iface, true)
  | .av (.v (.pointer none)) => some (.ptr, true)
  | .av (.ifc _ _) => some (.iface, false)
  | .av (.ref _) => some (.ptr, false)
  | .box _ _ => some (.ptr, false)
  | .av (.v (.slice none _ _)) => some (.slice, true)
  | .av (.v (.slice (some _) _ _)) => some (.slice, false)
  | .av (.sl (_ :: _)) => some (.slice, false)
  | .full (_ :: _) => some (.slice, false)
  | _ => none

def nilConst : Operand → Option Sh
  | .const .nilIface => some .iface
  | .const (.pointer none) => some .ptr
  | .const (.slice none 0 0) => some .slice
  | _ => none
def sameSh : Sh → Sh → Bool
  | .iface, .iface => true
  | .ptr, .ptr => true
  | .slice, .slice => true
  | _, _ => false
def aNil (ty : Option TyI) (op : BinOp) (oy : Operand) (x : TV) : Option (Bool × Value) :=
  match op, nilConst oy, nilness x with
  | .eql, some s, some (s', b) => some (isSh ty s && sameSh s s', .bool b)
  | .neq, some s, some (s', b) => some (isSh ty s && sameSh s s', .bool (!b))
  | _, _, _ => none
def aBin (ty : Option TyI) (op : BinOp) (oy : Operand) (x y : TV) : Option (Bool × Value) :=
  match x, y with
  | .av (.v a), .av (.v b) => match sBin ty op a b with
    | some r => some r
    | none => aNil ty op oy x
  | x, _ => aNil ty op oy x

def asList (g : Nat → Option SObj) (x : TV) : Option (Bool × List AV × List Nat) :=
  match x with
  | .av (.sl xs) => some (true, xs, [])
  | .full xs => some (true, xs, [])
  | .av (.v (.slice _ 0 _)) => some (true, [], [])
  | .row id n => match g id with
    | some (.row _ _ _ xs) => some (decide (xs.length = n), xs, [id])
    | some (.frow xs) => some (decide (xs.length = n), xs, [id])
    | _ => none
  | _ => none

def expos (g : Nat → Option SObj) : List TV → Option Expos
  | [] => some ⟨true, [], [], []⟩
  | x :: r => match expo g x, expos g r with
    | some p, some q => some ⟨p.req && q.req, p.a :: q.as, p.w ++ q.w, p.r ++ q.r⟩
    | _, _ => none

def fillAt (cells : List AV) (off : Nat) (new : List AV) : List AV := cells.take off ++ new ++ cells.drop (off + new.length)
def fillTV (cells : List TV) (off : Nat) (new : List TV) : List TV := cells.take off ++ new ++ cells.drop (off + new.length)

def fills (fields : List (Nat × Nat × Bool)) (rq : Bool) (cells : List AV) : List (Nat × AV) → Option (Bool × List AV)
  | [] => some (rq, cells)
  | (i, x) :: r => match fields[i]? with
    | some (off, size, _) => fills fields (rq && x.one && decide (x.cells.length = size) && decide (off + size ≤ cells.length)) (fillAt cells off x.cells) r
    | none => none

/-- Parts laid over an aggregate's cells. -/
def fillsT (fields : List (Nat × Nat × Bool)) (rq : Bool) (cells : List TV) : List (Nat × TV) → Option (Bool × List TV)
  | [] => some (rq, cells)
  | (i, x) :: r => match fields[i]?, TV.cells x with
    | some (off, size, _), some new => fillsT fields (rq && x.one && allC new && decide (new.length = size) && decide (off + size ≤ cells.length)) (fillTV cells off new) r
    | _, _ => none

def plain (req : Bool) (v : TV) : Option Eff := some { req := req, val := v, wr := [], rd := [], nw := [] }

def intOf? : TV → Option Int
  | .av (.v (.int _ n)) => some n
  | _ => none

def mkInt (n : Int) : TV := .av (.v (.int .i64 n))

def bt (s : ByteArray) (i : Nat) : Int := ((s.data.toList.getD i 0).toNat : Int)

def aLoad (keep : Bool) (ty : TyI) (g : Nat → Option SObj) : TV → Option Eff
  | .av (.ref cs) => match ty.agg with
    | true => plain (decide (ty.size ≤ cs.length)) (.av (.agg (cs.take ty.size)))
    | false => match cs with
      | x :: _ => plain true (.av x)
      | [] => none
  | .box id off => match g id with
    | some (.box cs) => match ty.agg with
      | true => match keep with
        | true => some { req := decide (off + ty.size ≤ cs.length) && allC ((cs.drop off).take ty.size), val := .ag ((cs.drop off).take ty.size), wr := [], rd := [id], nw := [] }
        | false => match expos g ((cs.drop off).take ty.size) with
          | some p => some { req := p.req && decide (p.as.length = ty.size), val := .av (.agg p.as), wr := p.w, rd := id :: p.r, nw := [] }
          | none => none
      | false => match cs[off]? with
        | some x => some { req := true, val := x, wr := [], rd := [id], nw := [] }
        | none => none
    | some (.fbox cs) => match ty.agg with
      | true => some { req := decide (off + ty.size ≤ cs.length), val := .av (.agg ((cs.drop off).take ty.size)), wr := [], rd := [id], nw := [] }
      | false => match cs[off]? with
        | some x => some { req := true, val := .av x, wr := [], rd := [id], nw := [] }
        | none => none
    | _ => none
  | .elem id n sz i off => match g id with
    | some (.row _ _ sz' xs) => match ty.agg with
      | true => some { req := (xs.getD i dflt).one && decide (xs.length = n) && decide (i < xs.length) && decide (off + ty.size ≤ (xs.getD i dflt).cells.length) && decide (sz = sz'), val := .av (.agg (((xs.getD i dflt).cells.drop off).take ty.size)), wr := [], rd := [id], nw := [] }
      | false => match ((xs.getD i dflt).cells)[off]? with
        | some x => some { req := (xs.getD i dflt).one && decide (xs.length = n) && decide (i < xs.length) && decide (sz = sz'), val := .av x, wr := [], rd := [id], nw := [] }
        | none => none
    | _ => none
  | _ => none

def putCells (x : AV) (off : Nat) (new : List AV) : AV :=
  match x with
  | .agg cs => .agg (fillAt cs off new)
  | _ => match new with | y :: _ => y | [] => x

def aStore (ty : TyI) (g : Nat → Option SObj) (a x : TV) : Option Eff :=
  match a with
  | .box id off => match g id, TV.cells x with
    | some (.box cs), some new => some { req := x.one && decide (new.length = ty.size) && decide (off + ty.size ≤ cs.length), val := .dead, wr := [(id, .box (fillTV cs off new))], rd := [id], nw := [] }
    | _, _ => none
  | .elem id n sz i off => match g id, expo g x with
    | some (.row true e sz' xs), some p =>
      some { req := p.req && p.a.one && (xs.getD i dflt).one && decide (xs.length = n) && decide (i < xs.length) && decide (p.a.cells.length = ty.size) && decide (off + ty.size ≤ (xs.getD i dflt).cells.length) && decide (sz = sz') && !p.r.contains id, val := .dead, wr := p.w ++ [(id, .row true e sz' (xs.set i (putCells (xs.getD i dflt) off p.a.cells)))], rd := id :: p.r, nw := [] }
    | _, _ => none
  | _ => none

def hdOK (sz : Nat) : List AV → Bool
  | [] => true
  | x :: _ => x.one && decide (x.cells.length = sz)
def okHd (T : TypeId → Option TyI) (ty : Option TyI) (xs : List AV) : Bool :=
  match (ty.bind (·.elem)).bind T with
  | some te => hdOK te.size xs
  | none => false
def aSlice (T : TypeId → Option TyI) (ty : Option TyI) (g : Nat → Option SObj) (x : TV) (lo hi mx : Option TV) : Option Eff :=
  match x with
  | .av (.v (.string s)) =>
    match intOf? (lo.getD (mkInt 0)), intOf? (hi.getD (mkInt s.size)), mx with
    | some l, some h, none => plain (isSh ty .str && decide (0 ≤ l) && decide (l ≤ h) && decide (h ≤ s.size)) (.av (.v (.string (s.extract l.toNat h.toNat))))
    | _, _, _ => none
  | x => match expo g x with
    | some ⟨rq, .sl xs, w, rd⟩ => match mx with
      | none => match intOf? (lo.getD (mkInt 0)), intOf? (hi.getD (mkInt xs.length)) with
        | some l, some h => some { req := rq && isSh ty .slice && okHd T ty xs && decide (0 ≤ l) && decide (l ≤ h) && decide (h ≤ xs.length), val := .av (.sl ((xs.take h.toNat).drop l.toNat)), wr := w, rd := rd, nw := [] }
        | _, _ => none
      | some mv => match intOf? (lo.getD (mkInt 0)), hi.bind intOf?, intOf? mv with
        | some l, some h, some m => some { req := rq && isSh ty .slice && okHd T ty xs && decide (0 ≤ l) && decide (l ≤ h) && decide (h = m) && decide (h ≤ xs.length), val := .full ((xs.take h.toNat).drop l.toNat), wr := w, rd := rd, nw := [] }
        | _, _, _ => none
    | _ => none

def allSz (sz : Nat) : List AV → Bool
  | [] => true
  | x :: r => x.one && decide (x.cells.length = sz) && allSz sz r

def emptyL {α : Type} : List α → Bool
  | [] => true
  | _ => false
def aAppend (T : TypeId → Option TyI) (t : TypeId) (g : Nat → Option SObj) (own : Nat) (x y : TV) : Option Eff :=
  match (T t).bind (·.elem) with
  | none => none
  | some e => match T e, asList g y with
    | some te, some (rq, ys, rd) => match x with
      | .row id n => match g id with
        | some (.row ex e' sz xs) =>
          some { req := rq && decide (xs.length = n) && decide (e' = e) && decide (sz = te.size) && decide (te.zero.length = te.size) && decide (0 < sz) && allSz sz ys && decide ((xs.length + ys.length) * te.bytes ≤ 140737488355328) && decide (xs.length + ys.length ≤ 140737488355328) && !rd.contains id,
                 val := .row id (xs.length + ys.length), wr := [(id, .row ex e sz (xs ++ ys))], rd := id :: rd, nw := [] }
        | _ => none
      | .full xs =>
          some { req := rq && decide (te.zero.length = te.size) && decide (0 < te.size) && allSz te.size xs && allSz te.size ys && decide ((xs.length + ys.length) * te.bytes ≤ 140737488355328) && decide (xs.length + ys.length ≤ 140737488355328),
                 val := .row own (xs.length + ys.length), wr := [(own, .row (emptyL xs) e te.size (xs ++ ys))], rd := rd, nw := [own] }
      | _ => none
    | _, _ => none


def lendBox (g : Nat → Option SObj) : Nat × Nat → Option AV
  | (id, off) => match g id with
    | some (.box cs) => match avsOf cs with
      | some avs => some (.ref (avs.drop off))
      | none => none
    | some (.fbox avs) => some (.ref (avs.drop off))
    | _ => none

/-- A variable's first values. -/
def St.g0 (s : St) : Nat → Option SObj := look s.objs

def St.evl (C : Ctx) (s : St) : List Operand → Option (List TV)
  | [] => some []
  | x :: r => match s.ev C x, s.evl C r with
    | some v, some vs => some (v :: vs)
    | _, _ => none

def St.evo (C : Ctx) (s : St) : Option Operand → Option (Option TV)
  | none => some none
  | some x => (s.ev C x).bind fun v => some (some v)

def capsOf (C : Ctx) (s : St) : List Operand → Option (List (Nat × Nat))
  | [] => some []
  | x :: r => match s.ev C x, capsOf C s r with
    | some (.box id off), some cs => some ((id, off) :: cs)
    | _, _ => none

def aAssign (C : Ctx) (s : St) (own : Nat) (ty : TypeId) (x : Operand) : Option Eff :=
  match x with
  | .const (.slice none 0 0) => match (C.T ty).bind (·.elem) with
    | some e => match C.T e with
      | some te => match s.g0 own with
        | none => some { req := true, val := .row own 0, wr := [(own, .row true e te.size [])], rd := [own], nw := [own] }
        | some _ => some { req := true, val := .full [], wr := [], rd := [own], nw := [] }
      | none => none
    | none => none
  | x => (s.ev C x).bind fun v => plain true v
def aPick (c a b : Option TV) : Option Eff :=
  match c with
  | some (.av (.v (.bool true))) => a.bind fun v => plain true v
  | some (.av (.v (.bool false))) => b.bind fun v => plain true v
  | _ => none
def aAlloc (T : TypeId → Option TyI) (own : Nat) (t : TypeId) : Option Eff :=
  (T t).bind fun ty => some { req := oneVs ty.zero, val := .box own 0, wr := [(own, .box (ty.zero.map toTV))], rd := [], nw := [own] }
def aBox (own : Nat) (x : Option TV) : Option Eff :=
  x.bind fun x => (TV.cells x).bind fun cs => some { req := x.one, val := .box own 0, wr := [(own, .box cs)], rd := [], nw := [own] }
def nonNil {α : Type} : List α → Bool
  | [] => false
  | _ => true
def aBuildT (T : TypeId → Option TyI) (t : TypeId) (idx : List Nat) (xs : Option (List TV)) : Option Eff :=
  (T t).bind fun ty => xs.bind fun xs => (fillsT ty.fields true (ty.zero.map toTV) (idx.zip xs)).bind fun cs =>
    some { req := cs.1 && oneVs ty.zero && nonNil ty.fields, val := .ag cs.2, wr := [], rd := [], nw := [] }
def aBuild (T : TypeId → Option TyI) (g : Nat → Option SObj) (t : TypeId) (idx : List Nat) (xs : Option (List TV)) : Option Eff :=
  (T t).bind fun ty => xs.bind fun xs => (expos g xs).bind fun p => (fills ty.fields p.req (ty.zero.map toAV) (idx.zip p.as)).bind fun cs =>
    some { req := cs.1 && oneVs ty.zero && nonNil ty.fields, val := .av (.agg cs.2), wr := p.w, rd := p.r, nw := [] }
def aBuildSlice (T : TypeId → Option TyI) (g : Nat → Option SObj) (t : TypeId) (n : Nat) (idx : List Nat) (xs : Option (List TV)) : Option Eff :=
  ((T t).bind (·.elem)).bind fun e => (T e).bind fun te => xs.bind fun xs => (expos g xs).bind fun p =>
    some { req := p.req && decide (idx = List.range n) && decide (n * te.size ≤ 16777216) && decide (0 < te.size) && allSz te.size p.as, val := .full p.as, wr := p.w, rd := p.r, nw := [] }
def aUn (op : UnOp) (x : Option TV) : Option Eff :=
  match op, x with
  | .not, some (.av (.v (.bool b))) => plain true (.av (.v (.bool (!b))))
  | .neg, some (.av (.v (.int k n))) => plain true (.av (.v (.int k (k.wrap (0 - n)))))
  | _, _ => none
def aConv (sr : Option TyI) (d : Option IntKind) (x : Option TV) : Option Eff :=
  match d, x with
  | some k, some (.av (.v (.int _ n))) => plain sr.isSome (.av (.v (.int k (k.wrap n))))
  | _, _ => none
def aField (fs : List (Nat × Nat × Bool)) (f : Nat) (v : TV) : Option Eff :=
  match fs[f]? with
  | some (off, size, _) => match v with
    | .av (.ref cs) => plain (decide (0 < size)) (.av (.ref (cs.drop off)))
    | .box id o' => plain (decide (0 < size)) (.box id (o' + off))
    | .elem id n sz i o' => plain (decide (0 < size)) (.elem id n sz i (o' + off))
    | _ => none
  | none => none
def aIndex (sz0 : Nat) (g : Nat → Option SObj) (v : TV) (n : Int) : Option Eff :=
  match v with
  | .av (.sl xs) => plain (decide (0 ≤ n) && decide (n < xs.length) && (xs.getD n.toNat dflt).one && decide ((xs.getD n.toNat dflt).cells.length = sz0)) (.av (.ref (xs.getD n.toNat dflt).cells))
  | .full xs => plain (decide (0 ≤ n) && decide (n < xs.length) && (xs.getD n.toNat dflt).one && decide ((xs.getD n.toNat dflt).cells.length = sz0)) (.av (.ref (xs.getD n.toNat dflt).cells))
  | .row id m => match g id with
    | some (.row _ _ sz xs) => some { req := decide (0 ≤ n) && decide (n < xs.length) && decide (xs.length = m) && decide (sz = sz0), val := .elem id m sz n.toNat 0, wr := [], rd := [id], nw := [] }
    | some (.frow xs) => some { req := decide (0 ≤ n) && decide (n < xs.length) && decide (xs.length = m) && (xs.getD n.toNat dflt).one && decide ((xs.getD n.toNat dflt).cells.length = sz0), val := .av (.ref (xs.getD n.toNat dflt).cells), wr := [], rd := [id], nw := [] }
    | _ => none
  | _ => none
def aByte (ty : Option TyI) (x : Option TV) (i : Option Int) : Option Eff :=
  match x, i with
  | some (.av (.v (.string s))), some n => plain (isSh ty .str && decide (0 ≤ n) && decide (n < s.size)) (.av (.v (.int .u8 (bt s n.toNat))))
  | _, _ => none
def aPart (fs : List (Nat × Nat × Bool)) (f : Nat) (x : Option TV) : Option Eff :=
  match x, fs[f]? with
  | some (.av (.agg cs)), some (off, size, true) => plain (decide (off + size ≤ cs.length)) (.av (.agg ((cs.drop off).take size)))
  | some (.av (.agg cs)), some (off, _, false) => (cs[off]?).bind fun x => plain true (.av x)
  | some (.ag cs), some (off, size, true) => plain (decide (off + size ≤ cs.length)) (.ag ((cs.drop off).take size))
  | some (.ag cs), some (off, _, false) => (cs[off]?).bind fun x => plain x.isC x
  | _, _ => none
def aExtract (x : Option TV) (i : Nat) : Option Eff :=
  match x with
  | some (.tup xs) => (xs[i]?).bind fun v => plain true v
  | _ => none
def aIface (T : TypeId → Option TyI) (g : Nat → Option SObj) (t : TypeId) (x : Option TV) : Option Eff :=
  (T t).bind fun ty => (x.bind (expo g)).bind fun p => some { req := p.req && ty.conc, val := .av (.ifc t p.a), wr := p.w, rd := p.r, nw := [] }
def aFunc (f : FuncId) (first : List Operand) (caps : Option (List (Nat × Nat))) : Option Eff :=
  match first, caps with
  | [], some [] => plain true (.av (.fn f []))
  | [], some cs => plain true (.clo f cs)
  | _, _ => none
def aLen (ty : Option TyI) (xs : Option (List TV)) : Option Eff :=
  match xs with
  | some [.av (.v (.string s))] => plain (isSh ty .str) (mkInt s.size)
  | some [.av (.sl xs)] => plain (isSh ty .slice) (mkInt xs.length)
  | some [.full xs] => plain (isSh ty .slice) (mkInt xs.length)
  | some [.row _ n] => plain (isSh ty .slice) (mkInt n)
  | _ => none
def ty1 (T : TypeId → Option TyI) : List TypeId → Option TyI
  | t :: _ => T t
  | [] => none
def aMax (mx : Bool) (xs : Option (List TV)) : Option Eff :=
  match xs with
  | some [.av (.v (.int k a)), .av (.v (.int _ b))] => plain true (.av (.v (.int k (bif mx then (if b > a then b else a) else (if b < a then b else a)))))
  | _ => none
def aApp (T : TypeId → Option TyI) (g : Nat → Option SObj) (own : Nat) (xs : Option (List TV)) (ts : List TypeId) : Option Eff :=
  match xs, ts with
  | some [x, y], [t, t'] => bif t == t' then aAppend T t g own x y else none
  | _, _ => none

def aCheck (x : Option TV) : Option Eff :=
  match x with
  | some (.av (.ref cs)) => plain true (.av (.ref cs))
  | some (.box id off) => plain true (.box id off)
  | _ => none
/-- The operations that call no function. -/
def aop (C : Ctx) (s : St) (own : Nat) (o : Oper) : Option Eff :=
  match o.op with
  | .assign x => aAssign C s own o.type x
  | .move x => (s.ev C x).bind fun v => plain true v
  | .nilCheck x => aCheck (s.ev C x)
  | .pick c a b => aPick (s.ev C c) (s.ev C a) (s.ev C b)
  | .alloc t => aAlloc C.T own t
  | .box _ x => aBox own (s.ev C x)
  | .build t parts => match C.M.K t with
    | true => aBuildT C.T t (parts.toList.map (·.1)) (s.evl C (parts.toList.map (·.2)))
    | false => aBuild C.T s.g0 t (parts.toList.map (·.1)) (s.evl C (parts.toList.map (·.2)))
  | .buildSlice t n parts => aBuildSlice C.T s.g0 t n (parts.toList.map (·.1)) (s.evl C (parts.toList.map (·.2)))
  | .load t a => (C.T t).bind fun ty => (s.ev C a).bind fun x => aLoad (C.M.K t) ty s.g0 x
  | .store t a x => (C.T t).bind fun ty => (s.ev C a).bind fun p => (s.ev C x).bind fun v => aStore ty s.g0 p v
  | .binOp op t x y _ => (s.ev C x).bind fun a => (s.ev C y).bind fun b => (aBin (C.T t) op y a b).bind fun r => plain r.1 (.av (.v r.2))
  | .unOp op _ x => aUn op (s.ev C x)
  | .convert src dst x => aConv (C.T src) ((C.T dst).bind (·.kind)) (s.ev C x)
  | .slice t x lo hi mx => (s.ev C x).bind fun v => (s.evo C lo).bind fun lo => (s.evo C hi).bind fun hi => (s.evo C mx).bind fun mx => aSlice C.T (C.T t) s.g0 v lo hi mx
  | .fieldAddr t x f => (C.T t).bind fun ty => (s.ev C x).bind fun v => aField ty.fields f v
  | .indexAddr t x i => ((C.T t).bind (·.elem)).bind fun e => (C.T e).bind fun te => (s.ev C x).bind fun v => ((s.ev C i).bind intOf?).bind fun n => aIndex te.size s.g0 v n
  | .index t x i => aByte (C.T t) (s.ev C x) ((s.ev C i).bind intOf?)
  | .field t x f => (C.T t).bind fun ty => aPart ty.fields f (s.ev C x)
  | .extract x i => aExtract (s.ev C x) i
  | .makeInterface t x => aIface C.T s.g0 t (s.ev C x)
  | .makeFunc (.func f) first caps => aFunc f first.toList (capsOf C s caps.toList)
  | .call { callee := .builtin .len, args := args, argTypes := ts } => aLen (ty1 C.T ts.toList) (s.evl C args.toList)
  | .call { callee := .builtin .max, args := args, .. } => aMax true (s.evl C args.toList)
  | .call { callee := .builtin .min, args := args, .. } => aMax false (s.evl C args.toList)
  | .call { callee := .builtin .append, args := args, argTypes := ts } => aApp C.T s.g0 own (s.evl C args.toList) ts.toList
  | _ => none

end Go.Sy

/- What an abstract value stands for in memory; contracts of functions over abstract values. -/
set_option linter.unusedVariables false
namespace Go.Sy
open Go.RowKit

/-- The cells that do not turn any more. -/
abbrev Mem := Nat → Nat → Option Value

mutual
def RepV (κ : Nat → Addr) (m : Mem) : AV → Value → Prop
  | .v x, u => u = x
  | .sl xs, u => ∃ a c, u = .slice a xs.length c ∧ xs.length ≤ c ∧ ∃ sz b o, (xs = [] ∨ a = some ⟨b, o, none⟩) ∧ RepE κ m sz b o xs
  | .agg cs, u => ∃ vs : Array Value, u = .agg vs ∧ RepL κ m cs vs.toList
  | .ref cs, u => ∃ b o, u = .pointer (some ⟨b, o, none⟩) ∧ RepC κ m b o cs
  | .fn f cap, u => ∃ vs : Array Value, u = .func (.func f) #[] vs ∧ RepL κ m cap vs.toList
  | .ifc t x, u => ∃ y, u = .iface t y ∧ RepV κ m x y
  | .sent g, u => u = .pointer (some (κ g))
/-- Cells of a value, one by one. -/
def RepL (κ : Nat → Addr) (m : Mem) : List AV → List Value → Prop
  | [], us => us = []
  | x :: xs, us => ∃ u us', us = u :: us' ∧ u.oneCell' = true ∧ RepV κ m x u ∧ RepL κ m xs us'
/-- Cells in memory, from (b, o) on. -/
def RepC (κ : Nat → Addr) (m : Mem) (b : Nat) : Nat → List AV → Prop
  | _, [] => True
  | o, x :: xs => (∃ u, m b o = some u ∧ u.oneCell' = true ∧ RepV κ m x u) ∧ RepC κ m b (o + 1) xs
/-- Elements in memory, sz cells each. -/
def RepE (κ : Nat → Addr) (m : Mem) (sz b : Nat) : Nat → List AV → Prop
  | _, [] => True
  | o, x :: xs => (∃ y, RepV κ m x y ∧ y.cells.size = sz ∧ (∀ u ∈ y.cells, u.oneCell' = true) ∧ ∀ k u, y.cells[k]? = some u → m b (o + k) = some u) ∧ RepE κ m sz b (o + sz) xs
end

def MLe (m m' : Mem) : Prop := ∀ b o u, m b o = some u → m' b o = some u
def Cons (m : Mem) (w : World) : Prop := ∀ b o u, m b o = some u → w.cell? ⟨b, o, none⟩ = some u
def GlobOK (C : Ctx) (m : Mem) : Prop := ∀ g x, C.G g = some x → ∃ u, m g 0 = some u ∧ u.oneCell' = true ∧ RepV C.κ m x u

def callee (P : Program) (f : FuncId) : Bool := match P.funcs[f]? with
  | some fn => !(fn.name == "runtime.NumGoroutine") && fn.body.isSome
  | none => false

/-- Arguments: values one by one (not cells). -/
def RepA (κ : Nat → Addr) (m : Mem) : List AV → List Value → Prop
  | [], us => us = []
  | x :: xs, us => ∃ u us', us = u :: us' ∧ RepV κ m x u ∧ RepA κ m xs us'

/-- Elements, cell by cell, side by side. -/
def RepX (κ : Nat → Addr) (m : Mem) (sz : Nat) : List AV → List Value → Prop
  | [], us => us = []
  | x :: xs, us => ∃ y us', us = y.cells.toList ++ us' ∧ RepV κ m x y ∧ y.cells.size = sz ∧ (∀ v ∈ y.cells, v.oneCell' = true) ∧ RepX κ m sz xs us'

def blkOf : Value → Option Nat
  | .slice (some a) _ _ => some a.block
  | .pointer (some a) => some a.block
  | _ => none
/-- Nobody else holds this block. -/
def Exc (m : Mem) (u : Value) (b : Nat) : Prop := blkOf u = some b ∧ (∀ o, m b o = none) ∧ ∀ a l, u ≠ .slice a l 0

/-- A row of the call's own, in world w: in a block of its own; empty; a whole window of frozen memory. -/
def OwnRow (κ : Nat → Addr) (m : Mem) (w : World) (Ow : Nat → Prop) (ex : Bool) (e : TypeId) (sz : Nat) (xs : List AV) (u : Value) : Prop :=
  (∃ us b cap, u = .slice (some ⟨b, 0, none⟩) xs.length cap ∧ 0 < cap ∧ w.ownsRow 0 e sz u xs.length us ∧ RepX κ m sz xs us ∧ Ow b ∧ ∀ o, m b o = none) ∨
  (xs = [] ∧ ∃ a, u = .slice a 0 0) ∨
  (ex = false ∧ 0 < sz ∧ xs ≠ [] ∧ ∃ b o, u = .slice (some ⟨b, o, none⟩) xs.length xs.length ∧ RepE κ m sz b o xs)

def RepR (κ : Nat → Addr) (m : Mem) (w : World) (Ow : Nat → Prop) : RItem → Value → Prop
  | .av x, u => RepV κ m x u
  | .own ex e sz xs, u => OwnRow κ m w Ow ex e sz xs u

def RItem.isOwn : RItem → Bool
  | .own _ _ _ _ => true
  | _ => false

/-- Results one by one. -/
def RepRs (κ : Nat → Addr) (m : Mem) (w : World) (Ow : Nat → Prop) : List RItem → List Value → Prop
  | [], us => us = []
  | x :: xs, us => ∃ u us', us = u :: us' ∧ RepR κ m w Ow x u ∧ RepRs κ m w Ow xs us'

/-- Rows that are handed back don't share a block. -/
def Sep (m : Mem) (res : List RItem) (us : List Value) : Prop :=
  ∀ (i j : Nat) (x y : RItem) (u v : Value) (b : Nat), res[i]? = some x → res[j]? = some y → x.isOwn = true → y.isOwn = true → us[i]? = some u → us[j]? = some v → Exc m u b → Exc m v b → i = j

def RepRes (κ : Nat → Addr) (m : Mem) (w : World) (Ow : Nat → Prop) (res : List RItem) (v : Value) : Prop :=
  match res with
  | [r] => RepR κ m w Ow r v
  | rs => ∃ us : Array Value, v = .tuple us ∧ RepRs κ m w Ow rs us.toList ∧ Sep m rs us.toList

/-- What a call leaves. -/
structure Post (C : Ctx) (m : Mem) (w : World) (res : List RItem) (e : Ending) (w' : World) : Prop where
  out : ∃ v m', e = .returned v ∧ MLe m m' ∧ (∀ b, b < w.heap.size → m' b = m b) ∧ Cons m' w' ∧ Below w.heap.size w w' ∧ RepRes C.κ m' w' (w.heap.size ≤ ·) res v

/-- THE CONTRACT: called with these arguments in whatever world, the function returns what is said, in new memory. -/
structure Sound (C : Ctx) (f : FuncId) (args : List AV) (res : List RItem) : Prop where
  callee : callee C.P f = true
  run : ∀ m w vs, Cons m w → GlobOK C m → Below C.W0.heap.size C.W0 w → RepA C.κ m args vs → Calls C.P f vs.toArray w (Post C m w res)

end Go.Sy

/- Abstract execution of loaded code: one derivation step by step; equations by which simp walks it. -/
set_option linter.unusedVariables false
namespace Go.Sy

def St.g (s : St) : Nat → Option SObj := look s.objs
def setD (l : List (Nat × TV)) (d : Option Tmp) (x : TV) : List (Nat × TV) := match d with
  | some t => put l t x
  | none => l
def St.setT (s : St) (d : Option Tmp) (x : TV) : St := { tmps := setD s.tmps d x, objs := s.objs }
def putAll : List (Nat × SObj) → List (Nat × SObj) → List (Nat × SObj)
  | l, [] => l
  | l, (i, o) :: r => putAll (put l i o) r
def St.app (s : St) (d : Option Tmp) (e : Eff) : St := { tmps := setD s.tmps d e.val, objs := putAll s.objs e.wr }

def TV.ment : TV → List Nat
  | .row id _ => [id]
  | .box id _ => [id]
  | .elem id _ _ _ _ => [id]
  | .clo _ cs => cs.map (·.1)
  | .tup xs => xs.foldr (fun x l => (match x with | .row id _ => [id] | .box id _ => [id] | .elem id _ _ _ _ => [id] | _ => []) ++ l) []
  | .ag xs => xs.foldr (fun x l => (match x with | .row id _ => [id] | .box id _ => [id] | .elem id _ _ _ _ => [id] | _ => []) ++ l) []
  | _ => []
def TVs.ment : List TV → List Nat
  | [] => []
  | x :: r => x.ment ++ TVs.ment r
def SObj.ment : SObj → List Nat
  | .box cs => TVs.ment cs
  | .gh x _ => x.ment
  | _ => []
/-- Nothing names this object, and it isn't there. -/
def freshT (id : Nat) : List (Nat × TV) → Bool
  | [] => true
  | (_, x) :: r => !x.ment.contains id && freshT id r
def freshO (id : Nat) : List (Nat × SObj) → Bool
  | [] => true
  | (k, x) :: r => !(k == id) && !x.ment.contains id && freshO id r
def St.fresh (s : St) (id : Nat) : Bool := freshT id s.tmps && freshO id s.objs

def ownId (o : Oper) : Nat := match o.dst with | some d => 8 * d | none => 7

/-- A result bound to a temporary: rows get objects. -/
def bindR (id : Nat) : RItem → TV × List (Nat × SObj)
  | .av x => (.av x, [])
  | .own ex e sz xs => (.row id xs.length, [(id, .row ex e sz xs)])
def bindRs : Nat → List RItem → List TV × List (Nat × SObj)
  | _, [] => ([], [])
  | id, r :: rs => ((bindR id r).1 :: (bindRs (id + 1) rs).1, (bindR id r).2 ++ (bindRs (id + 1) rs).2)
def bindRes (id : Nat) : List RItem → TV × List (Nat × SObj)
  | [r] => bindR id r
  | rs => (.tup (bindRs id rs).1, (bindRs id rs).2)

/-- Arguments that are handed over: values; closures over variables are lent. -/
def lends (g : Nat → Option SObj) : List (Nat × Nat) → Option (List AV)
  | [] => some []
  | c :: r => match lendBox g c, lends g r with
    | some x, some xs => some (x :: xs)
    | _, _ => none
/-- A row that is lent. -/
def lendR (ld : Bool) (g : Nat → Option SObj) : TV → Option (AV × Nat × Bool)
  | .row id n => match ld with
    | true => match g id with
      | some (.row _ _ _ xs) => some (.sl xs, id, decide (xs.length = n))
      | _ => none
    | false => none
  | _ => none
/-- (values, writes, reads, lent?, condition) -/
def argsOf (ld : Bool) (g : Nat → Option SObj) : List TV → Option (List AV × List (Nat × SObj) × List Nat × Bool × Bool)
  | [] => some ([], [], [], false, true)
  | x :: r => match argsOf ld g r with
    | none => none
    | some (as, ws, is, l, rq) => match x with
      | .clo f cs => match lends g cs with
        | some xs => some (.fn f xs :: as, ws, cs.map (·.1) ++ is, true, rq)
        | none => none
      | x => match lendR ld g x with
        | some (a, id, b) => some (a :: as, ws, id :: is, true, b && rq)
        | none => match expo g x with
          | some p => some (p.a :: as, p.w ++ ws, p.r ++ is, l, p.req && rq)
          | none => none

def flatV : Value → Bool
  | .bool _ | .int _ _ | .string _ => true
  | _ => false
def flatR : List RItem → Bool
  | [.av (.v x)] => flatV x
  | _ => false

def St.evs (C : Ctx) (s : St) : List Operand → Option (List TV)
  | [] => some []
  | x :: r => match s.ev C x, s.evs C r with
    | some v, some vs => some (v :: vs)
    | _, _ => none

/-- What is called, and with what. -/
def callOf (C : Ctx) (s : St) (f : Operand) (args : Array Operand) : Option (FuncId × List TV) :=
  match s.ev C f, s.evs C args.toList with
  | some (.av (.fn g cap)), some xs => some (g, xs ++ cap.map .av)
  | some (.clo g caps), some xs => some (g, xs ++ caps.map fun c => .box c.1 c.2)
  | _, _ => none

def guardOf (ops : List Oper) (s : St) (g : Option (Nat × Bool)) : Option (Option (Tmp × Bool × Bool)) :=
  match g with
  | none => some none
  | some (j, want) => match (ops[j]?).bind (·.dst) with
    | some t => match look s.tmps t with
      | some (.av (.v (.bool b))) => some (some (t, b, want))
      | _ => none
    | none => none

/-- A guard that was passed over itself. -/
def guardOff (ops : List Oper) (s : St) (g : Option (Nat × Bool)) : Bool :=
  match g with
  | none => false
  | some (j, _) => match (ops[j]?).bind (·.dst) with
    | some t => match look s.tmps t with
      | some (.av (.v (.tuple _))) => true
      | _ => false
    | none => false

def isCall : Op → Option (Operand × Array Operand)
  | .call { callee := .value f, args := args, .. } => some (f, args)
  | _ => none

def allFresh (s : St) : List Nat → Bool
  | [] => true
  | i :: r => s.fresh i && allFresh s r
def mentW : List (Nat × SObj) → List Nat
  | [] => []
  | p :: r => p.2.ment ++ mentW r
def fsts : List (Nat × SObj) → List Nat
  | [] => []
  | p :: r => p.1 :: fsts r


/-! ### Names of the caller's own objects, as the callee's contract tells them -/
def ren (ρ : List (Nat × Nat)) (i : Nat) : Nat := (look ρ i).getD i
def renT0 (ρ : List (Nat × Nat)) : TV → TV
  | .row id n => .row (ren ρ id) n
  | .box id off => .box (ren ρ id) off
  | .elem id n sz i off => .elem (ren ρ id) n sz i off
  | x => x
def renC (ρ : List (Nat × Nat)) : List (Nat × Nat) → List (Nat × Nat)
  | [] => []
  | (i, o) :: r => (ren ρ i, o) :: renC ρ r
def renT (ρ : List (Nat × Nat)) : TV → TV
  | .clo f cs => .clo f (renC ρ cs)
  | .tup xs => .tup (xs.map (renT0 ρ))
  | .ag xs => .ag (xs.map (renT0 ρ))
  | x => renT0 ρ x
def renO (ρ : List (Nat × Nat)) : SObj → SObj
  | .box cs => .box (cs.map (renT ρ))
  | .gh x u => .gh (renT ρ x) u
  | o => o
def renW (ρ : List (Nat × Nat)) : List (Nat × SObj) → List (Nat × SObj)
  | [] => []
  | (i, o) :: r => (ren ρ i, renO ρ o) :: renW ρ r
def subB : List Nat → List Nat → Bool
  | [], _ => true
  | x :: r, l => l.contains x && subB r l
def nodB : List Nat → Bool
  | [] => true
  | x :: r => !r.contains x && nodB r
def keysOf : List (Nat × Nat) → List Nat
  | [] => []
  | p :: r => p.1 :: keysOf r
def valsOf : List (Nat × Nat) → List Nat
  | [] => []
  | p :: r => p.2 :: valsOf r
def newIds : List Nat → List Nat → List Nat
  | [], _ => []
  | x :: r, l => bif l.contains x then newIds r l else x :: newIds r l
def liveO : SObj → Bool
  | .box _ => true
  | .row _ _ _ _ => true
  | _ => false
def liveW : List (Nat × SObj) → Bool
  | [] => true
  | p :: r => liveO p.2 && liveW r
def xOK (ρ : List (Nat × Nat)) (pre : List (Nat × SObj)) (res : TV) (post : List (Nat × SObj)) : Bool :=
  nodB (fsts pre) && nodB (fsts post) && nodB (valsOf ρ) && subB (fsts post) (keysOf ρ) && subB (fsts pre) (fsts post) && subB res.ment (fsts post) && subB (mentW post) (fsts post) && liveW pre && liveW post
/-- Each of these objects lies here. -/
def onO (g : Nat → Option SObj) : List (Nat × SObj) → Prop
  | [] => True
  | (i, o) :: r => g i = some o ∧ onO g r

def noFoot : Foot := { wr := [], rd := [], nw := [], mt := [] }

/-! ### Orders -/
def ancOf (acc : List Nat) (o : Oper) : Nat := o.after.toList.foldl (fun s e => if Region.binds .any e then s ||| 2 ^ e.on ||| acc.getD e.on 0 else s) 0
def ancsFrom : List Nat → List Oper → List Nat
  | acc, [] => acc
  | acc, o :: os => ancsFrom (acc ++ [ancOf acc o]) os
def ancs (ops : List Oper) : List Nat := ancsFrom [] ops
def tmpsOf (ops : List Oper) (o : Oper) : List Nat :=
  (o.op.operands.toList.filterMap fun | .tmp t => some t | _ => none) ++ (match o.guard with | some (g, _) => ((ops[g]?).bind (·.dst)).toList | none => [])
def disj (a b : List Nat) : Bool := a.all fun x => !b.contains x
/-- Operations i and j (j before i in the text; i doesn't wait for j) may change places. -/
def apartOK (ops : List Oper) (oi oj : Oper) (fi fj : Foot) : Bool :=
  disj oj.dst.toList (oi.dst.toList ++ tmpsOf ops oi) && disj (tmpsOf ops oj) oi.dst.toList &&
  disj fj.wr (fi.wr ++ fi.rd) && disj (fj.wr ++ fj.rd) fi.wr
def backOK (i : Nat) (o : Oper) : Bool := o.after.toList.all fun e => !Region.binds .any e || decide (e.on < i)
def orderOK (ops : List Oper) (fs : List Foot) : Bool :=
  (List.range ops.length).all fun i => match ops[i]?, fs[i]? with
    | some oi, some fi => backOK i oi && (List.range ops.length).all fun j => i == j || match ops[j]?, fs[j]? with
      | some oj, some fj =>
        (i ≤ j || ((ancs ops).getD i 0).testBit j || apartOK ops oi oj fi fj) &&
        ((decide (i < j) && ((ancs ops).getD j 0).testBit i) || disj fi.nw (fj.mt ++ fj.wr))
      | _, _ => false
    | _, _ => false
def freshAll (s : St) (fs : List Foot) : Bool := fs.all fun f => f.nw.all fun i => s.fresh i


/-- Less is known. -/
def St.le (s s' : St) : Prop := (∀ t x, look s.tmps t = some x → look s'.tmps t = some x) ∧ (∀ i o, look s.objs i = some o → look s'.objs i = some o)

def boolOf : Option TV → Option Bool
  | some (.av (.v (.bool t))) => some t
  | _ => none

/-! ### Results -/
def nodupB : List Nat → Bool
  | [] => true
  | x :: r => !r.contains x && nodupB r

def retItem (C : Ctx) (s : St) : ResultVar → Option (Bool × RItem × List (Nat × SObj))
  | .tmp t => match look s.tmps t with
    | some (.row id n) => match s.g id with
      | some (.row ex e sz xs) => some (decide (xs.length = n), .own ex e sz xs, [])
      | some (.frow xs) => some (decide (xs.length = n), .av (.sl xs), [])
      | _ => none
    | some x => match expo s.g x with
      | some p => some (p.req, .av p.a, p.w)
      | none => none
    | none => none
  | .cell a t => match look s.tmps a, C.T t with
    | some (.box id 0), some ty => match aLoad (C.M.K t) ty s.g (.box id 0) with
      | some e => match expo s.g e.val with
        | some p => some (e.req && p.req, .av p.a, e.wr ++ p.w)
        | _ => none
      | none => none
    | _, _ => none
def retItems0 (C : Ctx) : St → List ResultVar → Option (Bool × List RItem × List (Nat × SObj))
  | _, [] => some (true, [], [])
  | s, r :: rs => match retItem C s r with
    | some x => match retItems0 C { tmps := s.tmps, objs := putAll s.objs x.2.2 } rs with
      | some xs => some (x.1 && xs.1, x.2.1 :: xs.2.1, x.2.2 ++ xs.2.2)
      | none => none
    | none => none
def rowsOf (s : St) : List ResultVar → List Nat
  | [] => []
  | .tmp t :: r => (match look s.tmps t with | some x => x.ment | none => []) ++ rowsOf s r
  | _ :: r => rowsOf s r
def disjB : List Nat → List Nat → Bool
  | [], _ => true
  | x :: r, l => !l.contains x && disjB r l
def ownIds : List Nat → List RItem → List Nat
  | x :: r, .own _ _ _ _ :: rs => x :: ownIds r rs
  | _ :: r, .av _ :: rs => ownIds r rs
  | _, _ => []
/-- The object of each result that is a row. -/
def resIds (s : St) : List ResultVar → List Nat
  | [] => []
  | .tmp t :: r => (match look s.tmps t with | some (.row id _) => id | _ => 0) :: resIds s r
  | _ :: r => 0 :: resIds s r
def retItems (C : Ctx) (s : St) (rv : List ResultVar) : Option (Bool × List RItem) :=
  match retItems0 C s rv with
  | some x => some (x.1 && disjB (ownIds (resIds s rv) x.2.1) (fsts x.2.2) && nodupB (ownIds (resIds s rv) x.2.1), x.2.1)
  | none => none
def initT : Nat → List AV → List (Nat × TV)
  | _, [] => []
  | i, x :: r => (i, .av x) :: initT (i + 1) r
def St.init (args : List AV) : St := { tmps := initT 0 args, objs := [] }

/-- What is still to be done. -/
inductive It where
  | code (c : Code)
  | blk (id : Nat)
  | lp (n : Nat) (st : Nat → St) (I : Nat → Prop) (j : Nat)
  | ops (d : Bool) (all os : List Oper) (s0 : St) (tr : List Foot)
  | one (o : Oper)

/-- A choice that stands ahead. -/
inductive Sp where
  | go
  | clx (f : FuncId) (xs : List TV) (dst : Option Tmp) (id : Nat) (d : Bool) (all os : List Oper) (s0 : St) (tr : List Foot)
  | fst (x : TV)
  | cl (f : FuncId) (as : List AV) (ws : List (Nat × SObj)) (is : List Nat) (lent : Bool) (dst : Option Tmp) (id : Nat) (d : Bool) (all os : List Oper) (s0 : St) (tr : List Foot)
  | gd (t : Tmp) (b w : Bool) (o : Oper) (d : Bool) (all os : List Oper) (s0 : St) (tr : List Foot)
  | br (t : Bool) (a b : Code)
  | fin (res : List RItem)

/-- What is told of a function's end: its results; or the state that it leaves, and its result. -/
inductive RI where
  | items (res : List RItem)
  | st (s : St) (x : TV)
def isT0 : TV → Bool
  | .av _ | .full _ | .row _ _ | .box _ _ => true
  | _ => false
def retXs (s : St) : List ResultVar → Option (List TV)
  | [] => some []
  | .tmp t :: r => match look s.tmps t, retXs s r with
    | some x, some xs => bif isT0 x then some (x :: xs) else none
    | _, _ => none
  | _ :: _ => none
def retX (s : St) : List ResultVar → Option TV
  | [.tmp t] => look s.tmps t
  | rvs => match retXs s rvs with
    | some xs => some (.tup xs)
    | none => none

structure Cfg where
  rq : Bool
  sp : Sp
  k : List It
  s : St

def effFoot (e : Eff) : Foot := { wr := fsts e.wr, rd := e.rd, nw := e.nw, mt := e.val.ment ++ mentW e.wr }
def callFoot (id : Nat) (ws : List (Nat × SObj)) (is : List Nat) (res : List RItem) : Foot :=
  { wr := fsts ws ++ fsts (bindRes id res).2, rd := is, nw := fsts (bindRes id res).2, mt := (bindRes id res).1.ment }
def callSt (s : St) (d : Option Tmp) (id : Nat) (ws : List (Nat × SObj)) (res : List RItem) : St :=
  { tmps := setD s.tmps d (bindRes id res).1, objs := putAll (putAll s.objs ws) (bindRes id res).2 }
def callReq (s : St) (id : Nat) (lent : Bool) (res : List RItem) : Bool := (!lent || flatR res) && allFresh s (fsts (bindRes id res).2)
def xFoot (ρ : List (Nat × Nat)) (pre : List (Nat × SObj)) (res : TV) (post : List (Nat × SObj)) : Foot :=
  { wr := fsts (renW ρ post), rd := fsts (renW ρ pre), nw := newIds (fsts (renW ρ post)) (fsts (renW ρ pre)), mt := (renT ρ res).ment ++ mentW (renW ρ post) }
def xSt (s : St) (d : Option Tmp) (ρ : List (Nat × Nat)) (res : TV) (post : List (Nat × SObj)) : St :=
  { tmps := setD s.tmps d (renT ρ res), objs := putAll s.objs (renW ρ post) }
def popTo (id : Nat) : List It → Option (List It)
  | [] => none
  | .blk i :: k => bif i == id then some k else popTo id k
  | _ :: k => popTo id k
/-- Footprints are kept where the order is open. -/
def trA (d : Bool) (tr : List Foot) (f : Foot) : List Foot := match d with | true => tr ++ [f] | false => tr

/-- One operation that is wanted. -/
inductive Stp (C : Ctx) (s : St) (o : Oper) : St → Foot → Prop
  | op {e : Eff} : isCall o.op = none → aop C s (ownId o) o = some e → (e.req && allFresh s e.nw) = true → Stp C s o (s.app o.dst e) (effFoot e)
  | call {fo : Operand} {args : Array Operand} {f : FuncId} {xs : List TV} {as : List AV} {ws : List (Nat × SObj)} {is : List Nat} {lent : Bool} {rq : Bool} {res : List RItem} :
      isCall o.op = some (fo, args) → callOf C s fo args = some (f, xs) → argsOf (C.M.L f) s.g xs = some (as, ws, is, lent, rq) → rq = true → Sound C f as res → callReq s (ownId o) lent res = true →
      Stp C s o (callSt s o.dst (ownId o) ws res) (callFoot (ownId o) ws is res)
  | callX {fo : Operand} {args : Array Operand} {f : FuncId} {xs : List TV} {pargs : List TV} {pre post : List (Nat × SObj)} {res : TV} {ρ : List (Nat × Nat)} :
      isCall o.op = some (fo, args) → callOf C s fo args = some (f, xs) → C.M.SX f pargs pre res post → xs = pargs.map (renT ρ) → onO s.g0 (renW ρ pre) → (xOK ρ pre res post && allFresh s (newIds (fsts (renW ρ post)) (fsts (renW ρ pre)))) = true →
      Stp C s o (xSt s o.dst ρ res post) (xFoot ρ pre res post)

/-- A nil slice in a variable's cell is a row of the call's own. -/
def adoptS (s : St) (bid off id : Nat) (e : TypeId) (sz : Nat) : Option St :=
  match look s.objs bid with
  | some (.box cs) => match cs[off]? with
    | some (.full []) => bif s.fresh id then some ⟨s.tmps, put (put s.objs id (.row true e sz [])) bid (.box (cs.set off (.row id 0)))⟩ else none
    | _ => none
  | _ => none

def isReg : Code → Bool
  | .region _ _ _ => true
  | _ => false

/-- A derivation: the code runs, and hands back what R tells. -/
inductive Go (C : Ctx) (rv : Array ResultVar) (R : RI → Prop) : List It → St → Prop
  | fin {s b res} : retItems C s rv.toList = some (b, res) → b = true → nodupB (rowsOf s rv.toList) = true → R (.items res) → Go C rv R [] s
  | ret {k s b res} : retItems C s rv.toList = some (b, res) → b = true → nodupB (rowsOf s rv.toList) = true → R (.items res) → Go C rv R (.code .ret :: k) s
  | finS {s x} : C.M.XR = true → retX s rv.toList = some x → R (.st s x) → Go C rv R [] s
  | retS {k s x} : C.M.XR = true → retX s rv.toList = some x → R (.st s x) → Go C rv R (.code .ret :: k) s
  | adopt {c k s s' bid off id e sz} : isReg c = false → adoptS s bid off id e sz = some s' → Go C rv R (.code c :: k) s' → Go C rv R (.code c :: k) s
  | skip {k s} : Go C rv R k s → Go C rv R (.code .skip :: k) s
  | seq {a b k s} : Go C rv R (.code a :: .code b :: k) s → Go C rv R (.code (.seq a b) :: k) s
  | region {i ops d k s} : Go C rv R (.ops d ops.toList ops.toList s [] :: k) s → Go C rv R (.code (.region i ops d) :: k) s
  | opsNil {d all s0 tr k s} : (d = true → orderOK all tr = true ∧ freshAll s0 tr = true) → Go C rv R k s → Go C rv R (.ops d all [] s0 tr :: k) s
  | opsOp {d all o os s0 tr k s} : o.guard = none → Go C rv R (.one o :: .ops d all os s0 tr :: k) s → Go C rv R (.ops d all (o :: os) s0 tr :: k) s
  | opsGuard {d all o os s0 tr k s t b w} : guardOf all s o.guard = some (some (t, b, w)) →
      (b = w → Go C rv R (.one o :: .ops d all os s0 tr :: k) (s.setT (some t) (.av (.v (.bool w))))) →
      (b = !w → Go C rv R (.ops d all os s0 (trA d tr noFoot) :: k) ((s.setT (some t) (.av (.v (.bool (!w))))).setT o.dst udf)) →
      Go C rv R (.ops d all (o :: os) s0 tr :: k) s
  | opsOff {d all o os s0 tr k s} : guardOff all s o.guard = true → Go C rv R (.ops d all os s0 (trA d tr noFoot) :: k) (s.setT o.dst udf) → Go C rv R (.ops d all (o :: os) s0 tr :: k) s
  | one {d all o os s0 tr k s s' f} : Stp C s o s' f → Go C rv R (.ops d all os s0 (trA d tr f) :: k) s' → Go C rv R (.one o :: .ops d all os s0 tr :: k) s
  | cond {c a b k s t} : boolOf (s.ev C c) = some t → (t = true → Go C rv R (.code a :: k) s) → (t = false → Go C rv R (.code b :: k) s) → Go C rv R (.code (.cond c a b) :: k) s
  | block {id c k s} : Go C rv R (.code c :: .blk id :: k) s → Go C rv R (.code (.block id c) :: k) s
  | blk {id k s} : Go C rv R k s → Go C rv R (.blk id :: k) s
  | exit {id k k' s} : popTo id k = some k' → Go C rv R k' s → Go C rv R (.code (.exit id) :: k) s
  | loop {c k s} (n : Nat) (st : Nat → St) (I : Nat → Prop) : (st 0).le s → I 0 → (∀ j, j ≤ n → I j → Go C rv R (.code c :: .lp n st I j :: k) (st j)) → Go C rv R (.code (.loop c) :: k) s
  | back {n st I j k s} : j < n → I (j + 1) → (st (j + 1)).le s → Go C rv R (.lp n st I j :: k) s

/-! ### The walk -/
/-- The next configuration, where there is one without a choice. -/
def step (C : Ctx) (rv : Array ResultVar) : Cfg → Option Cfg
  | ⟨rq, .go, k, s⟩ => match k with
    | [] => match C.M.XR with
      | true => match retX s rv.toList with
        | some x => some ⟨rq, .fst x, [], s⟩
        | none => none
      | false => match retItems C s rv.toList with
        | some (b, res) => some ⟨rq && (b && nodupB (rowsOf s rv.toList)), .fin res, [], s⟩
        | none => none
    | i :: k => match i with
      | .code c => match c with
        | .skip => some ⟨rq, .go, k, s⟩
        | .seq a b => some ⟨rq, .go, .code a :: .code b :: k, s⟩
        | .region _ ops d => some ⟨rq, .go, .ops d ops.toList ops.toList s [] :: k, s⟩
        | .block id c => some ⟨rq, .go, .code c :: .blk id :: k, s⟩
        | .exit id => match popTo id k with
          | some k' => some ⟨rq, .go, k', s⟩
          | none => none
        | .cond c a b => match boolOf (s.ev C c) with
          | some t => some ⟨rq, .br t a b, k, s⟩
          | none => none
        | .ret => match C.M.XR with
          | true => match retX s rv.toList with
            | some x => some ⟨rq, .fst x, [], s⟩
            | none => none
          | false => match retItems C s rv.toList with
            | some (b, res) => some ⟨rq && (b && nodupB (rowsOf s rv.toList)), .fin res, [], s⟩
            | none => none
        | _ => none
      | .blk _ => some ⟨rq, .go, k, s⟩
      | .ops d all os s0 tr => match os with
        | [] => match d with
          | false => some ⟨rq, .go, k, s⟩
          | true => none
        | o :: os => match o.guard with
          | none => some ⟨rq, .go, .one o :: .ops d all os s0 tr :: k, s⟩
          | some (j, want) => match guardOff all s (some (j, want)) with
            | true => some ⟨rq, .go, .ops d all os s0 (trA d tr noFoot) :: k, s.setT o.dst udf⟩
            | false => match guardOf all s (some (j, want)) with
              | some (some (t, b, w)) => some ⟨rq, .gd t b w o d all os s0 tr, k, s⟩
              | _ => none
      | .one o => match k with
        | .ops d all os s0 tr :: k => match isCall o.op with
          | none => match aop C s (ownId o) o with
            | some e => some ⟨rq && (e.req && allFresh s e.nw), .go, .ops d all os s0 (trA d tr (effFoot e)) :: k, s.app o.dst e⟩
            | none => none
          | some (fo, args) => match callOf C s fo args with
            | some (f, xs) => match C.M.X f with
              | true => some ⟨rq, .clx f xs o.dst (ownId o) d all os s0 tr, k, s⟩
              | false => match argsOf (C.M.L f) s.g xs with
                | some (as, ws, is, lent, b) => some ⟨rq && b, .cl f as ws is lent o.dst (ownId o) d all os s0 tr, k, s⟩
                | none => none
            | none => none
        | _ => none
      | _ => none
  | _ => none

def run (C : Ctx) (rv : Array ResultVar) : Nat → Cfg → Cfg
  | 0, c => c
  | n + 1, c => match step C rv c with
    | some c' => run C rv n c'
    | none => c

/-- What is to be shown of a configuration. -/
def GC (C : Ctx) (rv : Array ResultVar) (R : RI → Prop) (c : Cfg) : Prop :=
  c.rq = true ∧ match c.sp with
    | .go => Go C rv R c.k c.s
    | .cl f as ws is lent dst id d all os s0 tr => ∃ res, Sound C f as res ∧ callReq c.s id lent res = true ∧ Go C rv R (.ops d all os s0 (trA d tr (callFoot id ws is res)) :: c.k) (callSt c.s dst id ws res)
    | .clx f xs dst id d all os s0 tr => ∃ pargs pre res post ρ, C.M.SX f pargs pre res post ∧ xs = pargs.map (renT ρ) ∧ onO c.s.g0 (renW ρ pre) ∧
        (xOK ρ pre res post && allFresh c.s (newIds (fsts (renW ρ post)) (fsts (renW ρ pre)))) = true ∧ Go C rv R (.ops d all os s0 (trA d tr (xFoot ρ pre res post)) :: c.k) (xSt c.s dst ρ res post)
    | .fst x => R (.st c.s x)
    | .gd t b w o d all os s0 tr =>
      (b = w → Go C rv R (.one o :: .ops d all os s0 tr :: c.k) (c.s.setT (some t) (.av (.v (.bool w))))) ∧
      (b = !w → Go C rv R (.ops d all os s0 (trA d tr noFoot) :: c.k) ((c.s.setT (some t) (.av (.v (.bool (!w))))).setT o.dst udf))
    | .br t a b => (t = true → Go C rv R (.code a :: c.k) c.s) ∧ (t = false → Go C rv R (.code b :: c.k) c.s)
    | .fin res => R (.items res)

section
variable {C : Ctx} {rv : Array ResultVar} {R : RI → Prop}
theorem GC_step {c c' : Cfg} (h : step C rv c = some c') (g : GC C rv R c') : GC C rv R c := by
  obtain ⟨rq, sp, k, s⟩ := c
  cases sp with
  | go =>
    simp only [step] at h
    cases k with
    | nil =>
      simp only at h
      split at h
      · rename_i hx
        split at h
        · rename_i x hp; cases h; exact ⟨g.1, .finS hx hp g.2⟩
        · cases h
      split at h
      · rename_i b res hp
        cases h
        simp only [GC, Bool.and_eq_true] at g ⊢
        exact ⟨g.1.1, .fin hp g.1.2.1 g.1.2.2 g.2⟩
      · cases h
    | cons i k =>
      simp only at h
      cases i with
      | code c =>
        cases c <;> simp only at h <;> first | (cases h; done) | skip
        case skip => cases h; exact ⟨g.1, .skip g.2⟩
        case seq a b => cases h; exact ⟨g.1, .seq g.2⟩
        case region id ops d => cases h; exact ⟨g.1, .region g.2⟩
        case block id c => cases h; exact ⟨g.1, .block g.2⟩
        case exit id =>
          split at h
          · rename_i k' hp; cases h; exact ⟨g.1, .exit hp g.2⟩
          · cases h
        case cond c a b =>
          split at h
          · rename_i t hp; cases h; exact ⟨g.1, .cond hp g.2.1 g.2.2⟩
          · cases h
        case ret =>
          split at h
          · rename_i hx
            split at h
            · rename_i x hp; cases h; exact ⟨g.1, .retS hx hp g.2⟩
            · cases h
          split at h
          · rename_i b res hp
            cases h
            simp only [GC, Bool.and_eq_true] at g ⊢
            exact ⟨g.1.1, .ret hp g.1.2.1 g.1.2.2 g.2⟩
          · cases h
      | blk id => cases h; exact ⟨g.1, .blk g.2⟩
      | lp n st I j => cases h
      | ops d all os s0 tr =>
        cases os with
        | nil =>
          simp only at h
          cases d with
          | false => cases h; exact ⟨g.1, .opsNil (fun h => by cases h) g.2⟩
          | true => cases h
        | cons o os =>
          simp only at h
          split at h
          · rename_i hg; cases h; exact ⟨g.1, .opsOp hg g.2⟩
          · rename_i j want hg
            split at h
            · rename_i hoff; cases h; exact ⟨g.1, .opsOff (by rw [hg]; exact hoff) g.2⟩
            · split at h
              · rename_i t b w hp; cases h; exact ⟨g.1, .opsGuard (by rw [hg]; exact hp) g.2.1 g.2.2⟩
              · cases h
      | one o =>
        cases k with
        | nil => simp at h
        | cons i k =>
          cases i <;> simp only at h <;> first | (cases h; done) | skip
          case ops d all os s0 tr =>
            split at h
            · rename_i hc
              split at h
              · rename_i e he
                cases h
                simp only [GC, Bool.and_eq_true] at g ⊢
                exact ⟨g.1.1, .one (.op hc he (by simp [g.1.2])) g.2⟩
              · cases h
            · rename_i fo args hc
              split at h
              · rename_i f xs hp
                split at h
                · rename_i hx
                  cases h
                  obtain ⟨g1, pargs, pre, res, post, ρ, g2, g3, g4, g5, g6⟩ := g
                  exact ⟨g1, .one (.callX hc hp g2 g3 g4 g5) g6⟩
                split at h
                · rename_i as ws is lent b hq
                  cases h
                  simp only [GC, Bool.and_eq_true] at g ⊢
                  obtain ⟨⟨g1, g2⟩, res, g3, g4, g5⟩ := g
                  exact ⟨g1, .one (.call hc hp hq g2 g3 g4) g5⟩
                · cases h
              · cases h
  | _ => simp [step] at h

theorem GC_run : ∀ (n : Nat) {c : Cfg}, GC C rv R (run C rv n c) → GC C rv R c
  | 0, c, h => h
  | n + 1, c, h => by
    simp only [run] at h
    split at h
    · rename_i c' hc; exact GC_step hc (GC_run n h)
    · exact h

variable {rq : Bool} {k : List It} {s : St} {d : Bool} {all os : List Oper} {s0 : St} {tr : List Foot}
theorem GC.call {f : FuncId} {as : List AV} {ws : List (Nat × SObj)} {is : List Nat} {lent : Bool} {dst : Option Tmp} {id : Nat} {res : List RItem} (h : rq = true) (hs : Sound C f as res)
    (g : GC C rv R ⟨callReq s id lent res, .go, .ops d all os s0 (trA d tr (callFoot id ws is res)) :: k, callSt s dst id ws res⟩) : GC C rv R ⟨rq, .cl f as ws is lent dst id d all os s0 tr, k, s⟩ :=
  ⟨h, res, hs, g.1, g.2⟩
theorem GC.gdY {t : Tmp} {b w : Bool} {o : Oper} (e : (b == w) = true) (g : GC C rv R ⟨rq, .go, .one o :: .ops d all os s0 tr :: k, s.setT (some t) (.av (.v (.bool w)))⟩) : GC C rv R ⟨rq, .gd t b w o d all os s0 tr, k, s⟩ :=
  ⟨g.1, fun _ => g.2, fun h => by subst h; cases w <;> simp at e⟩
theorem GC.gdN {t : Tmp} {b w : Bool} {o : Oper} (e : (b == w) = false) (g : GC C rv R ⟨rq, .go, .ops d all os s0 (trA d tr noFoot) :: k, (s.setT (some t) (.av (.v (.bool (!w))))).setT o.dst udf⟩) : GC C rv R ⟨rq, .gd t b w o d all os s0 tr, k, s⟩ :=
  ⟨g.1, (fun h => by subst h; simp at e), fun _ => g.2⟩
theorem GC.gd {t : Tmp} {b w : Bool} {o : Oper} (h : rq = true) (g1 : b = w → GC C rv R ⟨true, .go, .one o :: .ops d all os s0 tr :: k, s.setT (some t) (.av (.v (.bool w)))⟩)
    (g2 : b = !w → GC C rv R ⟨true, .go, .ops d all os s0 (trA d tr noFoot) :: k, (s.setT (some t) (.av (.v (.bool (!w))))).setT o.dst udf⟩) : GC C rv R ⟨rq, .gd t b w o d all os s0 tr, k, s⟩ :=
  ⟨h, fun e => (g1 e).2, fun e => (g2 e).2⟩
theorem GC.brT {a b : Code} (g : GC C rv R ⟨rq, .go, .code a :: k, s⟩) : GC C rv R ⟨rq, .br true a b, k, s⟩ := ⟨g.1, (⟨fun _ => g.2, fun h => by cases h⟩ : _ ∧ _)⟩
theorem GC.brF {a b : Code} (g : GC C rv R ⟨rq, .go, .code b :: k, s⟩) : GC C rv R ⟨rq, .br false a b, k, s⟩ := ⟨g.1, (⟨(fun h => by cases h), fun _ => g.2⟩ : _ ∧ _)⟩
theorem GC.br {t : Bool} {a b : Code} (h : rq = true) (g1 : t = true → GC C rv R ⟨true, .go, .code a :: k, s⟩) (g2 : t = false → GC C rv R ⟨true, .go, .code b :: k, s⟩) : GC C rv R ⟨rq, .br t a b, k, s⟩ :=
  ⟨h, fun e => (g1 e).2, fun e => (g2 e).2⟩
theorem GC.fin {res : List RItem} (h : rq = true) (hr : R (.items res)) : GC C rv R ⟨rq, .fin res, k, s⟩ := ⟨h, hr⟩
theorem GC.fst {x : TV} (h : rq = true) (hr : R (.st s x)) : GC C rv R ⟨rq, .fst x, k, s⟩ := ⟨h, hr⟩
/-- A call that is told of the caller's own. -/
theorem GC.callX {f : FuncId} {xs pargs : List TV} {pre post : List (Nat × SObj)} {res : TV} {dst : Option Tmp} {id : Nat} (ρ : List (Nat × Nat)) (h : rq = true) (hs : C.M.SX f pargs pre res post) (hx : xs = pargs.map (renT ρ)) (hp : onO s.g0 (renW ρ pre))
    (hk : xOK ρ pre res post = true) (hf : allFresh s (newIds (fsts (renW ρ post)) (fsts (renW ρ pre))) = true)
    (g : GC C rv R ⟨true, .go, .ops d all os s0 (trA d tr (xFoot ρ pre res post)) :: k, xSt s dst ρ res post⟩) : GC C rv R ⟨rq, .clx f xs dst id d all os s0 tr, k, s⟩ :=
  ⟨h, pargs, pre, res, post, ρ, hs, hx, hp, by simp [hk, hf], g.2⟩
theorem GC.ord (h : rq = true) (h1 : orderOK all tr = true) (h2 : freshAll s0 tr = true) (g : GC C rv R ⟨true, .go, k, s⟩) : GC C rv R ⟨rq, .go, .ops true all [] s0 tr :: k, s⟩ := ⟨h, .opsNil (fun _ => ⟨h1, h2⟩) g.2⟩
theorem GC.adopt {c : Code} (bid off id : Nat) (e : TypeId) (sz : Nat) {s' : St} (h : rq = true) (hc : isReg c = false) (ha : adoptS s bid off id e sz = some s') (g : GC C rv R ⟨true, .go, .code c :: k, s'⟩) : GC C rv R ⟨rq, .go, .code c :: k, s⟩ := ⟨h, .adopt hc ha g.2⟩
theorem GC.back {n : Nat} {st : Nat → St} {I : Nat → Prop} {j : Nat} (h : rq = true) (h1 : j < n) (hI : I (j + 1)) (h2 : (st (j + 1)).le s) : GC C rv R ⟨rq, .go, .lp n st I j :: k, s⟩ := ⟨h, .back h1 hI h2⟩
theorem GC.loop {c : Code} (h : rq = true) (n : Nat) (st : Nat → St) (I : Nat → Prop) (h0 : (st 0).le s) (hI : I 0) (hs : ∀ j, j ≤ n → I j → GC C rv R ⟨true, .go, .code c :: .lp n st I j :: k, st j⟩) : GC C rv R ⟨rq, .go, .code (.loop c) :: k, s⟩ :=
  ⟨h, .loop n st I h0 hI fun j hj hI => (hs j hj hI).2⟩
end
end Go.Sy

/- Soundness, part 1: lists by keys, values in memory. -/
set_option linter.unusedVariables false
namespace Go.Sy
open Go.RowKit

/-! ### lists by keys -/
theorem look_drop_same {α : Type} : ∀ (l : List (Nat × α)) (t : Nat), look (drop l t) t = none
  | [], _ => rfl
  | (k, x) :: r, t => by
    cases h : k == t
    · simp [drop, h, look, look_drop_same r t]
    · simp [drop, h, look_drop_same r t]
theorem look_drop_ne {α : Type} : ∀ (l : List (Nat × α)) {t u : Nat}, t ≠ u → look (drop l t) u = look l u
  | [], _, _, _ => rfl
  | (k, x) :: r, t, u, hne => by
    cases h : k == t
    · cases h2 : k == u <;> simp [drop, h, look, h2, look_drop_ne r hne]
    · have hk : k = t := by simpa using h
      subst hk
      have h2 : (k == u) = false := by simpa using hne
      simp [drop, look, h2, look_drop_ne r hne]
theorem look_put_same {α : Type} (l : List (Nat × α)) (t : Nat) (x : α) : look (put l t x) t = some x := by simp [put, look]
theorem look_put_ne {α : Type} (l : List (Nat × α)) {t u : Nat} (x : α) (h : t ≠ u) : look (put l t x) u = look l u := by
  have h2 : (t == u) = false := by simpa using h
  simp [put, look, h2, look_drop_ne l h]
theorem look_put {α : Type} (l : List (Nat × α)) (t u : Nat) (x : α) : look (put l t x) u = if t = u then some x else look l u := by
  by_cases h : t = u
  · subst h; simp [look_put_same]
  · simp [h, look_put_ne l x h]
theorem putAll_append : ∀ (l a b : List (Nat × SObj)), putAll l (a ++ b) = putAll (putAll l a) b
  | _, [], _ => rfl
  | l, (i, o) :: r, b => by simp [putAll, putAll_append _ r b]

theorem fresh_T {id : Nat} : ∀ {l : List (Nat × TV)}, freshT id l = true → ∀ t x, look l t = some x → id ∉ x.ment
  | [], _, _, _, h => by simp [look] at h
  | (k, y) :: r, hf, t, x, h => by
    simp only [freshT, Bool.and_eq_true, Bool.not_eq_true', List.contains_eq_mem, decide_eq_false_iff_not] at hf
    cases e : k == t
    · simp only [look, e, cond_false] at h; exact fresh_T hf.2 t x h
    · simp only [look, e, cond_true, Option.some.injEq] at h; subst h; exact hf.1
theorem fresh_O {id : Nat} : ∀ {l : List (Nat × SObj)}, freshO id l = true → look l id = none ∧ ∀ t x, look l t = some x → id ∉ x.ment
  | [], _ => ⟨rfl, fun _ _ h => by simp [look] at h⟩
  | (k, y) :: r, hf => by
    simp only [freshO, Bool.and_eq_true, Bool.not_eq_true', List.contains_eq_mem, decide_eq_false_iff_not] at hf
    obtain ⟨h1, h2⟩ := fresh_O hf.2
    refine ⟨by simp [look, hf.1.1, h1], fun t x h => ?_⟩
    cases e : k == t
    · simp only [look, e, cond_false] at h; exact h2 t x h
    · simp only [look, e, cond_true, Option.some.injEq] at h; subst h; exact hf.1.2

/-! ### values -/
theorem MLe.refl (m : Mem) : MLe m m := fun _ _ _ h => h
theorem MLe.trans {a b c : Mem} (h : MLe a b) (k : MLe b c) : MLe a c := fun _ _ _ e => k _ _ _ (h _ _ _ e)

mutual
theorem RepV.mono {κ : Nat → Addr} {m m' : Mem} (h : MLe m m') : ∀ {x : AV} {u : Value}, RepV κ m x u → RepV κ m' x u
  | .v x, u, r => by simpa [RepV] using r
  | .sl xs, u, r => by
    simp only [RepV] at r ⊢
    obtain ⟨a, c, hu, hc, sz, b, o, h1, h2⟩ := r
    exact ⟨a, c, hu, hc, sz, b, o, h1, RepE.mono h h2⟩
  | .agg cs, u, r => by
    simp only [RepV] at r ⊢
    obtain ⟨vs, hu, h1⟩ := r
    exact ⟨vs, hu, RepL.mono h h1⟩
  | .ref cs, u, r => by
    simp only [RepV] at r ⊢
    obtain ⟨b, o, hu, h1⟩ := r
    exact ⟨b, o, hu, RepC.mono h h1⟩
  | .fn f cap, u, r => by
    simp only [RepV] at r ⊢
    obtain ⟨vs, hu, h1⟩ := r
    exact ⟨vs, hu, RepL.mono h h1⟩
  | .ifc t x, u, r => by
    simp only [RepV] at r ⊢
    obtain ⟨y, hu, h1⟩ := r
    exact ⟨y, hu, RepV.mono h h1⟩
  | .sent g, u, r => by simpa [RepV] using r
theorem RepL.mono {κ : Nat → Addr} {m m' : Mem} (h : MLe m m') : ∀ {xs : List AV} {us : List Value}, RepL κ m xs us → RepL κ m' xs us
  | [], us, r => by simpa [RepL] using r
  | x :: xs, us, r => by
    simp only [RepL] at r ⊢
    obtain ⟨u, us', hu, h1, h2, h3⟩ := r
    exact ⟨u, us', hu, h1, RepV.mono h h2, RepL.mono h h3⟩
theorem RepC.mono {κ : Nat → Addr} {m m' : Mem} (h : MLe m m') : ∀ {xs : List AV} {b o : Nat}, RepC κ m b o xs → RepC κ m' b o xs
  | [], b, o, r => by simp [RepC]
  | x :: xs, b, o, r => by
    simp only [RepC] at r ⊢
    obtain ⟨⟨u, h0, h1, h2⟩, h3⟩ := r
    exact ⟨⟨u, h _ _ _ h0, h1, RepV.mono h h2⟩, RepC.mono h h3⟩
theorem RepE.mono {κ : Nat → Addr} {m m' : Mem} (h : MLe m m') : ∀ {xs : List AV} {sz b o : Nat}, RepE κ m sz b o xs → RepE κ m' sz b o xs
  | [], sz, b, o, r => by simp [RepE]
  | x :: xs, sz, b, o, r => by
    simp only [RepE] at r ⊢
    obtain ⟨⟨y, h0, h1, h2, h4⟩, h3⟩ := r
    exact ⟨⟨y, RepV.mono h h0, h1, h2, fun k u e => h _ _ _ (h4 k u e)⟩, RepE.mono h h3⟩
end

theorem RepA.mono {κ : Nat → Addr} {m m' : Mem} (h : MLe m m') : ∀ {xs : List AV} {us : List Value}, RepA κ m xs us → RepA κ m' xs us
  | [], us, r => by simpa [RepA] using r
  | x :: xs, us, r => by
    simp only [RepA] at r ⊢
    obtain ⟨u, us', hu, h2, h3⟩ := r
    exact ⟨u, us', hu, h2.mono h, RepA.mono h h3⟩

theorem RepL.length {κ : Nat → Addr} {m : Mem} : ∀ {xs : List AV} {us : List Value}, RepL κ m xs us → us.length = xs.length
  | [], us, r => by simp only [RepL] at r; simp [r]
  | x :: xs, us, r => by
    simp only [RepL] at r
    obtain ⟨u, us', hu, h1, h2, h3⟩ := r
    simp [hu, RepL.length h3]
theorem RepL.get {κ : Nat → Addr} {m : Mem} : ∀ {xs : List AV} {us : List Value}, RepL κ m xs us → ∀ {j : Nat} {x : AV}, xs[j]? = some x → ∃ u, us[j]? = some u ∧ u.oneCell' = true ∧ RepV κ m x u
  | [], us, r, j, x, h => by simp at h
  | y :: xs, us, r, j, x, h => by
    simp only [RepL] at r
    obtain ⟨u, us', hu, h1, h2, h3⟩ := r
    cases j with
    | zero => simp at h; subst h; exact ⟨u, by simp [hu], h1, h2⟩
    | succ j => simp at h; obtain ⟨v, hv, h4, h5⟩ := RepL.get h3 h; exact ⟨v, by simp [hu, hv], h4, h5⟩
theorem RepL.one {κ : Nat → Addr} {m : Mem} : ∀ {xs : List AV} {us : List Value}, RepL κ m xs us → ∀ u ∈ us, u.oneCell' = true
  | [], us, r, u, h => by simp only [RepL] at r; simp [r] at h
  | y :: xs, us, r, u, h => by
    simp only [RepL] at r
    obtain ⟨v, us', hu, h1, h2, h3⟩ := r
    subst hu
    rcases List.mem_cons.1 h with rfl | h
    · exact h1
    · exact RepL.one h3 u h
/-- A list of cells, made point by point. -/
theorem RepL.mk {κ : Nat → Addr} {m : Mem} : ∀ {xs : List AV} {us : List Value}, us.length = xs.length → (∀ (j : Nat) (x : AV), xs[j]? = some x → ∃ u, us[j]? = some u ∧ u.oneCell' = true ∧ RepV κ m x u) → RepL κ m xs us
  | [], us, h, _ => by simp only [RepL]; simpa using h
  | x :: xs, us, h, hp => by
    cases us with
    | nil => simp at h
    | cons u us =>
      obtain ⟨v, hv, h1, h2⟩ := hp 0 x (by simp)
      simp at hv; subst hv
      simp only [RepL]
      exact ⟨u, us, rfl, h1, h2, RepL.mk (by simpa using h) fun j y hy => by
        obtain ⟨w, hw, h3⟩ := hp (j + 1) y (by simpa using hy)
        exact ⟨w, by simpa using hw, h3⟩⟩
theorem RepC.get {κ : Nat → Addr} {m : Mem} {b : Nat} : ∀ {xs : List AV} {o : Nat}, RepC κ m b o xs → ∀ {j : Nat} {x : AV}, xs[j]? = some x → ∃ u, m b (o + j) = some u ∧ u.oneCell' = true ∧ RepV κ m x u
  | [], o, r, j, x, h => by simp at h
  | y :: xs, o, r, j, x, h => by
    simp only [RepC] at r
    obtain ⟨⟨u, h0, h1, h2⟩, h3⟩ := r
    cases j with
    | zero => simp at h; subst h; exact ⟨u, h0, h1, h2⟩
    | succ j => simp at h; obtain ⟨v, hv, h4⟩ := RepC.get h3 h; exact ⟨v, by rw [← hv]; congr 1; omega, h4⟩
theorem RepC.mk {κ : Nat → Addr} {m : Mem} {b : Nat} : ∀ {xs : List AV} {o : Nat}, (∀ (j : Nat) (x : AV), xs[j]? = some x → ∃ u, m b (o + j) = some u ∧ u.oneCell' = true ∧ RepV κ m x u) → RepC κ m b o xs
  | [], o, _ => by simp [RepC]
  | x :: xs, o, hp => by
    simp only [RepC]
    exact ⟨by simpa using hp 0 x (by simp), RepC.mk fun j y hy => by
      obtain ⟨u, hu, h⟩ := hp (j + 1) y (by simpa using hy)
      exact ⟨u, by rw [← hu]; congr 1; omega, h⟩⟩
theorem RepC.drop {κ : Nat → Addr} {m : Mem} {b o : Nat} {xs : List AV} (h : RepC κ m b o xs) (n : Nat) : RepC κ m b (o + n) (xs.drop n) :=
  RepC.mk fun j x hx => by
    rw [List.getElem?_drop] at hx
    obtain ⟨u, hu, h1⟩ := h.get hx
    exact ⟨u, by rw [← hu]; congr 1; omega, h1⟩
theorem RepE.get {κ : Nat → Addr} {m : Mem} {sz b : Nat} : ∀ {xs : List AV} {o : Nat}, RepE κ m sz b o xs → ∀ {j : Nat} {x : AV}, xs[j]? = some x →
    ∃ y, RepV κ m x y ∧ y.cells.size = sz ∧ (∀ u ∈ y.cells, u.oneCell' = true) ∧ ∀ k u, y.cells[k]? = some u → m b (o + j * sz + k) = some u
  | [], o, r, j, x, h => by simp at h
  | y :: xs, o, r, j, x, h => by
    simp only [RepE] at r
    obtain ⟨h0, h3⟩ := r
    cases j with
    | zero => simp at h; subst h; simpa using h0
    | succ j =>
      simp at h
      obtain ⟨v, hv, h4, h5, h6⟩ := RepE.get h3 h
      refine ⟨v, hv, h4, h5, fun k u e => ?_⟩
      rw [← h6 k u e, Nat.succ_mul]
      congr 1
      omega
theorem RepE.mk {κ : Nat → Addr} {m : Mem} {sz b : Nat} : ∀ {xs : List AV} {o : Nat}, (∀ (j : Nat) (x : AV), xs[j]? = some x →
    ∃ y, RepV κ m x y ∧ y.cells.size = sz ∧ (∀ u ∈ y.cells, u.oneCell' = true) ∧ ∀ k u, y.cells[k]? = some u → m b (o + j * sz + k) = some u) → RepE κ m sz b o xs
  | [], o, _ => by simp [RepE]
  | x :: xs, o, hp => by
    simp only [RepE]
    refine ⟨by simpa using hp 0 x (by simp), RepE.mk fun j y hy => ?_⟩
    obtain ⟨v, h1, h2, h3, h4⟩ := hp (j + 1) y (by simpa using hy)
    refine ⟨v, h1, h2, h3, fun k u e => ?_⟩
    rw [← h4 k u e, Nat.succ_mul]
    congr 1
    omega

/-- Cells of a value and of what it stands for. -/
theorem RepV.cells {κ : Nat → Addr} {m : Mem} {x : AV} {u : Value} (h : RepV κ m x u) (h1 : ∀ v ∈ u.cells, v.oneCell' = true) (hx : ∀ y, x = .v y → y.oneCell' = true ∨ True) :
    (∀ y, x ≠ .v y) → RepL κ m x.cells u.cells.toList := by
  intro hne
  cases x with
  | v y => exact absurd rfl (hne y)
  | agg cs => simp only [RepV] at h; obtain ⟨vs, rfl, h2⟩ := h; simpa [AV.cells, Value.cells] using h2
  | sl xs =>
    have h' := h
    simp only [RepV] at h'; obtain ⟨a, c, rfl, _⟩ := h'
    simp only [AV.cells, Value.cells, RepL]
    exact ⟨_, [], rfl, rfl, h, rfl⟩
  | ref cs =>
    have h' := h
    simp only [RepV] at h'; obtain ⟨a, c, rfl, _⟩ := h'
    simp only [AV.cells, Value.cells, RepL]
    exact ⟨_, [], rfl, rfl, h, rfl⟩
  | fn f cap =>
    have h' := h
    simp only [RepV] at h'; obtain ⟨a, rfl, _⟩ := h'
    simp only [AV.cells, Value.cells, RepL]
    exact ⟨_, [], rfl, rfl, h, rfl⟩
  | ifc t x =>
    have h' := h
    simp only [RepV] at h'; obtain ⟨a, rfl, _⟩ := h'
    simp only [AV.cells, Value.cells, RepL]
    exact ⟨_, [], rfl, rfl, h, rfl⟩
  | sent g =>
    have h' := h
    simp only [RepV] at h'; subst h'
    simp only [AV.cells, Value.cells, RepL]
    exact ⟨_, [], rfl, rfl, h, rfl⟩
end Go.Sy

/- Soundness, part 2: what a state stands for in memory; how it may turn. -/
set_option linter.unusedVariables false
namespace Go.Sy
open Go.RowKit

/-- The world outside of what is the call's own is as it was. -/
structure Fr (Ow : Nat → Prop) (w0 w : World) : Prop where
  os : w.os = w0.os
  tape : w.tape = w0.tape
  output : w.output = w0.output
  size : w0.heap.size ≤ w.heap.size
  block : ∀ b, ¬ Ow b → w.heap[b]? = w0.heap[b]?

theorem Fr.refl (Ow : Nat → Prop) (w : World) : Fr Ow w w := ⟨rfl, rfl, rfl, Nat.le_refl _, fun _ _ => rfl⟩
theorem Fr.trans {Ow : Nat → Prop} {a b c : World} (h : Fr Ow a b) (k : Fr Ow b c) : Fr Ow a c :=
  ⟨k.os.trans h.os, k.tape.trans h.tape, k.output.trans h.output, Nat.le_trans h.size k.size, fun i hi => (k.block i hi).trans (h.block i hi)⟩

def lenO : SObj → Option Nat
  | .row _ _ _ xs => some xs.length
  | .frow xs => some xs.length
  | _ => none
def isBox : SObj → Bool
  | .box _ => true
  | .fbox _ => true
  | _ => false
def isRow : SObj → Bool
  | .row _ _ _ _ => true
  | _ => false

def live : SObj → Bool
  | .box _ => true
  | .row _ _ _ _ => true
  | _ => false

abbrev Gs := Nat → Option SObj
abbrev Ga := Nat → Value

def RepB (γ : Ga) (g : Gs) (id off : Nat) (u : Value) : Prop :=
  (∃ p, u = .pointer (some p)) ∧ ∀ o, g id = some o → isBox o = true → ∃ b, γ id = .pointer (some ⟨b, 0, none⟩) ∧ u = .pointer (some ⟨b, off, none⟩)
def RepW (γ : Ga) (g : Gs) (id n : Nat) (u : Value) : Prop := (∃ a c, u = .slice a n c) ∧ ∀ o l, g id = some o → lenO o = some l → n ≤ l ∧ (n = l → u = γ id)
def RepI (γ : Ga) (g : Gs) (id n sz i off : Nat) (u : Value) : Prop :=
  (∃ p, u = .pointer (some p)) ∧ ∀ o l, g id = some o → isRow o = true → lenO o = some l → n ≤ l ∧ (n = l → i < n → ∃ b o0 c, γ id = .slice (some ⟨b, o0, none⟩) n c ∧ u = .pointer (some ⟨b, o0 + (i * sz + off), none⟩))

def RepT0 (κ : Nat → Addr) (m : Mem) (γ : Ga) (g : Gs) : TV → Value → Prop
  | .av x, u => RepV κ m x u
  | .full xs, u => (∃ a, u = .slice a xs.length xs.length) ∧ RepV κ m (.sl xs) u
  | .row id n, u => RepW γ g id n u
  | .box id off, u => RepB γ g id off u
  | .elem id n sz i off, u => RepI γ g id n sz i off u
  | .dead, _ => True
  | _, _ => False
def RepT (κ : Nat → Addr) (m : Mem) (γ : Ga) (g : Gs) : TV → Value → Prop
  | .clo f caps, u => ∃ vs : Array Value, u = .func (.func f) #[] vs ∧ vs.size = caps.length ∧ ∀ (i : Nat) (c : Nat × Nat), caps[i]? = some c → ∃ v, vs[i]? = some v ∧ RepB γ g c.1 c.2 v
  | .tup xs, u => ∃ us : Array Value, u = .tuple us ∧ ∀ (i : Nat) (x : TV), xs[i]? = some x → ∃ v, us[i]? = some v ∧ RepT0 κ m γ g x v
  | .ag xs, u => ∃ us : Array Value, u = .agg us ∧ us.size = xs.length ∧ ∀ (i : Nat) (x : TV), xs[i]? = some x → ∃ v, us[i]? = some v ∧ v.oneCell' = true ∧ RepT0 κ m γ g x v
  | x, u => RepT0 κ m γ g x u

def RepO (κ : Nat → Addr) (m : Mem) (γ : Ga) (g : Gs) (w : World) (Ow : Nat → Prop) (id : Nat) : SObj → Prop
  | .box cs => ∃ b arr e, γ id = .pointer (some ⟨b, 0, none⟩) ∧ Ow b ∧ (∀ o, m b o = none) ∧ w.heap[b]? = some (.cells arr e (0, 0)) ∧ arr.size = cs.length ∧
      ∀ (j : Nat) (c : TV), cs[j]? = some c → ∃ u, arr[j]? = some u ∧ u.oneCell' = true ∧ RepT κ m γ g c u
  | .row ex e sz xs => OwnRow κ m w Ow ex e sz xs (γ id)
  | .fbox cs => ∃ b, γ id = .pointer (some ⟨b, 0, none⟩) ∧ RepC κ m b 0 cs
  | .frow xs => RepV κ m (.sl xs) (γ id)
  | .gh x u => RepT κ m γ g x u

/-- The memory of a call in progress. -/
structure Hp (κ : Nat → Addr) (Ow : Nat → Prop) (m0 : Mem) (w0 : World) (g : Gs) (m : Mem) (γ : Ga) (w : World) : Prop where
  ext : MLe m0 m
  old : ∀ b, ¬ Ow b → m b = m0 b
  cons : Cons m w
  fr : Fr Ow w0 w
  new : ∀ b, w0.heap.size ≤ b → Ow b
  objs : ∀ i o, g i = some o → RepO κ m γ g w Ow i o
  inj : ∀ i j oi oj b, g i = some oi → g j = some oj → live oi = true → live oj = true → Exc m (γ i) b → Exc m (γ j) b → i = j

/-- What is known of an object stays true. -/
def Cmp (g : Gs) (γ : Ga) (g' : Gs) (γ' : Ga) (id : Nat) : Prop :=
  ∀ o', g' id = some o' → ∃ o, g id = some o ∧ (∀ l', lenO o' = some l' → ∃ l, lenO o = some l ∧ l ≤ l' ∧ (l = l' → γ' id = γ id)) ∧ (isBox o' = true → isBox o = true ∧ γ' id = γ id) ∧ (isRow o' = true → isRow o = true)

theorem Cmp.same {g g' : Gs} {γ γ' : Ga} {id : Nat} (h : g' id = g id) (k : γ' id = γ id) : Cmp g γ g' γ' id :=
  fun o' ho => ⟨o', h ▸ ho, fun l' hl => ⟨l', hl, Nat.le_refl _, fun _ => k⟩, fun hb => ⟨hb, k⟩, fun h => h⟩

section
variable {κ : Nat → Addr} {m m' : Mem} {γ γ' : Ga} {g g' : Gs} {w w' w0 : World} {Ow : Nat → Prop} {m0 : Mem}

theorem RepB.move {id off : Nat} {u : Value} (hc : Cmp g γ g' γ' id) (h : RepB γ g id off u) : RepB γ' g' id off u := by
  refine ⟨h.1, ?_⟩
  intro o' ho hb
  obtain ⟨o, h1, _, h3, _⟩ := hc o' ho
  obtain ⟨h4, h5⟩ := h3 hb
  obtain ⟨b, h6, h7⟩ := h.2 o h1 h4
  exact ⟨b, h5.trans h6, h7⟩
theorem RepW.move {id n : Nat} {u : Value} (hc : Cmp g γ g' γ' id) (h : RepW γ g id n u) : RepW γ' g' id n u := by
  refine ⟨h.1, ?_⟩
  intro o' l' ho hl
  obtain ⟨o, h1, h2, _, _⟩ := hc o' ho
  obtain ⟨l, h3, h4, h5⟩ := h2 l' hl
  obtain ⟨h6, h7⟩ := h.2 o l h1 h3
  refine ⟨by omega, fun e => ?_⟩
  have : l = l' := by omega
  rw [h5 this]
  exact h7 (by omega)
theorem RepI.move {id n sz i off : Nat} {u : Value} (hc : Cmp g γ g' γ' id) (h : RepI γ g id n sz i off u) : RepI γ' g' id n sz i off u := by
  refine ⟨h.1, ?_⟩
  intro o' l' ho hr hl
  obtain ⟨o, h1, h2, _, h8⟩ := hc o' ho
  obtain ⟨l, h3, h4, h5⟩ := h2 l' hl
  obtain ⟨h6, h7⟩ := h.2 o l h1 (h8 hr) h3
  refine ⟨by omega, fun e hi => ?_⟩
  have : l = l' := by omega
  rw [h5 this]
  exact h7 (by omega) hi
theorem RepT0.move {x : TV} {u : Value} (hm : MLe m m') (hc : ∀ id ∈ x.ment, Cmp g γ g' γ' id) (h : RepT0 κ m γ g x u) : RepT0 κ m' γ' g' x u := by
  cases x with
  | av x => exact RepV.mono hm h
  | full xs => exact ⟨h.1, RepV.mono hm h.2⟩
  | row id n => exact RepW.move (hc id (by simp [TV.ment])) h
  | box id off => exact RepB.move (hc id (by simp [TV.ment])) h
  | elem id n sz i off => exact RepI.move (hc id (by simp [TV.ment])) h
  | dead => trivial
  | clo f caps => exact h
  | tup xs => exact h
  | ag xs => exact h
theorem ment_tup {xs : List TV} {x : TV} (hx : x ∈ xs) : ∀ id, (∀ u : Value, RepT0 κ m γ g x u → True) → (match x with | .clo _ _ => False | .tup _ => False | .ag _ => False | _ => True) → id ∈ x.ment → id ∈ (TV.tup xs).ment := by
  intro id _ hk hid
  simp only [TV.ment]
  induction xs with
  | nil => simp at hx
  | cons y ys ih =>
    simp only [List.foldr_cons, List.mem_append]
    rcases List.mem_cons.1 hx with rfl | hx
    · left
      cases x <;> simp_all [TV.ment]
    · exact .inr (ih hx)
theorem RepT.move {x : TV} {u : Value} (hm : MLe m m') (hc : ∀ id ∈ x.ment, Cmp g γ g' γ' id) (h : RepT κ m γ g x u) : RepT κ m' γ' g' x u := by
  cases x with
  | clo f caps =>
    obtain ⟨vs, h1, h2, h3⟩ := h
    refine ⟨vs, h1, h2, fun i c hi => ?_⟩
    obtain ⟨v, hv, h4⟩ := h3 i c hi
    exact ⟨v, hv, h4.move (hc _ (by simp only [TV.ment, List.mem_map]; exact ⟨c, List.mem_of_getElem? hi, rfl⟩))⟩
  | tup xs =>
    obtain ⟨us, h1, h3⟩ := h
    refine ⟨us, h1, fun i x hi => ?_⟩
    obtain ⟨v, hv, h4⟩ := h3 i x hi
    refine ⟨v, hv, h4.move hm fun id hid => hc id ?_⟩
    refine ment_tup (κ := κ) (m := m) (γ := γ) (g := g) (List.mem_of_getElem? hi) id (fun _ _ => trivial) ?_ hid
    cases x <;> first | trivial | exact h4
  | ag xs =>
    obtain ⟨us, h1, h2, h3⟩ := h
    refine ⟨us, h1, h2, fun i x hi => ?_⟩
    obtain ⟨v, hv, ho, h4⟩ := h3 i x hi
    refine ⟨v, hv, ho, h4.move hm fun id hid => hc id ?_⟩
    refine ment_tup (κ := κ) (m := m) (γ := γ) (g := g) (List.mem_of_getElem? hi) id (fun _ _ => trivial) ?_ hid
    cases x <;> first | trivial | exact h4
  | _ => exact RepT0.move (κ := κ) (u := u) hm hc h

theorem TVs.mem_ment : ∀ {cs : List TV} {j : Nat} {c : TV}, cs[j]? = some c → ∀ id ∈ c.ment, id ∈ TVs.ment cs
  | [], j, c, h, _, _ => by simp at h
  | x :: cs, j, c, h, id, hid => by
    simp only [TVs.ment, List.mem_append]
    cases j with
    | zero => simp at h; subst h; exact .inl hid
    | succ j => simp at h; exact .inr (TVs.mem_ment h id hid)

theorem RepX.mono (hm : MLe m m') : ∀ {xs : List AV} {sz : Nat} {us : List Value}, RepX κ m sz xs us → RepX κ m' sz xs us
  | [], sz, us, h => h
  | x :: xs, sz, us, h => by
    simp only [RepX] at h ⊢
    obtain ⟨y, us', h1, h2, h3, h4, h5⟩ := h
    exact ⟨y, us', h1, RepV.mono hm h2, h3, h4, RepX.mono hm h5⟩
theorem RepX.length : ∀ {xs : List AV} {sz : Nat} {us : List Value}, RepX κ m sz xs us → us.length = xs.length * sz
  | [], sz, us, h => by simp only [RepX] at h; simp [h]
  | x :: xs, sz, us, h => by
    simp only [RepX] at h
    obtain ⟨y, us', h1, h2, h3, h4, h5⟩ := h
    simp [h1, RepX.length h5, h3, Nat.succ_mul, Nat.add_comm]
theorem RepX.append : ∀ {xs ys : List AV} {sz : Nat} {us vs : List Value}, RepX κ m sz xs us → RepX κ m sz ys vs → RepX κ m sz (xs ++ ys) (us ++ vs)
  | [], ys, sz, us, vs, h, k => by simp only [RepX] at h; simpa [h] using k
  | x :: xs, ys, sz, us, vs, h, k => by
    simp only [RepX, List.cons_append] at h ⊢
    obtain ⟨y, us', h1, h2, h3, h4, h5⟩ := h
    exact ⟨y, us' ++ vs, by simp [h1], h2, h3, h4, h5.append k⟩
theorem RepX.one : ∀ {xs : List AV} {sz : Nat} {us : List Value}, RepX κ m sz xs us → ∀ u ∈ us, u.oneCell' = true
  | [], sz, us, h, u, hu => by simp only [RepX] at h; simp [h] at hu
  | x :: xs, sz, us, h, u, hu => by
    simp only [RepX] at h
    obtain ⟨y, us', h1, h2, h3, h4, h5⟩ := h
    subst h1
    rcases List.mem_append.1 hu with hu | hu
    · exact h4 u (by simpa using hu)
    · exact RepX.one h5 u hu
theorem RepX.get : ∀ {xs : List AV} {sz : Nat} {us : List Value}, RepX κ m sz xs us → ∀ {j : Nat} {x : AV}, xs[j]? = some x →
    ∃ y, RepV κ m x y ∧ y.cells.size = sz ∧ (∀ v ∈ y.cells, v.oneCell' = true) ∧ ∀ k v, y.cells[k]? = some v → us[j * sz + k]? = some v
  | [], sz, us, h, j, x, hx => by simp at hx
  | x0 :: xs, sz, us, h, j, x, hx => by
    simp only [RepX] at h
    obtain ⟨y, us', h1, h2, h3, h4, h5⟩ := h
    cases j with
    | zero =>
      simp at hx; subst hx
      refine ⟨y, h2, h3, h4, fun k v e => ?_⟩
      have hk : k < y.cells.toList.length := by
        have := (Array.getElem?_eq_some_iff.1 e).1
        simpa using this
      simp only [h1, Nat.zero_mul, Nat.zero_add]
      rw [List.getElem?_append_left hk]
      simpa using e
    | succ j =>
      simp at hx
      obtain ⟨z, h6, h7, h8, h9⟩ := RepX.get h5 hx
      refine ⟨z, h6, h7, h8, fun k v e => ?_⟩
      rw [h1, List.getElem?_append_right (by simp [h3, Nat.succ_mul]; omega), ← h9 k v e]
      congr 1
      simp [h3, Nat.succ_mul]
      omega
/-- Elements that lie in frozen memory, read off. -/
theorem RepE.cells : ∀ {xs : List AV} {sz b o : Nat}, RepE κ m sz b o xs → ∃ us, RepX κ m sz xs us ∧ ∀ j u, us[j]? = some u → m b (o + j) = some u
  | [], sz, b, o, h => ⟨[], rfl, by simp⟩
  | x :: xs, sz, b, o, h => by
    simp only [RepE] at h
    obtain ⟨⟨y, h1, h2, h3, h4⟩, h5⟩ := h
    obtain ⟨us, h6, h7⟩ := RepE.cells h5
    refine ⟨y.cells.toList ++ us, ⟨y, us, rfl, h1, h2, h3, h6⟩, fun j u hu => ?_⟩
    by_cases hj : j < y.cells.toList.length
    · rw [List.getElem?_append_left hj] at hu
      exact h4 j u (by simpa using hu)
    · rw [List.getElem?_append_right (by omega)] at hu
      have := h7 _ u hu
      rw [← this]
      congr 1
      simp [h2] at hj ⊢
      omega
theorem RepX.toE : ∀ {xs : List AV} {sz b o : Nat} {us : List Value}, RepX κ m sz xs us → (∀ j u, us[j]? = some u → m b (o + j) = some u) → RepE κ m sz b o xs := by
  intro xs sz b o us h hm
  refine RepE.mk fun j x hx => ?_
  obtain ⟨y, h1, h2, h3, h4⟩ := h.get hx
  refine ⟨y, h1, h2, h3, fun k u e => ?_⟩
  rw [← hm _ u (h4 k u e), Nat.add_assoc]

theorem ownsRow_same {e : TypeId} {sz n : Nat} {u : Value} {us : List Value} (h : w.ownsRow 0 e sz u n us) (hb : ∀ b, u.ownBlock = some b → w'.heap[b]? = w.heap[b]?) : w'.ownsRow 0 e sz u n us := by
  obtain ⟨h1, h2⟩ := h
  refine ⟨h1, ?_⟩
  rcases h2 with h2 | ⟨b, cap, cur, hu, h3, h4, h5⟩
  · exact .inl h2
  · exact .inr ⟨b, cap, cur, hu, h3, by rw [hb b (by simp [hu, Value.ownBlock])]; exact h4, h5⟩
theorem Exc.back (hm : MLe m m') {u : Value} {b : Nat} (h : Exc m' u b) : Exc m u b := by
  refine ⟨h.1, fun o => ?_, h.2.2⟩
  cases hmo : m b o with
  | none => rfl
  | some u => have := hm _ _ _ hmo; rw [h.2.1 o] at this; cases this

/-- An object that isn't touched. -/
theorem RepO.move {i : Nat} {o : SObj} (hm : MLe m m') (hγ : γ' i = γ i) (hc : ∀ id ∈ o.ment, Cmp g γ g' γ' id)
    (hb : ∀ b, live o = true → Exc m (γ i) b → w'.heap[b]? = w.heap[b]? ∧ ∀ o, m' b o = none) (h : RepO κ m γ g w Ow i o) : RepO κ m' γ' g' w' Ow i o := by
  cases o with
  | box cs =>
    obtain ⟨b, arr, e, h1, h2, h3, h4, h5, h6⟩ := h
    obtain ⟨h7, h8⟩ := hb b rfl ⟨by simp [h1, blkOf], h3, by simp [h1]⟩
    refine ⟨b, arr, e, hγ.trans h1, h2, h8, by rw [h7]; exact h4, h5, fun j c hj => ?_⟩
    obtain ⟨u, hu, h9, h10⟩ := h6 j c hj
    exact ⟨u, hu, h9, h10.move hm fun id hid => hc id (TVs.mem_ment hj id hid)⟩
  | row ex e sz xs =>
    simp only [RepO, hγ] at h ⊢
    rcases h with ⟨us, b, cap, h1, h2, h3, h4, h5, h6⟩ | h | ⟨h1, h4, h5, b, o, h2, h3⟩
    · obtain ⟨h7, h8⟩ := hb b rfl ⟨by simp [h1, blkOf], h6, by rw [h1]; intro a l he; cases he; omega⟩
      exact .inl ⟨us, b, cap, h1, h2, ownsRow_same h3 fun b' hu => by simp [h1, Value.ownBlock] at hu; subst hu; exact h7, h4.mono hm, h5, h8⟩
    · exact .inr (.inl h)
    · exact .inr (.inr ⟨h1, h4, h5, b, o, h2, h3.mono hm⟩)
  | fbox cs =>
    obtain ⟨b, h1, h2⟩ := h
    exact ⟨b, hγ.trans h1, h2.mono hm⟩
  | frow xs =>
    simp only [RepO, hγ] at h ⊢
    exact h.mono hm
  | gh x u =>
    simp only [RepO] at h ⊢
    exact h.move hm fun id hid => hc id hid

/-- What is held alone is there, and the call's own. -/
theorem Hp.exc {i b : Nat} {o : SObj} (h : Hp κ Ow m0 w0 g m γ w) (hi : g i = some o) (hl : live o = true) (hb : Exc m (γ i) b) : b < w.heap.size ∧ Ow b := by
  have ho := h.objs i o hi
  obtain ⟨h1, h2, h3⟩ := hb
  cases o with
  | box cs =>
    obtain ⟨b', arr, e, h4, h5, h6, h7, h8⟩ := ho
    rw [h4] at h1
    simp only [blkOf, Option.some.injEq] at h1
    subst h1
    exact ⟨(Array.getElem?_eq_some_iff.1 h7).1, h5⟩
  | row ex e sz xs =>
    rcases ho with ⟨us, b', cap, h4, h5, ⟨_, h6⟩, h7, h8, h9⟩ | ⟨_, a, h4⟩ | ⟨_, h4, h5, b', o, h6, h7⟩
    · rw [h4] at h1
      simp only [blkOf, Option.some.injEq] at h1
      subst h1
      rcases h6 with ⟨h6, _⟩ | ⟨b2, cap2, cur, h6, _, h10, _⟩
      · rw [h4] at h6; cases h6
      · rw [h4] at h6; cases h6; exact ⟨(Array.getElem?_eq_some_iff.1 h10).1, h8⟩
    · exact absurd h4 (h3 a 0)
    · rw [h6] at h1
      simp only [blkOf, Option.some.injEq] at h1
      subst h1
      cases xs with
      | nil => exact absurd rfl h5
      | cons x xs =>
        simp only [RepE] at h7
        obtain ⟨⟨y, _, h8, _, h9⟩, _⟩ := h7
        have := h9 0 _ (Array.getElem?_eq_getElem (by omega))
        rw [h2] at this; cases this
  | fbox cs => simp [live] at hl
  | frow cs => simp [live] at hl
  | gh x u => simp [live] at hl

/-- One step of memory: some objects turn, the others stay. -/
theorem Hp.step {K : Nat → Prop} (h : Hp κ Ow m0 w0 g m γ w) (hm : MLe m m') (hold : ∀ b, ¬ Ow b → m' b = m b) (hcons : Cons m' w') (hfr : Fr Ow w w')
    (hsame : ∀ i, ¬ K i → g' i = g i ∧ γ' i = γ i)
    (hblk : ∀ i o b, ¬ K i → g i = some o → live o = true → Exc m (γ i) b → w'.heap[b]? = w.heap[b]? ∧ ∀ o, m' b o = none)
    (hcmp : ∀ i o id, ¬ K i → g i = some o → id ∈ o.ment → Cmp g γ g' γ' id)
    (hobj : ∀ i o, K i → g' i = some o → RepO κ m' γ' g' w' Ow i o)
    (hinj : ∀ i j o oj b, K i → g' i = some o → g' j = some oj → live o = true → live oj = true → Exc m' (γ' i) b → Exc m' (γ' j) b → i = j) : Hp κ Ow m0 w0 g' m' γ' w' where
  ext := h.ext.trans hm
  old b hb := (hold b hb).trans (h.old b hb)
  cons := hcons
  fr := h.fr.trans hfr
  new := h.new
  objs i o ho := by
    by_cases hk : K i
    · exact hobj i o hk ho
    · obtain ⟨h1, h2⟩ := hsame i hk
      rw [h1] at ho
      exact RepO.move hm h2 (fun id hid => hcmp i o id hk ho hid) (fun b hl hb => hblk i o b hk ho hl hb) (h.objs i o ho)
  inj i j oi oj b hi hj li lj bi bj := by
    by_cases hk : K i
    · exact hinj i j oi oj b hk hi hj li lj bi bj
    · by_cases hl : K j
      · exact (hinj j i oj oi b hl hj hi lj li bj bi).symm
      · obtain ⟨h1, h2⟩ := hsame i hk
        obtain ⟨h3, h4⟩ := hsame j hl
        exact h.inj i j oi oj b (h1 ▸ hi) (h3 ▸ hj) li lj (h2 ▸ bi.back hm) (h4 ▸ bj.back hm)

def upd (g : Gs) (id : Nat) (o : SObj) : Gs := fun i => if id = i then some o else g i
theorem upd_same (g : Gs) (id : Nat) (o : SObj) : upd g id o id = some o := by simp [upd]
theorem upd_ne {g : Gs} {id i : Nat} {o : SObj} (h : i ≠ id) : upd g id o i = g i := by simp [upd, Ne.symm h]
def updA (γ : Ga) (id : Nat) (u : Value) : Ga := fun i => if id = i then u else γ i
theorem updA_same (γ : Ga) (id : Nat) (u : Value) : updA γ id u id = u := by simp [updA]
theorem updA_ne {γ : Ga} {id i : Nat} {u : Value} (h : i ≠ id) : updA γ id u i = γ i := by simp [updA, Ne.symm h]
def puts (g : Gs) : List (Nat × SObj) → Gs
  | [] => g
  | (i, o) :: r => puts (upd g i o) r
theorem puts_append (g : Gs) : ∀ (a b : List (Nat × SObj)), puts g (a ++ b) = puts (puts g a) b := by
  intro a
  induction a generalizing g with
  | nil => intro b; rfl
  | cons x a ih => intro b; obtain ⟨i, o⟩ := x; simp [puts, ih]
theorem look_putAll : ∀ (l : List (Nat × SObj)) (ws : List (Nat × SObj)), look (putAll l ws) = puts (look l) ws
  | l, [] => rfl
  | l, (i, o) :: r => by
    rw [putAll, look_putAll _ r, puts]
    congr 1
    funext j
    rw [look_put]
    rfl

/-- A step, as it's handed on. -/
structure Nx (κ : Nat → Addr) (Ow : Nat → Prop) (m0 : Mem) (w0 : World) (g : Gs) (m : Mem) (γ : Ga) (w : World) (nw : List Nat) (g' : Gs) (m' : Mem) (γ' : Ga) (w' : World) : Prop where
  hp : Hp κ Ow m0 w0 g' m' γ' w'
  le : MLe m m'
  mv : ∀ x u, (∀ id ∈ x.ment, id ∉ nw) → RepT κ m γ g x u → RepT κ m' γ' g' x u

theorem Nx.refl (h : Hp κ Ow m0 w0 g m γ w) (nw : List Nat) : Nx κ Ow m0 w0 g m γ w nw g m γ w := ⟨h, MLe.refl m, fun _ _ _ h => h⟩
theorem Nx.trans {g1 g2 : Gs} {m1 m2 : Mem} {γ1 γ2 : Ga} {w1 w2 : World} {nw : List Nat} (h : Nx κ Ow m0 w0 g m γ w [] g1 m1 γ1 w1) (k : Nx κ Ow m0 w0 g1 m1 γ1 w1 nw g2 m2 γ2 w2) : Nx κ Ow m0 w0 g m γ w nw g2 m2 γ2 w2 :=
  ⟨k.hp, h.le.trans k.le, fun x u hx hr => k.mv x u hx (h.mv x u (by simp) hr)⟩
end
end Go.Sy

/- Soundness, part 3: freezing; values handed on. -/
set_option linter.unusedVariables false
namespace Go.Sy
open Go.RowKit

def frz : SObj → Option SObj
  | .row _ _ _ xs => some (.frow xs)
  | .frow xs => some (.frow xs)
  | .box cs => match avsOf cs with
    | some avs => some (.fbox avs)
    | none => none
  | .fbox cs => some (.fbox cs)
  | .gh _ _ => none

theorem avsOf_length : ∀ {cs : List TV} {avs : List AV}, avsOf cs = some avs → avs.length = cs.length
  | [], avs, h => by simp [avsOf] at h; subst h; rfl
  | c :: cs, avs, h => by
    simp only [avsOf] at h
    split at h
    · rename_i a as h1 h2
      cases h
      simp [avsOf_length h2]
    · cases h
theorem avsOf_get : ∀ {cs : List TV} {avs : List AV}, avsOf cs = some avs → ∀ {j : Nat} {x : AV}, avs[j]? = some x → ∃ c, cs[j]? = some c ∧ avOf c = some x
  | [], avs, h, j, x, hx => by simp [avsOf] at h; subst h; simp at hx
  | c :: cs, avs, h, j, x, hx => by
    simp only [avsOf] at h
    split at h
    · rename_i a as h1 h2
      cases h
      cases j with
      | zero => simp at hx; subst hx; exact ⟨c, by simp, h1⟩
      | succ j => simp at hx; simpa using avsOf_get h2 hx
    · cases h

section
variable {κ : Nat → Addr} {m m' : Mem} {γ γ' : Ga} {g g' g0 : Gs} {w w' w0 : World} {Ow : Nat → Prop} {m0 : Mem}

theorem RepT.av {c : TV} {x : AV} {u : Value} (h : avOf c = some x) (k : RepT κ m γ g c u) : RepV κ m x u := by
  cases c <;> simp [avOf] at h
  · subst h; exact k
  · subst h; exact k.2

/-- Frozen memory: with one block more. -/
def addRow (m : Mem) (b : Nat) (us : List Value) : Mem := fun b' o => if b' = b then us[o]? else m b' o
theorem addRow_le {b : Nat} {us : List Value} (h : ∀ o, m b o = none) : MLe m (addRow m b us) := by
  intro b' o u hu
  by_cases hb : b' = b
  · subst hb; rw [h o] at hu; cases hu
  · simp [addRow, hb, hu]

theorem Hp.freeze {id : Nat} {o o' : SObj} (h : Hp κ Ow m0 w0 g m γ w) (hi : g id = some o) (hz : frz o = some o') :
    ∃ m', Nx κ Ow m0 w0 g m γ w [] (upd g id o') m' γ w := by
  have key : ∃ m', MLe m m' ∧ (∀ b, m' b = m b ∨ (live o = true ∧ Exc m (γ id) b ∧ Ow b)) ∧ Cons m' w ∧ ∀ g, RepO κ m' γ g w Ow id o' := by
    have ho := h.objs id o hi
    cases o with
    | frow xs => cases hz; exact ⟨m, MLe.refl m, fun _ => .inl rfl, h.cons, fun _ => ho⟩
    | fbox xs => cases hz; exact ⟨m, MLe.refl m, fun _ => .inl rfl, h.cons, fun _ => ho⟩
    | gh x u => cases hz
    | row ex e sz xs =>
      cases hz
      rcases ho with ⟨us, b, cap, h5, h0, ⟨h1, h2⟩, h3, h12, h13⟩ | ⟨h1, a, h2⟩ | ⟨h1, h4, h5, b, o, h2, h3⟩
      · rcases h2 with ⟨h6, _⟩ | ⟨b2, cap2, cur, h6, _, h7, h8, h9, h10, h11⟩
        · rw [h5] at h6; cases h6
        · rw [h5] at h6; cases h6
          refine ⟨addRow m b us, addRow_le h13, fun b' => ?_, ?_, fun _ => ?_⟩
          · by_cases hb : b' = b
            · subst hb; exact .inr ⟨rfl, ⟨by simp [h5, blkOf], h13, by rw [h5]; intro a l he; cases he; omega⟩, h12⟩
            · left; funext o; simp [addRow, hb]
          · intro b' o u hu
            by_cases hb : b' = b
            · subst hb
              simp [addRow] at hu
              rw [← h11, List.getElem?_take] at hu
              split at hu
              · simp [World.cell?, h7]; simpa using hu
              · cases hu
            · simp only [addRow, hb, if_false] at hu; exact h.cons _ _ _ hu
          · simp only [RepO, RepV]
            refine ⟨some ⟨b, 0, none⟩, cap, h5, h8, sz, b, 0, .inr rfl, ?_⟩
            refine (h3.mono (addRow_le h13)).toE fun j u hu => ?_
            simpa [addRow] using hu
      · refine ⟨m, MLe.refl m, fun _ => .inl rfl, h.cons, fun _ => ?_⟩
        subst h1
        simp only [RepO, RepV]
        exact ⟨a, 0, h2, by simp, 0, 0, 0, .inl trivial, by simp [RepE]⟩
      · refine ⟨m, MLe.refl m, fun _ => .inl rfl, h.cons, fun _ => ?_⟩
        simp only [RepO, RepV]
        exact ⟨some ⟨b, o, none⟩, _, h2, Nat.le_refl _, sz, b, o, .inr rfl, h3⟩
    | box cs =>
      simp only [frz] at hz
      split at hz
      · rename_i avs hav
        cases hz
        obtain ⟨b, arr, e, h1, h2, h3, h4, h5, h6⟩ := ho
        have hle := addRow_le (us := arr.toList) h3
        refine ⟨addRow m b arr.toList, hle, fun b' => ?_, ?_, fun _ => ?_⟩
        · by_cases hb : b' = b
          · subst hb; exact .inr ⟨rfl, ⟨by simp [h1, blkOf], h3, by simp [h1]⟩, h2⟩
          · left; funext o; simp [addRow, hb]
        · intro b' o u hu
          by_cases hb : b' = b
          · subst hb
            simp [addRow] at hu
            simp [World.cell?, h4, hu]
          · simp only [addRow, hb, if_false] at hu; exact h.cons _ _ _ hu
        · refine ⟨b, h1, RepC.mk fun j x hx => ?_⟩
          obtain ⟨c, hc, hcx⟩ := avsOf_get hav hx
          obtain ⟨u, hu, h7, h8⟩ := h6 j c hc
          exact ⟨u, by simp [addRow, hu], h7, (h8.av hcx).mono hle⟩
      · cases hz
  obtain ⟨m', hle, hoff, hcons, hrep⟩ := key
  have hcmp : ∀ j, Cmp g γ (upd g id o') γ j := by
    intro j
    by_cases hj : j = id
    · subst hj
      intro o2 ho2
      rw [upd_same] at ho2
      cases ho2
      refine ⟨o, hi, ?_, ?_, ?_⟩
      · intro l' hl
        refine ⟨l', ?_, Nat.le_refl _, fun _ => rfl⟩
        cases o with
        | box cs => simp only [frz] at hz; split at hz <;> cases hz; simp [lenO] at hl
        | gh x u => cases hz
        | _ => cases hz; first | exact hl | simp [lenO] at hl
      · intro hb
        refine ⟨?_, rfl⟩
        cases o with
        | box cs => rfl
        | gh x u => cases hz
        | _ => cases hz; simp [isBox] at hb ⊢
      · intro hb
        cases o with
        | box cs => simp only [frz] at hz; split at hz <;> cases hz; simp [isRow] at hb
        | gh x u => cases hz
        | _ => cases hz; simp [isRow] at hb
    · exact Cmp.same (upd_ne hj) rfl
  refine ⟨m', ?_, hle, fun x u _ hr => hr.move hle fun id _ => hcmp id⟩
  refine h.step (K := (· = id)) hle ?_ hcons (Fr.refl _ _) (fun i hk => ⟨upd_ne hk, rfl⟩) ?_ (fun i o id _ _ _ => hcmp id) ?_ ?_
  · intro b hb
    rcases hoff b with h1 | ⟨_, _, h2⟩
    · exact h1
    · exact absurd h2 hb
  · intro i oi b hk hoi hl hb
    refine ⟨rfl, ?_⟩
    rcases hoff b with h1 | ⟨h3, h2, _⟩
    · rw [h1]; exact hb.2.1
    · exact absurd (h.inj i id oi o b hoi hi hl h3 hb h2) hk
  · intro i o2 hk ho2
    subst hk
    rw [upd_same] at ho2
    cases ho2
    exact hrep _
  · intro i j o2 oj b hk ho2 hoj li lj bi bj
    subst hk
    rw [upd_same] at ho2
    cases ho2
    cases o with
    | box cs => simp only [frz] at hz; split at hz <;> cases hz; simp [live] at li
    | gh x u => cases hz
    | _ => cases hz; simp [live] at li

/-- Some objects are frozen since. -/
def Fz (g0 g : Gs) : Prop := ∀ i, g i = g0 i ∨ ∃ o o', g0 i = some o ∧ frz o = some o' ∧ g i = some o'
theorem Fz.refl (g : Gs) : Fz g g := fun _ => .inl rfl
theorem Fz.upd {id : Nat} {o o' : SObj} (h : Fz g0 g) (hi : g0 id = some o) (hz : frz o = some o') : Fz g0 (upd g id o') := by
  intro i
  by_cases hk : i = id
  · subst hk; exact .inr ⟨o, o', hi, hz, upd_same _ _ _⟩
  · rcases h i with h1 | ⟨a, b, h1, h2, h3⟩
    · exact .inl ((upd_ne hk).trans h1)
    · exact .inr ⟨a, b, h1, h2, (upd_ne hk).trans h3⟩
theorem frz_frz {o o' : SObj} (h : frz o = some o') : frz o' = some o' := by
  cases o with
  | box cs => simp only [frz] at h; split at h <;> cases h; rfl
  | gh x u => cases h
  | _ => cases h; rfl
theorem Fz.frz {id : Nat} {o o' : SObj} (h : Fz g0 g) (hi : g0 id = some o) (hz : frz o = some o') : ∃ o1, g id = some o1 ∧ Go.Sy.frz o1 = some o' := by
  rcases h id with h1 | ⟨a, b, h1, h2, h3⟩
  · exact ⟨o, h1.trans hi, hz⟩
  · rw [hi] at h1
    cases h1
    rw [hz] at h2
    cases h2
    exact ⟨o', h3, frz_frz hz⟩

theorem Hp.frow {id n : Nat} {xs : List AV} {u : Value} (h : Hp κ Ow m0 w0 g m γ w) (hi : g id = some (.frow xs)) (hn : xs.length = n) (k : RepW γ g id n u) : RepV κ m (.sl xs) u := by
  have := (k.2 _ _ hi rfl).2 hn.symm
  rw [this]
  exact h.objs id _ hi
theorem Hp.fbox {id off : Nat} {cs : List AV} {u : Value} (h : Hp κ Ow m0 w0 g m γ w) (hi : g id = some (.fbox cs)) (k : RepB γ g id off u) : RepV κ m (.ref (cs.drop off)) u := by
  obtain ⟨b, h1, h2⟩ := k.2 _ hi rfl
  obtain ⟨b', h3, h4⟩ := h.objs id _ hi
  rw [h1] at h3
  cases h3
  simp only [RepV]
  refine ⟨b, off, h2, ?_⟩
  have := h4.drop off
  rwa [Nat.zero_add] at this

/-- A value that is handed on, no aggregate of parts. -/
theorem expo_ok1 {x : TV} (hag : ∀ xs, x ≠ .ag xs) {p : Expo} {u : Value} (he : expo g0 x = some p) (hr : p.req = true) (hf : Fz g0 g) (h : Hp κ Ow m0 w0 g m γ w) (hx : RepT κ m γ g x u) :
    ∃ m', Nx κ Ow m0 w0 g m γ w [] (puts g p.w) m' γ w ∧ RepV κ m' p.a u ∧ Fz g0 (puts g p.w) := by
  cases x with
  | av x => cases he; exact ⟨m, Nx.refl h [], hx, hf⟩
  | full xs => cases he; exact ⟨m, Nx.refl h [], hx.2, hf⟩
  | row id n =>
    simp only [expo] at he
    split at he
    · rename_i ex e sz xs hg
      cases he
      have hn : xs.length = n := by simpa using hr
      obtain ⟨o1, h1, h2⟩ := hf.frz hg rfl
      obtain ⟨m', hnx⟩ := h.freeze h1 h2
      refine ⟨m', hnx, ?_, hf.upd hg rfl⟩
      exact hnx.hp.frow (upd_same _ _ _) hn (hnx.mv _ _ (by simp) hx)
    · rename_i xs hg
      cases he
      have hn : xs.length = n := by simpa using hr
      obtain ⟨o1, h1, h2⟩ := hf.frz hg rfl
      rcases hf id with h3 | ⟨a, b, h3, h4, h5⟩
      · exact ⟨m, Nx.refl h [], h.frow (h3.trans hg) hn hx, hf⟩
      · rw [hg] at h3; cases h3; cases h4
        exact ⟨m, Nx.refl h [], h.frow h5 hn hx, hf⟩
    · cases he
  | box id off =>
    simp only [expo] at he
    split at he
    · rename_i cs hg
      split at he
      · rename_i avs hav
        cases he
        have hz : frz (.box cs) = some (.fbox avs) := by simp [frz, hav]
        obtain ⟨o1, h1, h2⟩ := hf.frz hg hz
        obtain ⟨m', hnx⟩ := h.freeze h1 h2
        refine ⟨m', hnx, ?_, hf.upd hg hz⟩
        exact hnx.hp.fbox (upd_same _ _ _) (hnx.mv _ _ (by simp) hx)
      · cases he
    · rename_i avs hg
      cases he
      rcases hf id with h3 | ⟨a, b, h3, h4, h5⟩
      · exact ⟨m, Nx.refl h [], h.fbox (h3.trans hg) hx, hf⟩
      · rw [hg] at h3; cases h3; cases h4
        exact ⟨m, Nx.refl h [], h.fbox h5 hx, hf⟩
    · cases he
  | ag xs => exact absurd rfl (hag xs)
  | _ => cases he

theorem expoC_expo {g : Gs} {x : TV} {p : Expo} (h : expoC g x = some p) (hr : p.req = true) : (∀ xs, x ≠ .ag xs) ∧ ∃ p', expo g x = some p' ∧ p'.req = true ∧ p'.a = p.a ∧ p'.w = p.w ∧ p'.r = p.r := by
  cases x with
  | av x => cases h; exact ⟨(fun _ e => by cases e), _, rfl, rfl, rfl, rfl, rfl⟩
  | full xs => cases h; exact ⟨(fun _ e => by cases e), _, rfl, rfl, rfl, rfl, rfl⟩
  | row id n => exact ⟨(fun _ e => by cases e), p, by simpa only [expo, expoC] using h, hr, rfl, rfl, rfl⟩
  | _ => cases h
/-- An aggregate's parts. -/
def RepCs (κ : Nat → Addr) (m : Mem) (γ : Ga) (g : Gs) : List TV → List Value → Prop
  | [], us => us = []
  | x :: xs, us => ∃ u us', us = u :: us' ∧ u.oneCell' = true ∧ RepT0 κ m γ g x u ∧ RepCs κ m γ g xs us'
theorem RepCs.mk : ∀ {xs : List TV} {us : List Value}, us.length = xs.length → (∀ (i : Nat) (x : TV), xs[i]? = some x → ∃ v, us[i]? = some v ∧ v.oneCell' = true ∧ RepT0 κ m γ g x v) → RepCs κ m γ g xs us
  | [], us, h, _ => by simp at h; exact h
  | x :: xs, [], h, _ => by simp at h
  | x :: xs, u :: us, h, k => by
    obtain ⟨v, h1, h2, h3⟩ := k 0 x rfl
    simp at h1
    subst h1
    exact ⟨u, us, rfl, h2, h3, RepCs.mk (by simpa using h) fun i y hy => by simpa using k (i + 1) y (by simpa using hy)⟩
theorem RepCs.nx {nw : List Nat} (k : Nx κ Ow m0 w0 g m γ w nw g' m' γ' w') : ∀ {xs : List TV} {us : List Value}, (∀ x ∈ xs, ∀ id ∈ x.ment, id ∉ nw) → (∀ x ∈ xs, x.isC = true) → RepCs κ m γ g xs us → RepCs κ m' γ' g' xs us
  | [], us, _, _, h => h
  | x :: xs, us, hm, hc, h => by
    obtain ⟨u, us', h1, h2, h3, h4⟩ := h
    have hx := hc x (by simp)
    refine ⟨u, us', h1, h2, ?_, RepCs.nx k (fun y hy => hm y (List.mem_cons_of_mem _ hy)) (fun y hy => hc y (List.mem_cons_of_mem _ hy)) h4⟩
    have h5 : RepT κ m γ g x u := by cases x <;> first | exact h3 | simp [TV.isC] at hx
    have h6 := k.mv x u (fun id hid => hm x (by simp) id hid) h5
    cases x <;> first | exact h6 | simp [TV.isC] at hx
theorem exposC_isC {g : Gs} : ∀ {xs : List TV} {p : Expos}, exposC g xs = some p → p.req = true → ∀ x ∈ xs, x.isC = true
  | [], p, _, _, x, hx => by simp at hx
  | y :: ys, p, h, hr, x, hx => by
    simp only [exposC] at h
    split at h
    · rename_i p1 p2 h1 h2
      cases h
      simp only [Bool.and_eq_true] at hr
      rcases List.mem_cons.1 hx with rfl | hx
      · cases x <;> simp only [expoC] at h1 <;> first | rfl | (cases h1; done) | (cases h1; exact hr.1)
      · exact exposC_isC h2 hr.2 x hx
    · cases h
theorem exposC_ok : ∀ {xs : List TV} {p : Expos} {us : List Value} {g : Gs} {m : Mem}, exposC g0 xs = some p → p.req = true → Fz g0 g → Hp κ Ow m0 w0 g m γ w → RepCs κ m γ g xs us →
    ∃ m', Nx κ Ow m0 w0 g m γ w [] (puts g p.w) m' γ w ∧ RepL κ m' p.as us ∧ Fz g0 (puts g p.w)
  | [], p, us, g, m, he, hr, hf, h, hx => by
    cases he
    refine ⟨m, Nx.refl h [], ?_, hf⟩
    simp only [RepL]
    exact hx
  | x :: xs, p, us, g, m, he, hr, hf, h, hx => by
    have hiC := exposC_isC he hr
    simp only [exposC] at he
    split at he
    · rename_i p1 p2 h1 h2
      cases he
      simp only [Bool.and_eq_true] at hr
      obtain ⟨u, us', hu, ho, h3, h4⟩ := hx
      obtain ⟨hag, p', k1, k2, k3, k4, k5⟩ := expoC_expo h1 hr.1
      have hxC := hiC x (by simp)
      have h3' : RepT κ m γ g x u := by cases x <;> first | exact h3 | simp [TV.isC] at hxC
      obtain ⟨m1, n1, r1, f1⟩ := expo_ok1 hag k1 k2 hf h h3'
      rw [k4] at n1 f1
      rw [k3] at r1
      obtain ⟨m2, n2, r2, f2⟩ := exposC_ok h2 hr.2 f1 n1.hp (h4.nx n1 (by simp) fun y hy => hiC y (List.mem_cons_of_mem _ hy))
      refine ⟨m2, ?_, ?_, ?_⟩
      · rw [puts_append]; exact n1.trans n2
      · simp only [RepL]
        exact ⟨u, us', hu, ho, r1.mono n2.le, r2⟩
      · rw [puts_append]; exact f2
    · cases he
/-- A value that is handed on. -/
theorem expo_ok {x : TV} {p : Expo} {u : Value} (he : expo g0 x = some p) (hr : p.req = true) (hf : Fz g0 g) (h : Hp κ Ow m0 w0 g m γ w) (hx : RepT κ m γ g x u) :
    ∃ m', Nx κ Ow m0 w0 g m γ w [] (puts g p.w) m' γ w ∧ RepV κ m' p.a u ∧ Fz g0 (puts g p.w) := by
  by_cases hag : ∃ xs, x = .ag xs
  · obtain ⟨xs, rfl⟩ := hag
    simp only [expo] at he
    split at he
    · rename_i q hq
      cases he
      obtain ⟨us, rfl, h2, h3⟩ := hx
      obtain ⟨m', n, r, f⟩ := exposC_ok hq hr hf h (RepCs.mk (us := us.toList) (by simpa using h2) fun i x hi => by simpa using h3 i x hi)
      refine ⟨m', n, ?_, f⟩
      simp only [RepV]
      exact ⟨us, rfl, r⟩
    · cases he
  · exact expo_ok1 (fun xs e => hag ⟨xs, e⟩) he hr hf h hx

/-- Values, one by one. -/
def RepTs (κ : Nat → Addr) (m : Mem) (γ : Ga) (g : Gs) : List TV → List Value → Prop
  | [], us => us = []
  | x :: xs, us => ∃ u us', us = u :: us' ∧ RepT κ m γ g x u ∧ RepTs κ m γ g xs us'
theorem RepTs.nx {nw : List Nat} (k : Nx κ Ow m0 w0 g m γ w nw g' m' γ' w') : ∀ {xs : List TV} {us : List Value}, (∀ id ∈ TVs.ment xs, id ∉ nw) → RepTs κ m γ g xs us → RepTs κ m' γ' g' xs us
  | [], us, _, h => h
  | x :: xs, us, hm, h => by
    simp only [RepTs] at h ⊢
    obtain ⟨u, us', h1, h2, h3⟩ := h
    exact ⟨u, us', h1, k.mv x u (fun id hid => hm id (by simp [TVs.ment, hid])) h2, RepTs.nx k (fun id hid => hm id (by simp [TVs.ment, hid])) h3⟩
theorem RepTs.length : ∀ {xs : List TV} {us : List Value}, RepTs κ m γ g xs us → us.length = xs.length
  | [], us, h => by simp only [RepTs] at h; simp [h]
  | x :: xs, us, h => by
    simp only [RepTs] at h
    obtain ⟨u, us', h1, h2, h3⟩ := h
    simp [h1, RepTs.length h3]
theorem RepTs.get : ∀ {xs : List TV} {us : List Value}, RepTs κ m γ g xs us → ∀ {j : Nat} {x : TV}, xs[j]? = some x → ∃ u, us[j]? = some u ∧ RepT κ m γ g x u
  | [], us, h, j, x, hx => by simp at hx
  | y :: xs, us, h, j, x, hx => by
    simp only [RepTs] at h
    obtain ⟨u, us', h1, h2, h3⟩ := h
    subst h1
    cases j with
    | zero => simp at hx; subst hx; exact ⟨u, by simp, h2⟩
    | succ j => simp at hx; simpa using RepTs.get h3 hx

theorem expos_ok : ∀ {xs : List TV} {p : Expos} {us : List Value} {g : Gs} {m : Mem}, expos g0 xs = some p → p.req = true → Fz g0 g → Hp κ Ow m0 w0 g m γ w → RepTs κ m γ g xs us →
    ∃ m', Nx κ Ow m0 w0 g m γ w [] (puts g p.w) m' γ w ∧ RepA κ m' p.as us ∧ Fz g0 (puts g p.w)
  | [], p, us, g, m, he, hr, hf, h, hx => by
    cases he
    exact ⟨m, Nx.refl h [], hx, hf⟩
  | x :: xs, p, us, g, m, he, hr, hf, h, hx => by
    simp only [expos] at he
    split at he
    · rename_i p1 p2 h1 h2
      cases he
      simp only [Bool.and_eq_true] at hr
      obtain ⟨u, us', hu, h3, h4⟩ := hx
      obtain ⟨m1, n1, r1, f1⟩ := expo_ok h1 hr.1 hf h h3
      obtain ⟨m2, n2, r2, f2⟩ := expos_ok h2 hr.2 f1 n1.hp (h4.nx n1 (by simp))
      refine ⟨m2, ?_, ⟨u, us', hu, r1.mono n2.le, r2⟩, ?_⟩
      · rw [puts_append]; exact n1.trans n2
      · rw [puts_append]; exact f2
    · cases he
end
end Go.Sy

/- Soundness, part 4: new objects; objects that turn. -/
set_option linter.unusedVariables false
namespace Go.Sy
open Go.RowKit

section
variable {κ : Nat → Addr} {m m' : Mem} {γ γ' : Ga} {g g' g0 : Gs} {w w' w0 : World} {Ow : Nat → Prop} {m0 : Mem}

def Fresh (g : Gs) (id : Nat) : Prop := g id = none ∧ ∀ i o, g i = some o → id ∉ o.ment

theorem Cons.lt (h : Cons m w) {b o : Nat} {u : Value} (hu : m b o = some u) : b < w.heap.size := World.block_lt_of_cell? w ⟨b, o, none⟩ (h b o u hu)
theorem Cons.new (h : Cons m w) {b : Nat} (hb : w.heap.size ≤ b) : ∀ o, m b o = none := fun o => by
  cases hm : m b o with
  | none => rfl
  | some u => have := h.lt hm; omega
theorem Cons.kept (h : Cons m w) (hb : ∀ b o u, m b o = some u → w'.heap[b]? = w.heap[b]?) : Cons m w' := fun b o u hu => by
  rw [World.cell?_of_block (w := w) (hb b o u hu)]; exact h b o u hu

theorem Hp.newObj {id : Nat} {u : Value} {o : SObj} (h : Hp κ Ow m0 w0 g m γ w) (hf : Fresh g id) (hfr : Fr Ow w w') (hblk : ∀ b, b < w.heap.size → w'.heap[b]? = w.heap[b]?)
    (hrep : RepO κ m (updA γ id u) (upd g id o) w' Ow id o) (hex : ∀ b, live o = true → Exc m u b → w.heap.size ≤ b) : Nx κ Ow m0 w0 g m γ w [id] (upd g id o) m (updA γ id u) w' := by
  have hcmp : ∀ j, j ≠ id → Cmp g γ (upd g id o) (updA γ id u) j := fun j hj => Cmp.same (upd_ne hj) (updA_ne hj)
  refine ⟨?_, MLe.refl m, fun x v hx hr => hr.move (MLe.refl m) fun j hj => hcmp j (by have := hx j hj; simpa using this)⟩
  refine h.step (K := (· = id)) (MLe.refl m) (fun _ _ => rfl) (h.cons.kept fun b o u hu => hblk b (h.cons.lt hu)) hfr (fun i hk => ⟨upd_ne hk, updA_ne hk⟩) ?_ ?_ ?_ ?_
  · intro i oi b hk hoi hl hb
    exact ⟨hblk b (h.exc hoi hl hb).1, hb.2.1⟩
  · intro i oi j hk hoi hj
    exact hcmp j fun e => hf.2 i oi hoi (e ▸ hj)
  · intro i oi hk hoi
    subst hk
    rw [upd_same] at hoi
    cases hoi
    exact hrep
  · intro i j oi oj b hk hoi hoj li lj bi bj
    subst hk
    by_cases hj : j = i
    · exact hj.symm
    · rw [upd_same] at hoi
      cases hoi
      rw [updA_same] at bi
      rw [updA_ne hj] at bj
      rw [upd_ne hj] at hoj
      have h1 := hex b li bi
      have h2 := (h.exc hoj lj bj).1
      omega

theorem Hp.turn {id : Nat} {u' : Value} {o o' : SObj} (h : Hp κ Ow m0 w0 g m γ w) (hi : g id = some o)
    (hblk : ∀ k, k < w.heap.size → ¬ (live o = true ∧ Exc m (γ id) k) → w'.heap[k]? = w.heap[k]?) (hfr : Fr Ow w w')
    (hrep : RepO κ m (updA γ id u') (upd g id o') w' Ow id o') (hcmp : Cmp g γ (upd g id o') (updA γ id u') id)
    (hex : ∀ b, live o' = true → Exc m u' b → w.heap.size ≤ b ∨ (live o = true ∧ Exc m (γ id) b)) : Nx κ Ow m0 w0 g m γ w [] (upd g id o') m (updA γ id u') w' := by
  have hc : ∀ j, Cmp g γ (upd g id o') (updA γ id u') j := fun j => by
    by_cases hj : j = id
    · subst hj; exact hcmp
    · exact Cmp.same (upd_ne hj) (updA_ne hj)
  refine ⟨?_, MLe.refl m, fun x v hx hr => hr.move (MLe.refl m) fun j hj => hc j⟩
  refine h.step (K := (· = id)) (MLe.refl m) (fun _ _ => rfl) (h.cons.kept fun b o u hu => hblk b (h.cons.lt hu) fun he => ?_) hfr (fun i hk => ⟨upd_ne hk, updA_ne hk⟩) ?_ (fun i oi j _ _ _ => hc j) ?_ ?_
  · have := he.2.2.1 o; rw [hu] at this; cases this
  · intro i oi b hk hoi hl hb
    exact ⟨hblk b (h.exc hoi hl hb).1 fun he => hk (h.inj i id oi o b hoi hi hl he.1 hb he.2), hb.2.1⟩
  · intro i oi hk hoi
    subst hk
    rw [upd_same] at hoi
    cases hoi
    exact hrep
  · intro i j oi oj b hk hoi hoj li lj bi bj
    subst hk
    by_cases hj : j = i
    · exact hj.symm
    · rw [upd_same] at hoi
      cases hoi
      rw [updA_same] at bi
      rw [updA_ne hj] at bj
      rw [upd_ne hj] at hoj
      rcases hex b li bi with h1 | ⟨h1, h2⟩
      · have h2 := (h.exc hoj lj bj).1
        omega
      · exact h.inj i j o oj b hi hoj h1 lj h2 bj

theorem Hp.own (h : Hp κ Ow m0 w0 g m γ w) : ∀ b, w.heap.size ≤ b → Ow b := fun b hb => h.new b (Nat.le_trans h.fr.size hb)
theorem Hp.frAlloc (h : Hp κ Ow m0 w0 g m γ w) (o : Obj) : Fr Ow w (w.alloc o) := ⟨rfl, rfl, rfl, by simp, fun b hb => by
  have : b < w.heap.size := Nat.lt_of_not_le fun hl => hb (h.own b hl)
  exact Below.heap_alloc w o b this⟩
theorem Hp.frGrown {row : Option Nat} (h : Hp κ Ow m0 w0 g m γ w) (hg : w.grownBy w' row) (hr : ∀ k, row = some k → Ow k) : Fr Ow w w' := ⟨hg.os, hg.tape, hg.output, hg.size, fun b hb => by
  have : b < w.heap.size := Nat.lt_of_not_le fun hl => hb (h.own b hl)
  exact hg.block b this fun e => hb (hr b e.symm)⟩

/-- A new variable. -/
theorem Hp.newBox {id : Nat} {cs : List TV} {arr : Array Value} {e : TypeId} (h : Hp κ Ow m0 w0 g m γ w) (hf : Fresh g id) (harr : arr.size = cs.length) (hm : id ∉ TVs.ment cs)
    (hcs : ∀ (j : Nat) (c : TV), cs[j]? = some c → ∃ u, arr[j]? = some u ∧ u.oneCell' = true ∧ RepT κ m γ g c u) :
    Nx κ Ow m0 w0 g m γ w [id] (upd g id (.box cs)) m (updA γ id (.pointer (some ⟨w.heap.size, 0, none⟩))) (w.alloc (.cells arr e)) := by
  refine h.newObj hf (h.frAlloc _) (fun b hb => Below.heap_alloc w _ b hb) ?_ ?_
  · refine ⟨w.heap.size, arr, e, updA_same _ _ _, h.own _ (Nat.le_refl _), h.cons.new (Nat.le_refl _), heap_alloc_new w _, harr, fun j c hj => ?_⟩
    obtain ⟨u, h1, h2, h3⟩ := hcs j c hj
    refine ⟨u, h1, h2, h3.move (MLe.refl m) fun i hi => Cmp.same (upd_ne ?_) (updA_ne ?_)⟩ <;> (intro he; subst he; exact hm (TVs.mem_ment hj _ hi))
  · intro b _ hb
    have := hb.1
    simp [blkOf] at this
    omega
end

theorem setRow_other (w : World) (b : Nat) (cs : Array Value) {k : Nat} (h : k ≠ b) : (w.setRow b cs).heap[k]? = w.heap[k]? := by
  simp only [World.setRow, Array.getElem?_modify]
  rw [if_neg (Ne.symm h)]
theorem setRow_size (w : World) (b : Nat) (cs : Array Value) : (w.setRow b cs).heap.size = w.heap.size := by simp [World.setRow]
theorem setRow_there (w : World) (b : Nat) (cs cur : Array Value) (t : TypeId) (fz : Nat × Nat) (h : w.heap[b]? = some (.cells cur t fz)) : (w.setRow b cs).heap[b]? = some (.cells cs t fz) := setRow_heap w b cur cs t fz h

section
variable {κ : Nat → Addr} {m m' : Mem} {γ γ' : Ga} {g g' g0 : Gs} {w w' w0 : World} {Ow : Nat → Prop} {m0 : Mem}
/-- A block of the call's own is written. -/
theorem Hp.write {id b : Nat} {o o' : SObj} {arr' : Array Value} (h : Hp κ Ow m0 w0 g m γ w) (hi : g id = some o) (hl : live o = true) (hb : Exc m (γ id) b)
    (hrep : RepO κ m γ (upd g id o') (w.setRow b arr') Ow id o') (hcmp : Cmp g γ (upd g id o') γ id) (hex : ∀ b', live o' = true → Exc m (γ id) b' → b' = b) :
    Nx κ Ow m0 w0 g m γ w [] (upd g id o') m γ (w.setRow b arr') := by
  have hid : updA γ id (γ id) = γ := by
    funext i
    by_cases hj : i = id
    · subst hj; exact updA_same _ _ _
    · exact updA_ne hj
  have := h.turn (w' := w.setRow b arr') (u' := γ id) (o' := o') hi ?_ ?_ (by rw [hid]; exact hrep) (by rw [hid]; exact hcmp) fun b' hl' he => .inr ⟨hl, he⟩
  · rwa [hid] at this
  · intro k hk hne
    exact setRow_other w b arr' fun e => hne ⟨hl, e ▸ hb⟩
  · exact ⟨rfl, rfl, rfl, by simp [setRow_size], fun k hk => setRow_other w b arr' fun e => hk (e ▸ (h.exc hi hl hb).2)⟩
end
end Go.Sy

/- Soundness, part 5: operations that leave memory as it is. -/
set_option linter.unusedVariables false
namespace Go.Sy
open Go.RowKit

/-- What an operation brings, said of its run. -/
def Res (κ : Nat → Addr) (Ow : Nat → Prop) (m0 : Mem) (w0 : World) (g : Gs) (m : Mem) (γ : Ga) (w : World) (r : Result Next) (e : Eff) : Prop :=
  ∃ v w' m' γ', (r = .ok (.value v) w' ∨ (r = .ok .skip w' ∧ v = undef)) ∧ Nx κ Ow m0 w0 g m γ w e.nw (puts g e.wr) m' γ' w' ∧ RepT κ m' γ' (puts g e.wr) e.val v

section
variable {κ : Nat → Addr} {m : Mem} {γ : Ga} {g : Gs} {w w0 : World} {Ow : Nat → Prop} {m0 : Mem} {P : Program}

theorem Res.plain (h : Hp κ Ow m0 w0 g m γ w) {rq : Bool} {tv : TV} {e : Eff} (he : plain rq tv = some e) {r : Result Next} {v : Value} (hr : r = .ok (.value v) w) (ht : RepT κ m γ g tv v) : Res κ Ow m0 w0 g m γ w r e := by
  cases he
  exact ⟨v, w, m, γ, .inl hr, Nx.refl h _, ht⟩
theorem plain_req {rq : Bool} {tv : TV} {e : Eff} (he : plain rq tv = some e) : e.req = rq := by cases he; rfl
/-- After freezing, a value. -/
theorem Res.after {ws : List (Nat × SObj)} {m1 : Mem} (h : Nx κ Ow m0 w0 g m γ w [] (puts g ws) m1 γ w) {rq : Bool} {tv : TV} {rd : List Nat} {r : Result Next} {v : Value} (hr : r = .ok (.value v) w) (ht : RepT κ m1 γ (puts g ws) tv v) :
    Res κ Ow m0 w0 g m γ w r { req := rq, val := tv, wr := ws, rd := rd, nw := [] } := ⟨v, w, m1, γ, .inl hr, h, ht⟩

theorem tyOf_spec {t : TypeId} {i : TyI} (h : tyOf P t = some i) : ∃ ti d z, P.info? t = some ti ∧ P.underlying t = some d ∧ ti.zero = some z ∧
    i.size = ti.size ∧ i.bytes = ti.bytes ∧ i.agg = aggB P t ∧ i.zero = z.cells.toList ∧ i.fields = fieldsD P d ∧
    i.elem = elemD d ∧ i.kind = kindD d ∧ i.conc = P.concrete t ∧ i.sh = shOf d ∧ okD P d = true := by
  unfold tyOf at h
  split at h
  · rename_i ti d h1 h2
    split at h
    · rename_i z h3
      split at h
      · rename_i h4
        cases h
        exact ⟨ti, d, z, h1, h2, h3, rfl, rfl, rfl, rfl, rfl, rfl, rfl, rfl, rfl, h4⟩
      · cases h
    · cases h
  · cases h

theorem isSh_spec {t : Option TyI} {s : Sh} (h : isSh t s = true) : ∃ i, t = some i ∧ i.sh = s := by
  unfold isSh at h
  split at h
  · rename_i i
    refine ⟨i, rfl, ?_⟩
    revert h
    cases i.sh <;> cases s <;> simp
  · cases h

theorem toTV_ok (c : Value) : RepT κ m γ g (toTV c) c := by
  unfold toTV
  split
  · refine ⟨⟨none, rfl⟩, ?_⟩
    simp only [RepV]
    exact ⟨none, 0, rfl, by simp, 0, 0, 0, .inl trivial, by simp [RepE]⟩
  · exact rfl
theorem toAV_ok (c : Value) : RepV κ m (toAV c) c := by
  unfold toAV
  split
  · simp only [RepV]
    exact ⟨none, 0, rfl, by simp, 0, 0, 0, .inl trivial, by simp [RepE]⟩
  · rfl

/-! ### Two operands -/
theorem sBin_ok {C : Ctx} (hT : ∀ t i, C.T t = some i → tyOf C.P t = some i) {op : BinOp} {t : TypeId} {ox oy : Operand} {x y : Value} {r : Bool × Value} (h : sBin (C.T t) op x y = some r) (hr : r.1 = true) :
    (do eqGuard op t ox oy x y; binOp op t x y : Sem Value).run C.P w = .ok r.2 w := by
  unfold sBin at h
  split at h
  · cases h
    simp only [decide_eq_true_eq] at hr
    have : ¬ (_ : Int) < 0 := Int.not_lt.2 hr
    simp [eqGuard, binOp, Op.shift, this]
  · cases h
    simp only [decide_eq_true_eq] at hr
    have : ¬ (_ : Int) < 0 := Int.not_lt.2 hr
    simp [eqGuard, binOp, Op.shift, this]
  · rename_i k a k' b hn1 hn2
    cases hs : sInt op k a b with
    | none => simp [hs] at h
    | some q =>
      simp [hs] at h
      subst h
      simp only [Bool.and_eq_true, decide_eq_true_eq] at hr
      obtain ⟨h1, rfl⟩ := hr
      cases op <;> simp only [sInt] at hs <;> first | (cases hs; done) | skip
      all_goals (cases hs; simp_all [eqGuard, binOp, Op.intArith, Op.intCmp, Op.intDiv, Op.intBits, bne])
  · cases h
    simp [eqGuard, binOp, Op.stringOp]
  · cases h
    simp [eqGuard, binOp, Op.stringOp]
  · rename_i a b
    cases h
    simp only [decide_eq_true_eq] at hr
    have : ¬ ((9223372036854775807 : Int) < (a.size : Int) + (b.size : Int)) := by omega
    simp [eqGuard, binOp, Op.stringOp, this]
  · cases h
    obtain ⟨i, hi, hsh⟩ := isSh_spec hr
    obtain ⟨ti, d, z, h1, h2, _, _, _, _, _, _, _, _, _, h3, _⟩ := tyOf_spec (hT _ _ hi)
    rw [hsh] at h3
    cases d <;> simp [shOf] at h3
    have := run_equal_bool (P := C.P) w t
    simp [eqGuard, binOp, run_equal_bool w t _ _ h2]
  · cases h
    obtain ⟨i, hi, hsh⟩ := isSh_spec hr
    obtain ⟨ti, d, z, h1, h2, _, _, _, _, _, _, _, _, _, h3, _⟩ := tyOf_spec (hT _ _ hi)
    rw [hsh] at h3
    cases d <;> simp [shOf] at h3
    simp [eqGuard, binOp, run_equal_bool w t _ _ h2]
  · cases h

theorem equalIn_nil (n : Nat) {t : TypeId} {ms : Array (String × TypeId)} (h : P.underlying t = some (.interface ms)) : (Op.equalIn (n + 1) t .nilIface .nilIface).run P w = .ok true w := by
  simp [Op.equalIn, run_underlying h]
theorem equalIn_ifc (n : Nat) {t d : TypeId} {x : Value} {ms : Array (String × TypeId)} (h : P.underlying t = some (.interface ms)) : (Op.equalIn (n + 1) t (.iface d x) .nilIface).run P w = .ok false w := by
  simp [Op.equalIn, run_underlying h]
theorem equalIn_ptr (n : Nat) {t e : TypeId} {p : Option Addr} (h : P.underlying t = some (.pointer e)) : (Op.equalIn (n + 1) t (.pointer p) (.pointer none)).run P w = .ok p.isNone w := by
  cases p <;> simp [Op.equalIn, run_underlying h]
theorem equalIn_slice (n : Nat) {t e : TypeId} {p : Option Addr} {l c : Nat} (h : P.underlying t = some (.slice e)) : (Op.equalIn (n + 1) t (.slice p l c) (.slice none 0 0)).run P w = .ok p.isNone w := by
  cases p <;> simp [Op.equalIn, run_underlying h]
theorem equal_slice {t e : TypeId} {p : Option Addr} {l c : Nat} (h : P.underlying t = some (.slice e)) : (Op.equal t (.slice p l c) (.slice none 0 0)).run P w = .ok p.isNone w := equalIn_slice 9999 h
theorem equal_nil {t : TypeId} {ms : Array (String × TypeId)} (h : P.underlying t = some (.interface ms)) : (Op.equal t .nilIface .nilIface).run P w = .ok true w := equalIn_nil 9999 h
theorem equal_ifc {t d : TypeId} {x : Value} {ms : Array (String × TypeId)} (h : P.underlying t = some (.interface ms)) : (Op.equal t (.iface d x) .nilIface).run P w = .ok false w := equalIn_ifc 9999 h
theorem equal_ptr {t e : TypeId} {p : Option Addr} (h : P.underlying t = some (.pointer e)) : (Op.equal t (.pointer p) (.pointer none)).run P w = .ok p.isNone w := equalIn_ptr 9999 h

theorem aNil_ok {C : Ctx} (hT : ∀ t i, C.T t = some i → tyOf C.P t = some i) {op : BinOp} {t : TypeId} {ox oy : Operand} {x : TV} {u : Value} {a : Act} {r : Bool × Value}
    (h : aNil (C.T t) op oy x = some r) (hr : r.1 = true) (hx : RepT κ m γ g x u) : (do eqGuard op t ox oy u (a.eval oy); binOp op t u (a.eval oy) : Sem Value).run C.P w = .ok r.2 w := by
  have key : ∀ s b, nilConst oy = some s → nilness x = some b → (isSh (C.T t) s && sameSh s b.1) = true →
      (Op.equal t u (a.eval oy)).run C.P w = .ok b.2 w ∧ (∀ op, eqGuard op t ox oy u (a.eval oy) = pure ()) ∧ (binOp .eql t u (a.eval oy) = do pure (.bool (← Op.equal t u (a.eval oy)))) ∧ (binOp .neq t u (a.eval oy) = do pure (.bool (!(← Op.equal t u (a.eval oy))))) := by
    intro s b hs hb hsh
    simp only [Bool.and_eq_true] at hsh
    obtain ⟨i, hi, hk⟩ := isSh_spec hsh.1
    obtain ⟨ti, d, z, h1, h2, _, _, _, _, _, _, _, _, _, h3, _⟩ := tyOf_spec (hT _ _ hi)
    rw [hk] at h3
    have hsame : s = b.1 := by
      have := hsh.2
      revert this
      cases s <;> cases b.1 <;> simp [sameSh]
    unfold nilConst at hs
    split at hs
    · cases hs
      cases d <;> simp [shOf] at h3
      have hu : (u = .nilIface ∧ b.2 = true) ∨ (∃ d y, u = .iface d y ∧ b.2 = false) := by
        unfold nilness at hb
        split at hb <;> cases hb <;> simp at hsame
        · left; exact ⟨hx, rfl⟩
        · right
          simp only [RepT, RepT0, RepV] at hx
          obtain ⟨y, hy, _⟩ := hx
          exact ⟨_, y, hy, rfl⟩
      rcases hu with ⟨rfl, hb2⟩ | ⟨d', y, rfl, hb2⟩
      · rw [hb2]
        refine ⟨equal_nil h2, fun op => ?_, rfl, rfl⟩
        show eqGuard op t ox (.const .nilIface) .nilIface .nilIface = _
        exact eqGuard_nil_constR op t ox _
      · rw [hb2]
        exact ⟨equal_ifc h2, fun op => eqGuard_at_iface op t _ _ _ _ _, rfl, rfl⟩
    · cases hs
      cases d <;> simp [shOf] at h3
      have hu : ∃ p, u = .pointer p ∧ b.2 = p.isNone := by
        unfold nilness at hb
        split at hb <;> cases hb <;> simp at hsame
        · exact ⟨none, hx, rfl⟩
        · simp only [RepT, RepT0, RepV] at hx
          obtain ⟨b, o, hy, _⟩ := hx
          exact ⟨_, hy, rfl⟩
        · obtain ⟨⟨p, hp⟩, _⟩ := hx
          exact ⟨_, hp, rfl⟩
      obtain ⟨p, rfl, hb2⟩ := hu
      rw [hb2]
      refine ⟨equal_ptr h2, fun op => eqGuard_at_pointer op t _ _ _ _, ?_, ?_⟩ <;> rfl
    · cases hs
      cases d <;> simp [shOf] at h3
      have hu : ∃ p l c, u = .slice p l c ∧ b.2 = p.isNone := by
        unfold nilness at hb
        split at hb <;> cases hb <;> simp at hsame
        · exact ⟨none, _, _, hx, rfl⟩
        · exact ⟨some _, _, _, hx, rfl⟩
        · simp only [RepT, RepT0, RepV] at hx
          obtain ⟨a, c, hy, _, sz, b, o, ha, _⟩ := hx
          exact ⟨some ⟨b, o, none⟩, _, c, by rw [hy, ha.resolve_left (by simp)], rfl⟩
        · obtain ⟨_, hx⟩ := hx
          simp only [RepV] at hx
          obtain ⟨a, c, hy, _, sz, b, o, ha, _⟩ := hx
          exact ⟨some ⟨b, o, none⟩, _, c, by rw [hy, ha.resolve_left (by simp)], rfl⟩
      obtain ⟨p, l, c, rfl, hb2⟩ := hu
      rw [hb2]
      refine ⟨equal_slice h2, fun op => eqGuard_at_slice op t _ _ _ _ _ _, ?_, ?_⟩ <;> rfl
    · cases hs
  unfold aNil at h
  split at h
  · rename_i s s' b hs hb
    cases h
    obtain ⟨h1, h2, h3, h4⟩ := key _ _ hs hb hr
    simp [h2, h3, h1]
  · rename_i s s' b hs hb
    cases h
    obtain ⟨h1, h2, h3, h4⟩ := key _ _ hs hb hr
    simp [h2, h4, h1]
  · cases h

theorem aBin_ok {C : Ctx} (hT : ∀ t i, C.T t = some i → tyOf C.P t = some i) {op : BinOp} {t : TypeId} {ox oy : Operand} {x y : TV} {u v : Value} {a : Act} {r : Bool × Value}
    (h : aBin (C.T t) op oy x y = some r) (hr : r.1 = true) (hx : RepT κ m γ g x u) (hy : RepT κ m γ g y (a.eval oy)) : (do eqGuard op t ox oy u (a.eval oy); binOp op t u (a.eval oy) : Sem Value).run C.P w = .ok r.2 w := by
  unfold aBin at h
  split at h
  · rename_i p q
    split at h
    · rename_i hs
      cases h
      have h1 : u = p := hx
      have h2 : a.eval oy = q := hy
      rw [h1, h2]
      exact sBin_ok hT hs hr
    · exact aNil_ok hT h hr hx
  · exact aNil_ok hT h hr hx
end
end Go.Sy

/- Soundness, part 6: loads, places, parts. -/
set_option linter.unusedVariables false
namespace Go.Sy
open Go.RowKit

theorem addr_add (b o n : Nat) : (⟨b, o, none⟩ : Addr).add n = ⟨b, o + n, none⟩ := by unfold Addr.add; split <;> simp_all

section
variable {κ : Nat → Addr} {m : Mem} {γ : Ga} {g : Gs} {w w0 : World} {Ow : Nat → Prop} {m0 : Mem} {P : Program}

theorem run_isAgg {t : TypeId} {d : TypeDesc} (h : P.underlying t = some d) : (isAgg t).run P w = .ok (aggB P t) w := by
  simp only [isAgg, Sem.run_bind, run_underlying h, Result.andThen_ok, aggB, h]
  cases d <;> rfl
theorem load_one {t : TypeId} {d : TypeDesc} {b o : Nat} {v : Value} (h : P.underlying t = some d) (ha : aggB P t = false) (hc : w.cell? ⟨b, o, none⟩ = some v) : (Instr.loadAt t (.pointer (some ⟨b, o, none⟩))).run P w = .ok v w := by
  simp [Instr.loadAt, Instr.sureAddr, loadVar, run_isAgg h, ha, run_load, hc]
theorem load_agg {t : TypeId} {d : TypeDesc} {ti : TypeInfo} {b o : Nat} {cs : List Value} (h : P.underlying t = some d) (hi : P.info? t = some ti) (ha : aggB P t = true) (hl : cs.length = ti.size)
    (hc : ∀ (j : Nat) v, cs[j]? = some v → w.cell? ⟨b, o + j, none⟩ = some v) : (Instr.loadAt t (.pointer (some ⟨b, o, none⟩))).run P w = .ok (.agg cs.toArray) w := by
  have := run_loadCells_list (P := P) w ⟨b, o, none⟩ cs (fun j v hv => by rw [addr_add]; exact hc j v hv)
  simp [Instr.loadAt, Instr.sureAddr, loadVar, run_isAgg h, ha, sizeOf, typeInfo, hi, ← hl, this]

theorem RepL.slice {cs : List AV} {us : List Value} (h : RepL κ m cs us) (a k : Nat) : RepL κ m ((cs.drop a).take k) ((us.drop a).take k) := by
  have hl := h.length
  refine RepL.mk (by simp [hl]) fun j x hx => ?_
  rw [List.getElem?_take] at hx
  split at hx
  · rename_i hj
    rw [List.getElem?_drop] at hx
    obtain ⟨u, hu, h1⟩ := h.get hx
    refine ⟨u, ?_, h1⟩
    rw [List.getElem?_take, if_pos hj, List.getElem?_drop]
    exact hu
  · cases hx
theorem RepC.list : ∀ {cs : List AV} {b o : Nat}, RepC κ m b o cs → ∃ us, RepL κ m cs us ∧ ∀ (j : Nat) u, us[j]? = some u → m b (o + j) = some u
  | [], b, o, h => ⟨[], rfl, by simp⟩
  | x :: cs, b, o, h => by
    simp only [RepC] at h
    obtain ⟨⟨u, h1, h2, h3⟩, h4⟩ := h
    obtain ⟨us, h5, h6⟩ := h4.list
    refine ⟨u :: us, ⟨u, us, rfl, h2, h3, h5⟩, fun j v hv => ?_⟩
    cases j with
    | zero => simp at hv; subst hv; exact h1
    | succ j => simp at hv; rw [← h6 j v hv]; congr 1; omega
theorem RepL.toC {cs : List AV} {us : List Value} {b o : Nat} (h : RepL κ m cs us) (hm : ∀ (j : Nat) u, us[j]? = some u → m b (o + j) = some u) : RepC κ m b o cs :=
  RepC.mk fun j x hx => by
    obtain ⟨u, hu, h1⟩ := h.get hx
    exact ⟨u, hm j u hu, h1⟩
theorem RepV.cells' {x : AV} {u : Value} (h : RepV κ m x u) (ho : x.one = true) (h1 : ∀ v ∈ u.cells, v.oneCell' = true) : RepL κ m x.cells u.cells.toList := by
  cases x with
  | v y =>
    have : u = y := h
    subst this
    have hc : u.cells = #[u] := by cases u <;> first | rfl | (simp [AV.one, Value.oneCell'] at ho)
    rw [hc]
    exact ⟨u, [], rfl, ho, rfl, rfl⟩
  | _ => exact RepV.cells h h1 (fun _ _ => .inr trivial) (by simp)

/-- An element of a row of the call's own. -/
theorem OwnRow.elem {ex : Bool} {e : TypeId} {sz : Nat} {xs : List AV} {u : Value} (hc : Cons m w) (h : OwnRow κ m w Ow ex e sz xs u) {b o n c i : Nat} {x : AV} (hu : u = .slice (some ⟨b, o, none⟩) n c) (hx : xs[i]? = some x) :
    ∃ y, RepV κ m x y ∧ y.cells.size = sz ∧ (∀ v ∈ y.cells, v.oneCell' = true) ∧ ∀ (k : Nat) v, y.cells[k]? = some v → w.cell? ⟨b, o + (i * sz + k), none⟩ = some v := by
  rcases h with ⟨us, b', cap, h5, h0, ⟨h1, h2⟩, h3, h12, h13⟩ | ⟨h1, a, h2⟩ | ⟨h1, h4, h5, b', o', h2, h3⟩
  · rw [hu] at h5
    cases h5
    rcases h2 with ⟨h6, _⟩ | ⟨b2, cap2, cur, h6, _, h7, h8, h9, h10, h11⟩
    · rw [hu] at h6; cases h6
    · rw [hu] at h6; cases h6
      obtain ⟨y, r1, r2, r3, r4⟩ := h3.get hx
      refine ⟨y, r1, r2, r3, fun k v hv => ?_⟩
      have := r4 k v hv
      rw [← h11, List.getElem?_take] at this
      split at this
      · simp only [Nat.zero_add, World.cell?, h7]; simpa using this
      · cases this
  · subst h1; simp at hx
  · rw [hu] at h2
    cases h2
    obtain ⟨y, r1, r2, r3, r4⟩ := h3.get hx
    refine ⟨y, r1, r2, r3, fun k v hv => ?_⟩
    have := hc _ _ _ (r4 k v hv)
    rwa [Nat.add_assoc] at this

theorem RepA.toL : ∀ {xs : List AV} {us : List Value}, RepA κ m xs us → (∀ u ∈ us, u.oneCell' = true) → RepL κ m xs us
  | [], us, h, _ => h
  | x :: xs, us, h, h1 => by
    simp only [RepA, RepL] at h ⊢
    obtain ⟨u, us', rfl, h2, h3⟩ := h
    exact ⟨u, us', rfl, h1 u (by simp), h2, h3.toL fun v hv => h1 v (by simp [hv])⟩
theorem RepA.length : ∀ {xs : List AV} {us : List Value}, RepA κ m xs us → us.length = xs.length
  | [], us, h => by simp only [RepA] at h; simp [h]
  | x :: xs, us, h => by
    simp only [RepA] at h
    obtain ⟨u, us', rfl, h2, h3⟩ := h
    simp [h3.length]
theorem RepTs.mk : ∀ {xs : List TV} {us : List Value}, us.length = xs.length → (∀ (j : Nat) (x : TV), xs[j]? = some x → ∃ u, us[j]? = some u ∧ RepT κ m γ g x u) → RepTs κ m γ g xs us
  | [], us, h, _ => by simp only [RepTs]; simpa using h
  | x :: xs, us, h, hp => by
    cases us with
    | nil => simp at h
    | cons u us =>
      obtain ⟨v, hv, h2⟩ := hp 0 x (by simp)
      simp at hv; subst hv
      simp only [RepTs]
      exact ⟨u, us, rfl, h2, RepTs.mk (by simpa using h) fun j y hy => by
        obtain ⟨w, hw, h3⟩ := hp (j + 1) y (by simpa using hy)
        exact ⟨w, by simpa using hw, h3⟩⟩

theorem allC_mem : ∀ {xs : List TV}, allC xs = true → ∀ x ∈ xs, x.isC = true
  | [], _, x, hx => by simp at hx
  | y :: ys, h, x, hx => by
    simp only [allC, Bool.and_eq_true] at h
    rcases List.mem_cons.1 hx with rfl | hx
    · exact h.1
    · exact allC_mem h.2 x hx
theorem RepT.isC {x : TV} {u : Value} (hx : x.isC = true) (h : RepT κ m γ g x u) : RepT0 κ m γ g x u := by cases x <;> first | exact h | simp [TV.isC] at hx
theorem RepT0.isC {x : TV} {u : Value} (hx : x.isC = true) (h : RepT0 κ m γ g x u) : RepT κ m γ g x u := by cases x <;> first | exact h | simp [TV.isC] at hx
theorem aLoad_ok {C : Ctx} (hT : ∀ t i, C.T t = some i → tyOf C.P t = some i) {t : TypeId} {ty : TyI} {x : TV} {u : Value} {e : Eff} {keep : Bool} (ht : C.T t = some ty) (he : aLoad keep ty g x = some e) (hr : e.req = true)
    (h : Hp κ Ow m0 w0 g m γ w) (hx : RepT κ m γ g x u) : ∃ v, (Instr.loadAt t u).run C.P w = .ok v w ∧ ∃ m', Nx κ Ow m0 w0 g m γ w [] (puts g e.wr) m' γ w ∧ RepT κ m' γ (puts g e.wr) e.val v ∧ e.nw = [] := by
  obtain ⟨ti, d, z, h1, h2, h3, h4, _, h6, _⟩ := tyOf_spec (hT _ _ ht)
  have one : ∀ {b o : Nat} {y : TV} {v : Value} {rd : List Nat} {rq : Bool}, aggB C.P t = false → u = .pointer (some ⟨b, o, none⟩) → w.cell? ⟨b, o, none⟩ = some v → RepT κ m γ g y v → e = { req := rq, val := y, wr := [], rd := rd, nw := [] } →
      ∃ v, (Instr.loadAt t u).run C.P w = .ok v w ∧ ∃ m', Nx κ Ow m0 w0 g m γ w [] (puts g e.wr) m' γ w ∧ RepT κ m' γ (puts g e.wr) e.val v ∧ e.nw = [] := by
    intro b o y v rd rq ha hu hc hy he'
    subst he'
    exact ⟨v, by rw [hu]; exact load_one h2 ha hc, m, Nx.refl h [], hy, rfl⟩
  have agg : ∀ {b o : Nat} {cs : List AV} {us : List Value} {rd : List Nat} {rq : Bool}, aggB C.P t = true → u = .pointer (some ⟨b, o, none⟩) → cs.length = ty.size → RepL κ m cs us → (∀ (j : Nat) v, us[j]? = some v → w.cell? ⟨b, o + j, none⟩ = some v) →
      e = { req := rq, val := .av (.agg cs), wr := [], rd := rd, nw := [] } →
      ∃ v, (Instr.loadAt t u).run C.P w = .ok v w ∧ ∃ m', Nx κ Ow m0 w0 g m γ w [] (puts g e.wr) m' γ w ∧ RepT κ m' γ (puts g e.wr) e.val v ∧ e.nw = [] := by
    intro b o cs us rd rq ha hu hl hL hc he'
    subst he'
    refine ⟨.agg us.toArray, by rw [hu]; exact load_agg h2 h1 ha (by rw [hL.length, hl, h4]) hc, m, Nx.refl h [], ?_, rfl⟩
    simp only [RepT, RepT0, RepV]
    exact ⟨us.toArray, rfl, hL⟩
  unfold aLoad at he
  split at he
  · -- ref
    rename_i cs
    have hx' := hx
    simp only [RepT, RepT0, RepV] at hx'
    obtain ⟨b, o, hu, hC⟩ := hx'
    obtain ⟨us, hL, hm⟩ := hC.list
    split at he
    · rename_i ha
      cases he
      have hr' : ty.size ≤ cs.length := by simpa using hr
      refine agg (cs := cs.take ty.size) (us := us.take ty.size) (rd := []) (rq := _) (h6 ▸ ha) hu (by simp; omega) (by have := hL.slice 0 ty.size; simpa using this) (fun j v hv => ?_) rfl
      rw [List.getElem?_take] at hv
      split at hv
      · exact h.cons _ _ _ (hm j v hv)
      · cases hv
    · rename_i ha
      split at he
      · rename_i y cs'
        cases he
        obtain ⟨v, us', hv1, hv2, hv3, hv4⟩ := hL
        subst hv1
        exact one (y := .av y) (rd := []) (rq := true) (h6 ▸ ha) hu (h.cons _ _ _ (by simpa using hm 0 v rfl)) hv3 rfl
      · cases he
  · -- box
    rename_i id off
    split at he
    · rename_i cs hg
      obtain ⟨b, hγ, hu⟩ := hx.2 _ hg rfl
      obtain ⟨b', arr, el, hγ', _, _, harr, hlen, hcs⟩ := h.objs id _ hg
      rw [hγ] at hγ'
      cases hγ'
      split at he
      · rename_i ha
        split at he
        · cases he
          simp only [Bool.and_eq_true, decide_eq_true_eq] at hr
          obtain ⟨hle, hC⟩ := hr
          have hget : ∀ (j : Nat) (x : TV), ((cs.drop off).take ty.size)[j]? = some x → ∃ v, ((arr.toList.drop off).take ty.size)[j]? = some v ∧ v.oneCell' = true ∧ RepT κ m γ g x v := by
            intro j x hj
            rw [List.getElem?_take] at hj
            split at hj
            · rename_i hjl
              rw [List.getElem?_drop] at hj
              obtain ⟨v, hv, ho, hv3⟩ := hcs _ _ hj
              exact ⟨v, by rw [List.getElem?_take, if_pos hjl, List.getElem?_drop]; simpa using hv, ho, hv3⟩
            · cases hj
          have hl1 : ((arr.toList.drop off).take ty.size).length = ty.size := by simp; omega
          refine ⟨.agg ((arr.toList.drop off).take ty.size).toArray, ?_, m, Nx.refl h [], ?_, rfl⟩
          · rw [hu]
            refine load_agg h2 h1 (h6 ▸ ha) (by rw [hl1, h4]) fun j v hv => ?_
            rw [List.getElem?_take] at hv
            split at hv
            · rw [List.getElem?_drop] at hv
              simp [World.cell?, harr]; simpa using hv
            · cases hv
          · refine ⟨_, rfl, by simp; omega, fun i x hi => ?_⟩
            obtain ⟨v, hv, ho, hv3⟩ := hget i x hi
            exact ⟨v, by simpa using hv, ho, hv3.isC (allC_mem hC x (List.mem_of_getElem? hi))⟩
        split at he
        · rename_i p hp
          cases he
          simp only [Bool.and_eq_true, decide_eq_true_eq] at hr
          have hTs : RepTs κ m γ g ((cs.drop off).take ty.size) ((arr.toList.drop off).take ty.size) := by
            refine RepTs.mk (by simp [hlen]) fun j x hx => ?_
            rw [List.getElem?_take] at hx
            split at hx
            · rename_i hj
              rw [List.getElem?_drop] at hx
              obtain ⟨v, hv, _, hv3⟩ := hcs _ _ hx
              exact ⟨v, by rw [List.getElem?_take, if_pos hj, List.getElem?_drop]; simpa using hv, hv3⟩
            · cases hx
          obtain ⟨m', hn, hA, _⟩ := expos_ok hp hr.1 (Fz.refl g) h hTs
          have hone : ∀ v ∈ (arr.toList.drop off).take ty.size, v.oneCell' = true := by
            intro v hv
            have hv' : v ∈ arr.toList := List.mem_of_mem_drop (List.mem_of_mem_take hv)
            obtain ⟨j, hj⟩ := List.getElem?_of_mem hv'
            have hjl : j < cs.length := by
              have := (List.getElem?_eq_some_iff.1 hj).1
              simp at this; omega
            obtain ⟨v2, hv2, h7, _⟩ := hcs j _ (List.getElem?_eq_getElem hjl)
            have : some v = some v2 := by rw [← hj, ← hv2]; simp
            cases this
            exact h7
          have hL := hA.toL hone
          refine ⟨.agg ((arr.toList.drop off).take ty.size).toArray, ?_, m', hn, ?_, rfl⟩
          · rw [hu]
            refine load_agg h2 h1 (h6 ▸ ha) (by rw [hL.length, hr.2, h4]) fun j v hv => ?_
            rw [List.getElem?_take] at hv
            split at hv
            · rw [List.getElem?_drop] at hv
              simp [World.cell?, harr]; simpa using hv
            · cases hv
          · simp only [RepT, RepT0, RepV]
            exact ⟨_, rfl, hL⟩
        · cases he
      · rename_i ha
        split at he
        · rename_i y hy
          cases he
          obtain ⟨v, hv, _, hv3⟩ := hcs off y hy
          exact one (rd := [id]) (rq := true) (h6 ▸ ha) hu (by simp [World.cell?, harr, hv]) hv3 rfl
        · cases he
    · rename_i cs hg
      obtain ⟨b, hγ, hu⟩ := hx.2 _ hg rfl
      obtain ⟨b', hγ', hC⟩ := h.objs id _ hg
      rw [hγ] at hγ'
      cases hγ'
      obtain ⟨us, hL, hm⟩ := hC.list
      split at he
      · rename_i ha
        cases he
        have hr' : off + ty.size ≤ cs.length := by simpa using hr
        refine agg (cs := (cs.drop off).take ty.size) (us := (us.drop off).take ty.size) (rd := [id]) (rq := _) (h6 ▸ ha) hu (by simp; omega) (hL.slice off ty.size) (fun j v hv => ?_) rfl
        rw [List.getElem?_take] at hv
        split at hv
        · rw [List.getElem?_drop] at hv
          have := h.cons _ _ _ (hm _ v hv)
          rwa [Nat.zero_add] at this
        · cases hv
      · rename_i ha
        split at he
        · rename_i y hy
          cases he
          obtain ⟨v, hv, _, hv3⟩ := hL.get hy
          exact one (y := .av y) (rd := [id]) (rq := true) (h6 ▸ ha) hu (by have := h.cons _ _ _ (hm _ v hv); rwa [Nat.zero_add] at this) hv3 rfl
        · cases he
    · cases he
  · -- elem
    rename_i id n sz i off
    split at he
    · rename_i ex el sz' xs hg
      have hO := h.objs id _ hg
      split at he
      · rename_i ha
        cases he
        simp only [Bool.and_eq_true, decide_eq_true_eq] at hr
        obtain ⟨⟨⟨⟨ho, hn⟩, hi⟩, hle⟩, rfl⟩ := hr
        subst hn
        obtain ⟨b, o0, c, hγ, hu⟩ := (hx.2 _ _ hg rfl rfl).2 rfl hi
        have hxi : xs[i]? = some (xs.getD i dflt) := by simp [List.getD, List.getElem?_eq_getElem hi]
        obtain ⟨y, r1, r2, r3, r4⟩ := OwnRow.elem h.cons hO hγ hxi
        have hL := (r1.cells' ho r3).slice off ty.size
        refine agg (cs := ((xs.getD i dflt).cells.drop off).take ty.size) (rd := [id]) (rq := _) (h6 ▸ ha) hu (by simp only [List.length_take, List.length_drop]; omega) hL (fun j v hv => ?_) rfl
        rw [List.getElem?_take] at hv
        split at hv
        · rw [List.getElem?_drop] at hv
          have := r4 (off + j) v (by simpa using hv)
          rwa [show o0 + (i * sz + off) + j = o0 + (i * sz + (off + j)) by omega]
        · cases hv
      · rename_i ha
        split at he
        · rename_i y hy
          cases he
          simp only [Bool.and_eq_true, decide_eq_true_eq] at hr
          obtain ⟨⟨⟨ho, hn⟩, hi⟩, rfl⟩ := hr
          subst hn
          obtain ⟨b, o0, c, hγ, hu⟩ := (hx.2 _ _ hg rfl rfl).2 rfl hi
          have hxi : xs[i]? = some (xs.getD i dflt) := by simp [List.getD, List.getElem?_eq_getElem hi]
          obtain ⟨y', r1, r2, r3, r4⟩ := OwnRow.elem h.cons hO hγ hxi
          obtain ⟨v, hv, _, hv3⟩ := (r1.cells' ho r3).get hy
          exact one (y := .av y) (rd := [id]) (rq := _) (h6 ▸ ha) hu (r4 off v (by simpa using hv)) hv3 rfl
        · cases he
    · cases he
  · cases he
end
end Go.Sy

/- Soundness, part 7: places, parts, slices, small operations. -/
set_option linter.unusedVariables false
namespace Go.Sy
open Go.RowKit

section
variable {κ : Nat → Addr} {m : Mem} {γ : Ga} {g : Gs} {w w0 : World} {Ow : Nat → Prop} {m0 : Mem} {P : Program}

/-- An operation that leaves memory as it is. -/
def Pure (κ : Nat → Addr) (Ow : Nat → Prop) (m0 : Mem) (w0 : World) (g : Gs) (m : Mem) (γ : Ga) (w : World) (r : Result Value) (e : Eff) : Prop :=
  ∃ v, r = .ok v w ∧ ∃ m', Nx κ Ow m0 w0 g m γ w [] (puts g e.wr) m' γ w ∧ RepT κ m' γ (puts g e.wr) e.val v ∧ e.nw = []
theorem Pure.plain {rq : Bool} {tv : TV} {e : Eff} (h : Hp κ Ow m0 w0 g m γ w) (he : plain rq tv = some e) {r : Result Value} {v : Value} (hr : r = .ok v w) (ht : RepT κ m γ g tv v) : Pure κ Ow m0 w0 g m γ w r e := by
  cases he
  exact ⟨v, hr, m, Nx.refl h [], ht, rfl⟩
theorem Pure.res {s : Sem Value} {e : Eff} (h : Pure κ Ow m0 w0 g m γ w (s.run P w) e) : Res κ Ow m0 w0 g m γ w ((do pure (.value (← s)) : Sem Next).run P w) e := by
  obtain ⟨v, h1, m', h2, h3, h4⟩ := h
  refine ⟨v, w, m', γ, .inl (by simp [h1]), ?_, h3⟩
  rw [h4]; exact h2

theorem fieldsD_get {d : TypeDesc} {f off size : Nat} {a : Bool} (h : (fieldsD P d)[f]? = some (off, size, a)) (ho : okD P d = true) :
    ∃ fs fl ti dd, d = .struct fs ∧ fs[f]? = some fl ∧ fl.offset = off ∧ P.info? fl.type = some ti ∧ ti.size = size ∧ P.underlying fl.type = some dd ∧ aggB P fl.type = a := by
  cases d <;> simp [fieldsD] at h
  rename_i fs
  obtain ⟨fl, h1, h2, h3, h4⟩ := h
  simp only [okD, List.all_eq_true, Bool.and_eq_true] at ho
  have hm : fl ∈ fs.toList := by
    have := List.mem_of_getElem? (l := fs.toList) (i := f) (a := fl) (by simpa using h1)
    exact this
  obtain ⟨h5, h6⟩ := ho fl hm
  obtain ⟨ti, h7⟩ := Option.isSome_iff_exists.1 h5
  obtain ⟨dd, h8⟩ := Option.isSome_iff_exists.1 h6
  refine ⟨fs, fl, ti, dd, rfl, h1, h2, h7, ?_, h8, h4⟩
  rw [← h3]
  simp [Program.cellsOf, h7]

theorem aField_ok {C : Ctx} (hT : ∀ t i, C.T t = some i → tyOf C.P t = some i) {t : TypeId} {ty : TyI} {f : Nat} {x : TV} {u : Value} {e : Eff} (ht : C.T t = some ty) (he : aField ty.fields f x = some e) (hr : e.req = true)
    (h : Hp κ Ow m0 w0 g m γ w) (hx : RepT κ m γ g x u) : Pure κ Ow m0 w0 g m γ w ((Instr.fieldAt t u f).run C.P w) e := by
  obtain ⟨ti, d, z, h1, h2, h3, h4, _, h6, _, h7, _, _, _, _, h8⟩ := tyOf_spec (hT _ _ ht)
  unfold aField at he
  split at he
  · rename_i off size a hf
    rw [h7] at hf
    obtain ⟨fs, fl, tf, dd, rfl, f1, f2, f3, f4, f5, f6⟩ := fieldsD_get hf h8
    have run : ∀ p : Addr, 0 < size → (Instr.fieldAt t (.pointer (some p)) f).run C.P w = .ok (.pointer (some (p.add off))) w := by
      intro p hs
      have hz : tf.size ≠ 0 := by omega
      simp [Instr.fieldAt, run_underlying h2, f1, Instr.sureAddr, fieldPlace, sizeOf, typeInfo, f3, hz, f2]
    split at he
    · rename_i cs
      have hs := plain_req he; rw [hr] at hs
      have hs' : 0 < size := by simpa using hs.symm
      simp only [RepT, RepT0, RepV] at hx
      obtain ⟨b, o, rfl, hC⟩ := hx
      refine Pure.plain h he (run _ hs') ?_
      rw [addr_add]
      simp only [RepT, RepT0, RepV]
      exact ⟨b, o + off, rfl, hC.drop off⟩
    · rename_i id o'
      have hs := plain_req he; rw [hr] at hs
      have hs' : 0 < size := by simpa using hs.symm
      obtain ⟨⟨p, rfl⟩, hx2⟩ := hx
      refine Pure.plain h he (run _ hs') ⟨⟨_, rfl⟩, fun o ho hb => ?_⟩
      obtain ⟨b, k1, k2⟩ := hx2 o ho hb
      cases k2
      exact ⟨b, k1, by rw [addr_add]⟩
    · rename_i id n sz i o'
      have hs := plain_req he; rw [hr] at hs
      have hs' : 0 < size := by simpa using hs.symm
      obtain ⟨⟨p, rfl⟩, hx2⟩ := hx
      refine Pure.plain h he (run _ hs') ⟨⟨_, rfl⟩, fun o l ho hb hl => ?_⟩
      obtain ⟨k1, k2⟩ := hx2 o l ho hb hl
      refine ⟨k1, fun e1 e2 => ?_⟩
      obtain ⟨b, o0, c, k3, k4⟩ := k2 e1 e2
      cases k4
      exact ⟨b, o0, c, k3, by rw [addr_add]; congr 3; omega⟩
    · cases he
  · cases he

theorem intOf_ok {x : TV} {n : Int} {u : Value} (h : intOf? x = some n) (hx : RepT κ m γ g x u) : ∃ k, u = .int k n := by
  unfold intOf? at h
  split at h
  · cases h; exact ⟨_, hx⟩
  · cases h

theorem index_run {C : Ctx} {t e : TypeId} {te : TypeInfo} {k : IntKind} {n : Int} {p : Addr} {len c : Nat} (h2 : C.P.underlying t = some (.slice e)) (hi : C.P.info? e = some te) (h0 : 0 ≤ n) (hn : n < len) :
    (Instr.indexAt t (.slice (some p) len c) (.int k n)).run C.P w = .ok (.pointer (some (p.add (n.toNat * te.size)))) w := by
  simp [Instr.indexAt, asIntOf, run_underlying h2, h0, hn, sizeOf, typeInfo, hi]

theorem elem_spec {C : Ctx} (hT : ∀ t i, C.T t = some i → tyOf C.P t = some i) {t e : TypeId} (h : (C.T t).bind (·.elem) = some e) : C.P.underlying t = some (.slice e) := by
  cases ht : C.T t with
  | none => simp [ht] at h
  | some i =>
    obtain ⟨ti, d, z, h1, h2, _, _, _, _, _, _, h9, _⟩ := tyOf_spec (hT _ _ ht)
    simp [ht, h9] at h
    cases d <;> simp [elemD] at h
    subst h
    exact h2

theorem aIndex_ok {C : Ctx} (hT : ∀ t i, C.T t = some i → tyOf C.P t = some i) {t e0 : TypeId} {te : TyI} {x ix : TV} {n : Int} {u uix : Value} {e : Eff} (hel : (C.T t).bind (·.elem) = some e0) (ht : C.T e0 = some te)
    (he : aIndex te.size g x n = some e) (hr : e.req = true) (h : Hp κ Ow m0 w0 g m γ w) (hx : RepT κ m γ g x u) (hix : intOf? ix = some n) (hxi : RepT κ m γ g ix uix) : Pure κ Ow m0 w0 g m γ w ((Instr.indexAt t u uix).run C.P w) e := by
  have h2 := elem_spec hT hel
  obtain ⟨ti, d, z, h1, _, h3, h4, _⟩ := tyOf_spec (hT _ _ ht)
  obtain ⟨k, rfl⟩ := intOf_ok hix hxi
  have sl : ∀ {xs : List AV} {u : Value} {rd : List Nat} {rq : Bool}, 0 ≤ n → n < xs.length → (xs.getD n.toNat dflt).one = true → (xs.getD n.toNat dflt).cells.length = te.size → RepV κ m (.sl xs) u →
      e = { req := rq, val := .av (.ref (xs.getD n.toNat dflt).cells), wr := [], rd := rd, nw := [] } → Pure κ Ow m0 w0 g m γ w ((Instr.indexAt t u (.int k n)).run C.P w) e := by
    intro xs u rd rq h0 hn ho hsz hV he'
    subst he'
    simp only [RepV] at hV
    obtain ⟨a, c, rfl, hlc, sz, b, o, ha, hE⟩ := hV
    have hi : n.toNat < xs.length := by omega
    have ha' : a = some ⟨b, o, none⟩ := ha.resolve_left (by intro hx; subst hx; simp at hi)
    subst ha'
    have hxi : xs[n.toNat]? = some (xs.getD n.toNat dflt) := by simp [List.getD, List.getElem?_eq_getElem hi]
    obtain ⟨y, r1, r2, r3, r4⟩ := hE.get hxi
    have hL := r1.cells' ho r3
    have hsz' : sz = te.size := by rw [← hsz, ← r2]; have := hL.length; simpa using this
    refine ⟨_, index_run h2 h1 h0 hn, m, Nx.refl h [], ?_, rfl⟩
    rw [addr_add]
    simp only [RepT, RepT0, RepV]
    refine ⟨b, _, rfl, hL.toC fun j v hv => ?_⟩
    rw [← h4, ← hsz']
    exact r4 j v (by simpa using hv)
  unfold aIndex at he
  split at he
  · rename_i xs
    have hs := plain_req he; rw [hr] at hs
    have hs' := hs.symm
    simp only [Bool.and_eq_true, decide_eq_true_eq] at hs'
    obtain ⟨⟨⟨h0, hn⟩, ho⟩, hsz⟩ := hs'
    cases he
    exact sl h0 hn ho hsz hx rfl
  · rename_i xs
    have hs := plain_req he; rw [hr] at hs
    have hs' := hs.symm
    simp only [Bool.and_eq_true, decide_eq_true_eq] at hs'
    obtain ⟨⟨⟨h0, hn⟩, ho⟩, hsz⟩ := hs'
    cases he
    exact sl h0 hn ho hsz hx.2 rfl
  · rename_i id n'
    split at he
    · rename_i ex el sz xs hg
      cases he
      simp only [Bool.and_eq_true, decide_eq_true_eq] at hr
      obtain ⟨⟨⟨h0, hn⟩, hl⟩, hsz⟩ := hr
      subst hl
      have hu := (hx.2 _ _ hg rfl).2 rfl
      have hO := h.objs id _ hg
      have hi : n.toNat < xs.length := by omega
      have hp : ∃ b o0 c, γ id = .slice (some ⟨b, o0, none⟩) xs.length c := by
        rcases hO with ⟨us, b', cap, h5, _⟩ | ⟨h1, a, h2⟩ | ⟨h1, h4, h5, b', o', h2, h3⟩
        · exact ⟨b', 0, cap, h5⟩
        · subst h1; simp at hi
        · exact ⟨b', o', _, h2⟩
      obtain ⟨b, o0, c, hγ⟩ := hp
      rw [hu, hγ]
      refine ⟨_, index_run h2 h1 h0 hn, m, Nx.refl h [], ⟨⟨_, rfl⟩, fun o l ho hb hl => ?_⟩, rfl⟩
      simp only [puts] at ho
      rw [hg] at ho
      cases ho
      cases hl
      refine ⟨Nat.le_refl _, fun _ _ => ⟨b, o0, c, hγ, ?_⟩⟩
      rw [addr_add, hsz, h4]
      simp
    · rename_i xs hg
      cases he
      simp only [Bool.and_eq_true, decide_eq_true_eq] at hr
      obtain ⟨⟨⟨⟨h0, hn⟩, hl⟩, ho⟩, hsz⟩ := hr
      exact sl h0 hn ho hsz (h.frow hg hl hx) rfl
    · cases he
  · cases he

theorem aPart_ok {C : Ctx} (hT : ∀ t i, C.T t = some i → tyOf C.P t = some i) {t : TypeId} {ty : TyI} {f : Nat} {x : TV} {u : Value} {e : Eff} (ht : C.T t = some ty) (he : aPart ty.fields f (some x) = some e) (hr : e.req = true)
    (h : Hp κ Ow m0 w0 g m γ w) (hx : RepT κ m γ g x u) : Pure κ Ow m0 w0 g m γ w ((Instr.field t u f).run C.P w) e := by
  obtain ⟨ti, d, z, h1, h2, h3, h4, _, h6, _, h7, _, _, _, _, h8⟩ := tyOf_spec (hT _ _ ht)
  unfold aPart at he
  split at he
  · rename_i cs off size hxc hf
    cases hxc
    rw [h7] at hf
    obtain ⟨fs, fl, tf, dd, rfl, f1, f2, f3, f4, f5, f6⟩ := fieldsD_get hf h8
    simp only [RepT, RepT0, RepV] at hx
    obtain ⟨vs, rfl, hL⟩ := hx
    cases he
    have hs' : off + size ≤ cs.length := by simpa using hr
    refine ⟨.agg (vs.extract off (off + size)), ?_, m, Nx.refl h [], ?_, rfl⟩
    · simp [Instr.field, run_underlying h2, f1, asAgg, part, run_isAgg f5, f6, sizeOf, typeInfo, f3, f4, f2]
    · simp only [RepT, RepT0, RepV]
      refine ⟨_, rfl, ?_⟩
      have := hL.slice off size
      have he : (vs.extract off (off + size)).toList = (vs.toList.drop off).take size := by
        simp [Array.toList_extract, List.extract_eq_take_drop]
      rw [he]
      exact this
  · rename_i cs off size hxc hf
    cases hxc
    rw [h7] at hf
    obtain ⟨fs, fl, tf, dd, rfl, f1, f2, f3, f4, f5, f6⟩ := fieldsD_get hf h8
    simp only [RepT, RepT0, RepV] at hx
    obtain ⟨vs, rfl, hL⟩ := hx
    cases hc : cs[off]? with
    | none => simp [hc] at he
    | some y =>
      simp [hc] at he
      obtain ⟨v, hv, _, hv3⟩ := hL.get hc
      have hv' : vs[off]? = some v := by simpa using hv
      refine Pure.plain h he (v := v) ?_ hv3
      simp [Instr.field, run_underlying h2, f1, asAgg, part, run_isAgg f5, f6, f2, hv']
  · rename_i cs off size hxc hf
    cases hxc
    rw [h7] at hf
    obtain ⟨fs, fl, tf, dd, rfl, f1, f2, f3, f4, f5, f6⟩ := fieldsD_get hf h8
    obtain ⟨vs, rfl, hL, hP⟩ := hx
    cases he
    have hs' : off + size ≤ cs.length := by simpa using hr
    refine ⟨.agg (vs.extract off (off + size)), ?_, m, Nx.refl h [], ?_, rfl⟩
    · simp [Instr.field, run_underlying h2, f1, asAgg, part, run_isAgg f5, f6, sizeOf, typeInfo, f3, f4, f2]
    · refine ⟨_, rfl, by simp; omega, fun i x hi => ?_⟩
      rw [List.getElem?_take] at hi
      split at hi
      · rename_i hlt
        rw [List.getElem?_drop] at hi
        obtain ⟨v, hv, ho, hv3⟩ := hP _ x hi
        refine ⟨v, ?_, ho, hv3⟩
        rw [Array.getElem?_extract, if_pos (by omega)]
        exact hv
      · cases hi
  · rename_i cs off size hxc hf
    cases hxc
    rw [h7] at hf
    obtain ⟨fs, fl, tf, dd, rfl, f1, f2, f3, f4, f5, f6⟩ := fieldsD_get hf h8
    obtain ⟨vs, rfl, hL, hP⟩ := hx
    cases hc : cs[off]? with
    | none => simp [hc] at he
    | some y =>
      simp [hc] at he
      obtain ⟨v, hv, _, hv3⟩ := hP _ y hc
      cases he
      refine ⟨v, ?_, m, Nx.refl h [], hv3.isC hr, rfl⟩
      simp [Instr.field, run_underlying h2, f1, asAgg, part, run_isAgg f5, f6, f2, hv]
  · cases he
end
end Go.Sy

/- Soundness, part 8: slices, small operations, new variables. -/
set_option linter.unusedVariables false
namespace Go.Sy
open Go.RowKit

section
variable {κ : Nat → Addr} {m : Mem} {γ : Ga} {g : Gs} {w w0 : World} {Ow : Nat → Prop} {m0 : Mem} {P : Program}

theorem isSh_desc {C : Ctx} (hT : ∀ t i, C.T t = some i → tyOf C.P t = some i) {t : TypeId} {s : Sh} (h : isSh (C.T t) s = true) : ∃ d, C.P.underlying t = some d ∧ shOf d = s := by
  obtain ⟨i, hi, hk⟩ := isSh_spec h
  obtain ⟨ti, d, z, h1, h2, _, _, _, _, _, _, _, _, _, h3, _⟩ := tyOf_spec (hT _ _ hi)
  exact ⟨d, h2, by rw [← h3]; exact hk⟩

theorem aLen_ok {C : Ctx} (hT : ∀ t i, C.T t = some i → tyOf C.P t = some i) {ts : List TypeId} {type : TypeId} {xs : List TV} {us : List Value} {e : Eff} (he : aLen (ty1 C.T ts) (some xs) = some e) (hr : e.req = true)
    (h : Hp κ Ow m0 w0 g m γ w) (hx : RepTs κ m γ g xs us) : Pure κ Ow m0 w0 g m γ w ((Builtin.len_ ts.toArray type us.toArray).run C.P w) e := by
  have sl : ∀ {u : Value} {a : Option Addr} {n c : Nat}, us = [.slice a n c] → isSh (ty1 C.T ts) .slice = true → plain (isSh (ty1 C.T ts) .slice) (mkInt n) = some e → Pure κ Ow m0 w0 g m γ w ((Builtin.len_ ts.toArray type us.toArray).run C.P w) e := by
    intro u a n c hu hs he
    subst hu
    cases ts with
    | nil => simp [ty1, isSh] at hs
    | cons t ts =>
      obtain ⟨d, h2, h3⟩ := isSh_desc hT hs
      cases d <;> simp [shOf] at h3
      exact Pure.plain h he (v := .int .i64 n) (by simp [Builtin.len_, run_underlying h2, goInt]) rfl
  unfold aLen at he
  split at he
  · rename_i s hs
    cases hs
    obtain ⟨u, us', rfl, h1, h2⟩ := hx
    cases h2
    have hs := plain_req he; rw [hr] at hs
    cases ts with
    | nil => simp [ty1, isSh] at hs
    | cons t ts =>
      obtain ⟨d, h2, h3⟩ := isSh_desc hT hs.symm
      cases d <;> simp [shOf] at h3
      have : u = .string s := h1
      subst this
      exact Pure.plain h he (v := .int .i64 s.size) (by simp [Builtin.len_, run_underlying h2, goInt]) rfl
  · rename_i ys hs
    cases hs
    obtain ⟨u, us', rfl, h1, h2⟩ := hx
    cases h2
    have hs := plain_req he; rw [hr] at hs
    simp only [RepT, RepT0, RepV] at h1
    obtain ⟨a, c, rfl, _⟩ := h1
    exact sl (u := .bool true) rfl hs.symm he
  · rename_i ys hs
    cases hs
    obtain ⟨u, us', rfl, h1, h2⟩ := hx
    cases h2
    have hs := plain_req he; rw [hr] at hs
    obtain ⟨⟨a, rfl⟩, _⟩ := h1
    exact sl (u := .bool true) rfl hs.symm he
  · rename_i id n hs
    cases hs
    obtain ⟨u, us', rfl, h1, h2⟩ := hx
    cases h2
    have hs := plain_req he; rw [hr] at hs
    obtain ⟨⟨a, c, rfl⟩, _⟩ := h1
    exact sl (u := .bool true) rfl hs.symm he
  · cases he

theorem aMax_ok {mx : Bool} {ts : Array TypeId} {type : TypeId} {xs : List TV} {us : List Value} {e : Eff} (he : aMax mx (some xs) = some e)
    (h : Hp κ Ow m0 w0 g m γ w) (hx : RepTs κ m γ g xs us) : Pure κ Ow m0 w0 g m γ w ((if mx then Builtin.max_ ts type us.toArray else Builtin.min_ ts type us.toArray).run P w) e := by
  unfold aMax at he
  split at he
  · rename_i k a k' b hs
    cases hs
    obtain ⟨u, us', rfl, h1, v, us'', rfl, h2, h3⟩ := hx
    cases h3
    have e1 : u = .int k a := h1
    have e2 : v = .int k' b := h2
    subst e1 e2
    refine Pure.plain h he (v := _) ?_ rfl
    cases mx <;> simp [Builtin.max_, Builtin.min_, Builtin.max2, Builtin.min2]
  · cases he

theorem aConv_ok {C : Ctx} (hT : ∀ t i, C.T t = some i → tyOf C.P t = some i) {src dst : TypeId} {x : TV} {u : Value} {e : Eff} (he : aConv (C.T src) ((C.T dst).bind (·.kind)) (some x) = some e) (hr : e.req = true)
    (h : Hp κ Ow m0 w0 g m γ w) (hx : RepT κ m γ g x u) : Pure κ Ow m0 w0 g m γ w ((convert src dst u).run C.P w) e := by
  unfold aConv at he
  split at he
  · rename_i k k' n hk hs
    cases hs
    have hs := plain_req he; rw [hr] at hs
    obtain ⟨i, hi⟩ := Option.isSome_iff_exists.1 hs.symm
    obtain ⟨ti, d, z, h1, h2, _⟩ := tyOf_spec (hT _ _ hi)
    have hd : C.P.underlying dst = some (.int k) := by
      cases hj : C.T dst with
      | none => simp [hj] at hk
      | some j =>
        obtain ⟨ti, d, z, h1, h2, _, _, _, _, _, _, _, h10, _⟩ := tyOf_spec (hT _ _ hj)
        simp [hj, h10] at hk
        cases d <;> simp [kindD] at hk
        subst hk
        exact h2
    have : u = .int k' n := hx
    subst this
    refine Pure.plain h he (v := .int k (k.wrap n)) ?_ rfl
    simp [convert, run_underlying h2, run_underlying hd, Conv.intToInt]
  · cases he

theorem aUn_ok {op : UnOp} {x : TV} {u : Value} {e : Eff} (he : aUn op (some x) = some e) (h : Hp κ Ow m0 w0 g m γ w) (hx : RepT κ m γ g x u) : Pure κ Ow m0 w0 g m γ w ((Op.unary op u).run P w) e := by
  unfold aUn at he
  split at he
  · rename_i b hs
    cases hs
    have : u = .bool b := hx
    subst this
    exact Pure.plain h he (v := .bool !b) (by simp [Op.unary]) rfl
  · rename_i k n hs
    cases hs
    have : u = .int k n := hx
    subst this
    exact Pure.plain h he (v := .int k (k.wrap (0 - n))) (by simp [Op.unary, Op.intArith]) rfl
  · cases he

theorem aByte_ok {C : Ctx} (hT : ∀ t i, C.T t = some i → tyOf C.P t = some i) {t : TypeId} {x ix : TV} {n : Int} {u v : Value} {e : Eff} (he : aByte (C.T t) (some x) (some n) = some e) (hr : e.req = true)
    (h : Hp κ Ow m0 w0 g m γ w) (hx : RepT κ m γ g x u) (hix : intOf? ix = some n) (hxi : RepT κ m γ g ix v) : Pure κ Ow m0 w0 g m γ w ((Instr.index t u v).run C.P w) e := by
  obtain ⟨k, rfl⟩ := intOf_ok hix hxi
  unfold aByte at he
  split at he
  · rename_i s n' hs hn
    cases hs; cases hn
    have hs := plain_req he; rw [hr] at hs
    have hs' := hs.symm
    simp only [Bool.and_eq_true, decide_eq_true_eq] at hs'
    obtain ⟨⟨h1, h2⟩, h3⟩ := hs'
    obtain ⟨d, h4, h5⟩ := isSh_desc hT h1
    cases d <;> simp [shOf] at h5
    have : u = .string s := hx
    subst this
    have hlt : n.toNat < s.size := by omega
    refine Pure.plain h he (v := .int .u8 (bt s n.toNat)) ?_ rfl
    have hb : s[n.toNat]? = some s[n.toNat] := getElem?_pos s n.toNat hlt
    have hbt : bt s n.toNat = ((s[n.toNat]).toNat : Int) := by
      have hl : n.toNat < s.data.toList.length := by rw [Array.length_toList]; exact hlt
      unfold bt
      rw [List.getD_eq_getElem?_getD, List.getElem?_eq_getElem hl]
      rfl
    simp only [Instr.index, asIntOf, Sem.run_bind, run_underlying h4, Result.andThen_ok, h2, hb, hbt, if_true, Sem.run_pure]
  · cases he

theorem aExtract_ok {x : TV} {i : Nat} {u : Value} {e : Eff} (he : aExtract (some x) i = some e) (h : Hp κ Ow m0 w0 g m γ w) (hx : RepT κ m γ g x u) : Pure κ Ow m0 w0 g m γ w ((Instr.extract u i).run P w) e := by
  unfold aExtract at he
  split at he
  · rename_i xs hs
    cases hs
    obtain ⟨us, rfl, hp⟩ := hx
    cases hi : xs[i]? with
    | none => simp [hi] at he
    | some y =>
      simp [hi] at he
      obtain ⟨v, hv, h1⟩ := hp i y hi
      refine Pure.plain h he (v := v) (by simp [Instr.extract, hv]) ?_
      cases y <;> first | exact h1 | exact h1.elim
  · cases he

theorem aIface_ok {C : Ctx} (hT : ∀ t i, C.T t = some i → tyOf C.P t = some i) {t : TypeId} {x : TV} {u : Value} {e : Eff} (he : aIface C.T g t (some x) = some e) (hr : e.req = true)
    (h : Hp κ Ow m0 w0 g m γ w) (hx : RepT κ m γ g x u) : Pure κ Ow m0 w0 g m γ w ((Instr.makeInterface t u).run C.P w) e := by
  unfold aIface at he
  cases hi : C.T t with
  | none => simp [hi] at he
  | some i =>
    cases hp : expo g x with
    | none => simp [hi, hp] at he
    | some p =>
      simp [hi, hp] at he
      subst he
      simp only [Bool.and_eq_true] at hr
      obtain ⟨ti, d, z, h1, h2, _, _, _, _, _, _, _, _, h11, _⟩ := tyOf_spec (hT _ _ hi)
      obtain ⟨m', hn, hV, _⟩ := expo_ok hp hr.1 (Fz.refl g) h hx
      refine ⟨.iface t u, run_makeInterface w t u (by rw [← h11]; exact hr.2), m', hn, ?_, rfl⟩
      simp only [RepT, RepT0, RepV]
      exact ⟨u, rfl, hV⟩

theorem capsOf_ok {C : Ctx} {s : St} {a : Act} (hρ : ∀ x v, s.ev C x = some v → RepT κ m γ g v (a.eval x)) : ∀ {xs : List Operand} {cs : List (Nat × Nat)}, capsOf C s xs = some cs →
    xs.length = cs.length ∧ ∀ (i : Nat) (c : Nat × Nat), cs[i]? = some c → ∃ v, (xs.map a.eval)[i]? = some v ∧ RepB γ g c.1 c.2 v
  | [], cs, h => by cases h; exact ⟨rfl, by simp⟩
  | x :: xs, cs, h => by
    simp only [capsOf] at h
    split at h
    · rename_i id off cs' h1 h2
      cases h
      obtain ⟨k1, k2⟩ := capsOf_ok hρ h2
      refine ⟨by simp [k1], fun i c hc => ?_⟩
      cases i with
      | zero => simp at hc; subst hc; exact ⟨_, by simp, hρ _ _ h1⟩
      | succ i => simp at hc; simpa using k2 i c hc
    · cases h

theorem aFunc_ok {C : Ctx} {s : St} {a : Act} (hρ : ∀ x v, s.ev C x = some v → RepT κ m γ g v (a.eval x)) {f : FuncId} {first caps : Array Operand} {e : Eff} (he : aFunc f first.toList (capsOf C s caps.toList) = some e)
    (h : Hp κ Ow m0 w0 g m γ w) : Pure κ Ow m0 w0 g m γ w ((Instr.makeFunc (.func f) (first.map a.eval) (caps.map a.eval)).run P w) e := by
  unfold aFunc at he
  split at he
  · rename_i hf hc
    have hf' : first = #[] := Array.toList_inj.1 (by simpa using hf)
    obtain ⟨k1, k2⟩ := capsOf_ok hρ hc
    have hc' : caps = #[] := Array.toList_inj.1 (by simpa using k1)
    subst hf' hc'
    refine Pure.plain h he (v := .func (.func f) #[] #[]) (by simp [Instr.makeFunc]) ?_
    simp only [RepT, RepT0, RepV]
    exact ⟨#[], rfl, rfl⟩
  · rename_i cs hn hf hc
    have hf' : first = #[] := Array.toList_inj.1 (by simpa using hf)
    obtain ⟨k1, k2⟩ := capsOf_ok hρ hc
    subst hf'
    refine Pure.plain h he (v := .func (.func f) #[] (caps.map a.eval)) (by simp [Instr.makeFunc]) ?_
    refine ⟨_, rfl, by simpa using k1, fun i c hi => ?_⟩
    obtain ⟨v, hv, h1⟩ := k2 i c hi
    exact ⟨v, by simpa using hv, h1⟩
  · cases he
end
end Go.Sy

/- Soundness, part 9: slices of slices and of strings. -/
set_option linter.unusedVariables false
namespace Go.Sy
open Go.RowKit

section
variable {κ : Nat → Addr} {m : Mem} {γ : Ga} {g : Gs} {w w0 : World} {Ow : Nat → Prop} {m0 : Mem} {P : Program}

/-- A bound, where there is one. -/
def BV (κ : Nat → Addr) (m : Mem) (γ : Ga) (g : Gs) : Option TV → Option Value → Prop
  | none, none => True
  | some x, some u => RepT κ m γ g x u
  | _, _ => False

theorem bound_lo {lo : Option TV} {lov : Option Value} {l : Int} (h : intOf? (lo.getD (mkInt 0)) = some l) (k : BV κ m γ g lo lov) :
    (lov = none ∧ l = 0) ∨ ∃ q, lov = some (.int q l) := by
  cases lo with
  | none => cases lov with
    | none => simp [mkInt, intOf?] at h; exact .inl ⟨rfl, h.symm⟩
    | some u => exact k.elim
  | some x => cases lov with
    | none => exact k.elim
    | some u => obtain ⟨q, hq⟩ := intOf_ok h k; exact .inr ⟨q, by rw [hq]⟩
theorem bound_hi {n : Nat} {hi : Option TV} {hiv : Option Value} {h : Int} (hh : intOf? (hi.getD (mkInt n)) = some h) (k : BV κ m γ g hi hiv) :
    (hiv = none ∧ h = n) ∨ ∃ q, hiv = some (.int q h) := by
  cases hi with
  | none => cases hiv with
    | none => simp [mkInt, intOf?] at hh; exact .inl ⟨rfl, hh.symm⟩
    | some u => exact k.elim
  | some x => cases hiv with
    | none => exact k.elim
    | some u => obtain ⟨q, hq⟩ := intOf_ok hh k; exact .inr ⟨q, by rw [hq]⟩

theorem bounds_two {isSlice : Bool} {len cap : Nat} {lo hi : Option TV} {lov hiv : Option Value} {l h : Int} (hl : intOf? (lo.getD (mkInt 0)) = some l) (kl : BV κ m γ g lo lov) (hh : intOf? (hi.getD (mkInt len)) = some h) (kh : BV κ m γ g hi hiv)
    (c1 : 0 ≤ l) (c2 : l ≤ h) (c3 : h ≤ len) (c4 : len ≤ cap) : (Instr.sliceBounds isSlice len cap lov hiv none).run P w = .ok (l.toNat, h.toNat, cap) w := by
  have hc : h ≤ (cap : Int) := by omega
  have h0 : 0 ≤ h := by omega
  have hln : l ≤ (h.toNat : Int) := by omega
  have hll : l ≤ (len : Int) := by omega
  have hmax : max h 0 = h := by omega
  have hnl : ¬ h < l := by omega
  rcases bound_lo hl kl with ⟨rfl, rfl⟩ | ⟨q, rfl⟩ <;> rcases bound_hi hh kh with ⟨rfl, rfl⟩ | ⟨q', rfl⟩ <;>
    simp [Instr.sliceBounds, Instr.sliceBound, asIntOf, c1, hc, h0, hln, hll, hmax, hnl]
theorem bounds_three {len cap : Nat} {lo hi : Option TV} {mv : TV} {lov hiv : Option Value} {mvv : Value} {l h mm : Int} (hl : intOf? (lo.getD (mkInt 0)) = some l) (kl : BV κ m γ g lo lov) (hh : hi.bind intOf? = some h) (kh : BV κ m γ g hi hiv)
    (hm : intOf? mv = some mm) (km : RepT κ m γ g mv mvv) (c1 : 0 ≤ l) (c2 : l ≤ h) (c3 : h = mm) (c4 : h ≤ len) (c5 : len ≤ cap) : (Instr.sliceBounds true len cap lov hiv (some mvv)).run P w = .ok (l.toNat, h.toNat, h.toNat) w := by
  subst c3
  obtain ⟨q, rfl⟩ := intOf_ok hm km
  have hhv : ∃ q, hiv = some (.int q h) := by
    cases hi with
    | none => simp at hh
    | some x => cases hiv with
      | none => exact kh.elim
      | some u => obtain ⟨q, hq⟩ := intOf_ok (by simpa using hh) kh; exact ⟨q, by rw [hq]⟩
  obtain ⟨q', rfl⟩ := hhv
  have hc : h ≤ (cap : Int) := by omega
  have h0 : 0 ≤ h := by omega
  have hln : l ≤ (h.toNat : Int) := by omega
  have hmax : max h 0 = h := by omega
  have hnl : ¬ h < l := by omega
  rcases bound_lo hl kl with ⟨rfl, rfl⟩ | ⟨q, rfl⟩ <;>
    simp [Instr.sliceBounds, Instr.sliceBound, asIntOf, c1, c2, hc, h0, hln, hmax, hnl]

theorem RepE.size {sz b o : Nat} {x : AV} {xs : List AV} (h : RepE κ m sz b o (x :: xs)) (ho : x.one = true) : sz = x.cells.length := by
  simp only [RepE] at h
  obtain ⟨⟨y, h1, h2, h3, h4⟩, _⟩ := h
  have := (h1.cells' ho h3).length
  rw [← h2, ← this]
  simp

/-- A part of a slice. -/
theorem RepV.part {xs : List AV} {a : Option Addr} {n c l h cc : Nat} {a' : Option Addr} {size : Nat} (hV : RepV κ m (.sl xs) (.slice a n c)) (hlh : l ≤ h) (hh : h ≤ xs.length) (hcc : h - l ≤ cc)
    (ha : l < h → a' = a.map (·.add (l * size))) (hs : ∀ x r, xs = x :: r → x.one = true ∧ x.cells.length = size) : RepV κ m (.sl ((xs.take h).drop l)) (.slice a' (h - l) cc) := by
  simp only [RepV] at hV ⊢
  obtain ⟨a0, c0, hu, hlc, sz, b, o, ha0, hE⟩ := hV
  cases hu
  refine ⟨a', cc, by simp; omega, by simp; omega, sz, b, o + l * sz, ?_, ?_⟩
  · rcases Nat.lt_or_ge l h with hlt | hge
    · right
      have hne : xs ≠ [] := by intro e; subst e; simp at hh; omega
      rw [ha hlt, ha0.resolve_left hne]
      cases xs with
      | nil => exact absurd rfl hne
      | cons x r =>
        obtain ⟨k1, k2⟩ := hs x r rfl
        rw [hE.size k1, k2]
        simp [addr_add]
    · left
      apply List.eq_nil_of_length_eq_zero
      simp; omega
  · refine RepE.mk fun j x hx => ?_
    rw [List.getElem?_drop, List.getElem?_take] at hx
    split at hx
    · obtain ⟨y, r1, r2, r3, r4⟩ := hE.get hx
      refine ⟨y, r1, r2, r3, fun k v hv => ?_⟩
      rw [← r4 k v hv, Nat.add_mul]
      congr 1
      omega
    · cases hx

theorem okHd_spec {C : Ctx} (hT : ∀ t i, C.T t = some i → tyOf C.P t = some i) {t : TypeId} {xs : List AV} {e0 : TypeId} (h : okHd C.T (C.T t) xs = true) (h2 : C.P.underlying t = some (.slice e0)) :
    ∃ te, C.P.info? e0 = some te ∧ ∀ x r, xs = x :: r → x.one = true ∧ x.cells.length = te.size := by
  simp only [okHd] at h
  split at h
  · rename_i te' he
    cases ht : C.T t with
    | none => simp [ht] at he
    | some ti =>
      have h3 : (C.T t).bind (·.elem) = some e0 := by
        obtain ⟨_, d, _, _, h4, _, _, _, _, _, _, h9, _⟩ := tyOf_spec (hT _ _ ht)
        rw [h2] at h4
        cases h4
        simp [ht, h9, elemD]
      rw [h3] at he
      simp at he
      obtain ⟨tj, _, _, k1, _, _, k4, _⟩ := tyOf_spec (hT _ _ he)
      refine ⟨tj, k1, fun x r hx => ?_⟩
      subst hx
      simp only [hdOK, Bool.and_eq_true, decide_eq_true_eq] at h
      exact ⟨h.1, by rw [h.2, k4]⟩
  · cases h

theorem aSlice_ok {C : Ctx} (hT : ∀ t i, C.T t = some i → tyOf C.P t = some i) {t : TypeId} {x : TV} {u : Value} {lo hi mx : Option TV} {lov hiv mxv : Option Value} {e : Eff} (he : aSlice C.T (C.T t) g x lo hi mx = some e) (hr : e.req = true)
    (h : Hp κ Ow m0 w0 g m γ w) (hx : RepT κ m γ g x u) (kl : BV κ m γ g lo lov) (kh : BV κ m γ g hi hiv) (km : BV κ m γ g mx mxv) : Pure κ Ow m0 w0 g m γ w ((Instr.sliceAt t u lov hiv mxv).run C.P w) e := by
  unfold aSlice at he
  split at he
  · rename_i s
    split at he
    · rename_i l h' hl hh
      have hs := plain_req he; rw [hr] at hs
      have hs' := hs.symm
      simp only [Bool.and_eq_true, decide_eq_true_eq] at hs'
      obtain ⟨⟨⟨k1, k2⟩, k3⟩, k4⟩ := hs'
      obtain ⟨d, h4, h5⟩ := isSh_desc hT k1
      cases d <;> simp [shOf] at h5
      have : u = .string s := hx
      subst this
      have hmx : mxv = none := by cases mxv with
        | none => rfl
        | some v => exact km.elim
      subst hmx
      refine Pure.plain h he (v := .string (s.extract l.toNat h'.toNat)) ?_ rfl
      have := bounds_two (P := C.P) (w := w) (isSlice := false) hl kl hh kh k2 k3 k4 (Nat.le_refl _)
      simp [Instr.sliceAt, Instr.slice, run_underlying h4, this]
    · cases he
  · split at he
    · rename_i rq xs ws rd hp
      have fin : ∀ {l h' : Int} {mv : Option Value} {cc : Nat → Nat} {tv : TV} {b : Bool}, e = { req := rq && isSh (C.T t) .slice && okHd C.T (C.T t) xs && b, val := tv, wr := ws, rd := rd, nw := [] } → mv = mxv →
          0 ≤ l → l ≤ h' → h' ≤ xs.length →
          (∀ c, xs.length ≤ c → (Instr.sliceBounds true xs.length c lov hiv mv).run C.P w = .ok (l.toNat, h'.toNat, cc c) w ∧ h'.toNat ≤ cc c) →
          (∀ m' γ' g' a' c, xs.length ≤ c → RepV κ m' (.sl ((xs.take h'.toNat).drop l.toNat)) (.slice a' (h'.toNat - l.toNat) (cc c - l.toNat)) → RepT κ m' γ' g' tv (.slice a' (h'.toNat - l.toNat) (cc c - l.toNat))) →
          Pure κ Ow m0 w0 g m γ w ((Instr.sliceAt t u lov hiv mxv).run C.P w) e := by
        intro l h' mv cc tv b he' hmv c1 c2 c3 hb ht
        subst he' hmv
        simp only [Bool.and_eq_true] at hr
        obtain ⟨⟨⟨k1, k2⟩, k3⟩, _⟩ := hr
        obtain ⟨d, h4, h5⟩ := isSh_desc hT k2
        cases d <;> simp [shOf] at h5
        rename_i e0
        obtain ⟨te, hte, hhd⟩ := okHd_spec hT k3 h4
        obtain ⟨m', hn, hV, _⟩ := expo_ok hp k1 (Fz.refl g) h hx
        have hV' := hV
        simp only [RepV] at hV'
        obtain ⟨a, c, rfl, hlc, _⟩ := hV'
        obtain ⟨hb1, hb2⟩ := hb c hlc
        refine ⟨_, by simp [Instr.sliceAt, Instr.slice, run_underlying h4, hb1, sizeOf, typeInfo, hte]; rfl, m', hn, ?_, rfl⟩
        refine ht _ _ _ _ c hlc (hV.part (size := te.size) (by omega) (by omega) (by omega) ?_ hhd)
        intro hlt
        rw [if_neg (by omega)]
      split at he
      · split at he
        · rename_i l h' hl hh
          cases he
          have hr' := hr
          simp only [Bool.and_eq_true, decide_eq_true_eq] at hr'
          obtain ⟨⟨⟨_, c1⟩, c2⟩, c3⟩ := hr'
          have hmx : mxv = none := by cases mxv with
            | none => rfl
            | some v => exact km.elim
          refine fin (l := l) (h' := h') (mv := none) (cc := fun c => c) (tv := .av (.sl ((xs.take h'.toNat).drop l.toNat))) (b := decide (0 ≤ l) && decide (l ≤ h') && decide (h' ≤ xs.length)) (by simp [Bool.and_assoc]) hmx.symm c1 c2 c3 (fun c hc => ⟨bounds_two hl kl hh kh c1 c2 c3 hc, by omega⟩) fun _ _ _ _ _ _ hV => hV
        · cases he
      · split at he
        · rename_i l h' mm hl hh hm
          cases he
          have hr' := hr
          simp only [Bool.and_eq_true, decide_eq_true_eq] at hr'
          obtain ⟨⟨⟨⟨_, c1⟩, c2⟩, c4⟩, c3⟩ := hr'
          obtain ⟨mvv, rfl⟩ : ∃ v, mxv = some v := by cases mxv with
            | none => exact km.elim
            | some v => exact ⟨v, rfl⟩
          refine fin (l := l) (h' := h') (mv := some mvv) (cc := fun _ => h'.toNat) (tv := .full ((xs.take h'.toNat).drop l.toNat)) (b := decide (0 ≤ l) && decide (l ≤ h') && decide (h' = mm) && decide (h' ≤ xs.length)) (by simp [Bool.and_assoc]) rfl c1 c2 c3 (fun c hc => ⟨bounds_three hl kl hh kh hm km c1 c2 c4 c3 hc, Nat.le_refl _⟩) fun m' γ' g' a' c hc hV => ⟨⟨a', ?_⟩, hV⟩
          have : ((xs.take h'.toNat).drop l.toNat).length = h'.toNat - l.toNat := by simp; omega
          rw [this]
        · cases he
    · cases he
end
end Go.Sy
