/- Contracts of the document's own numbers, texts and May. -/
import Derived.Test.YthipfoebefcgpaaDoorEx3
import Derived.Lib.ValidLaws
import Derived.Lib.RuneCountTail
import Derived.Test.YthipfoebefcgpaaDoorKb
set_option linter.unusedVariables false
set_option linter.unusedSimpArgs false
/- Plain words: rows of bits. -/
set_option linter.unusedVariables false
namespace Go.Sy
def encB (l : List Int) : List AV := l.map fun n => .v (.int .u8 n)
theorem encB_length (l : List Int) : (encB l).length = l.length := by simp [encB]
theorem encB_get {l : List Int} {j : Nat} (h : j < l.length) : (encB l).getD j dflt = .v (.int .u8 l[j]) := by simp [encB, h]
theorem allSz_encB : ∀ l : List Int, allSz 1 (encB l) = true
  | [] => rfl
  | x :: r => by
    have : encB (x :: r) = .v (.int .u8 x) :: encB r := rfl
    simp [this, allSz, AV.one, Value.oneCell', AV.cells, allSz_encB r]
theorem hdOK_encB (l : List Int) : hdOK 1 (encB l) = true := hdOK_all (allSz_encB l)
theorem encB_take (l : List Int) (n : Nat) : encB (l.take n) = (encB l).take n := by simp [encB, List.map_take]
theorem encB_app (a b : List Int) : encB (a ++ b) = encB a ++ encB b := by simp [encB]
def bitAt (x : Int) (k : Nat) : Int := IntKind.u8.wrap (IntKind.u32.wrap (BitVec.ofInt IntKind.u32.bits (x.fdiv (2 ^ min k IntKind.u32.bits)) &&& BitVec.ofInt IntKind.u32.bits 1).toNat)
def wordK (x : Int) (k : Nat) : List Int := (List.range k).map (bitAt x)
theorem wordK_succ (x : Int) (k : Nat) : wordK x (k + 1) = wordK x k ++ [bitAt x k] := by simp [wordK, List.range_succ]
theorem wordK_length (x : Int) (k : Nat) : (wordK x k).length = k := by simp [wordK]
def wordB (x : Int) : List Int := wordK x 32
def bitsOf (m : List Int) : List Int := m.flatMap wordB
theorem wordB_length (x : Int) : (wordB x).length = 32 := wordK_length x 32
theorem bitsOf_length : ∀ m : List Int, (bitsOf m).length = 32 * m.length
  | [] => rfl
  | x :: m => by
    have := bitsOf_length m
    simp only [bitsOf] at this
    simp only [bitsOf, List.flatMap_cons, List.length_append, wordB_length, List.length_cons, this]
    omega
theorem bitsOf_snoc (m : List Int) (x : Int) : bitsOf (m ++ [x]) = bitsOf m ++ wordB x := by simp [bitsOf]
def or32 (a b : Int) : Int := IntKind.u32.wrap (BitVec.ofInt IntKind.u32.bits a ||| BitVec.ofInt IntKind.u32.bits b).toNat
def shl1 (k : Nat) : Int := IntKind.u32.wrap (1 * 2 ^ min k IntKind.u32.bits)
def limbPush (acc : List Int) (i : Nat) : List Int := if i % 32 = 0 then acc ++ [0] else acc
def limbBit (a : List Int) (i : Nat) (x : Int) : List Int := if x = 1 then a.set (i / 32) (or32 (a.getD (i / 32) 0) (shl1 (i % 32))) else a
def limbK (b : List Int) : Nat → List Int
  | 0 => []
  | i + 1 => limbBit (limbPush (limbK b i) i) i (b.getD i 0)
theorem limbBit_length (a : List Int) (i : Nat) (x : Int) : (limbBit a i x).length = a.length := by unfold limbBit; split <;> simp
theorem limbK_length (b : List Int) : ∀ i, (limbK b i).length = (i + 31) / 32
  | 0 => rfl
  | i + 1 => by
    rw [limbK, limbBit_length, limbPush]
    have := limbK_length b i
    split
    · rw [List.length_append, this]; simp; omega
    · rw [this]; omega
theorem encU_set (l : List Int) (i : Nat) (x : Int) : encU (l.set i x) = (encU l).set i (.v (.int .u32 x)) := by simp [encU, List.map_set]
end Go.Sy

/- Plain law: the bits of a number are that number. -/
set_option linter.unusedVariables false
namespace Go.Sy
def u32ok (x : Int) : Prop := 0 ≤ x ∧ x < 4294967296
theorem wrap_u8_small {n : Nat} (h : n < 256) : IntKind.u8.wrap (n : Int) = n := by simp [IntKind.wrap, IntKind.bits, IntKind.signed]; omega
theorem wrap_u32_small {n : Nat} (h : n < 4294967296) : IntKind.u32.wrap (n : Int) = n := by simp [IntKind.wrap, IntKind.bits, IntKind.signed]; omega
theorem bitAt_nat {n : Nat} (hn : n < 4294967296) (k : Nat) (hk : k < 32) : bitAt (n : Int) k = if n.testBit k then 1 else 0 := by
  have e1 : min k IntKind.u32.bits = k := by simp [IntKind.bits]; omega
  have e2 : ((n : Int).fdiv (2 ^ k)) = ((n / 2 ^ k : Nat) : Int) := by
    have h2 : (2 : Int) ^ k = ((2 ^ k : Nat) : Int) := by simp
    rw [h2, Int.fdiv_eq_ediv_of_nonneg _ (Int.natCast_nonneg _)]
    simp
  have h3 : n / 2 ^ k < 4294967296 := Nat.lt_of_le_of_lt (Nat.div_le_self _ _) hn
  have e3 : (BitVec.ofInt IntKind.u32.bits ((n / 2 ^ k : Nat) : Int) &&& BitVec.ofInt IntKind.u32.bits 1).toNat = n / 2 ^ k % 2 := by
    have h4 : BitVec.ofInt IntKind.u32.bits ((n / 2 ^ k : Nat) : Int) = BitVec.ofNat 32 (n / 2 ^ k) := BitVec.ofInt_natCast 32 (n / 2 ^ k)
    have h5 : BitVec.ofInt IntKind.u32.bits 1 = BitVec.ofNat 32 1 := rfl
    rw [h4, h5]
    have h6 : (BitVec.ofNat 32 (n / 2 ^ k) &&& BitVec.ofNat 32 1).toNat = n / 2 ^ k % 2 := by
      rw [BitVec.toNat_and, BitVec.toNat_ofNat, BitVec.toNat_ofNat, Nat.mod_eq_of_lt (by simpa using h3)]
      exact Nat.and_one_is_mod _
    exact h6
  unfold bitAt
  rw [e1, e2, e3, wrap_u32_small (by omega), wrap_u8_small (by omega), Nat.testBit_eq_decide_div_mod_eq]
  by_cases h : n / 2 ^ k % 2 = 1
  · simp [h]
  · have : n / 2 ^ k % 2 = 0 := by omega
    simp [this]
theorem or32_nat {a b : Nat} (ha : a < 4294967296) (hb : b < 4294967296) : or32 (a : Int) (b : Int) = ((a ||| b : Nat) : Int) := by
  have h4 : BitVec.ofInt IntKind.u32.bits (a : Int) = BitVec.ofNat 32 a := BitVec.ofInt_natCast 32 a
  have h5 : BitVec.ofInt IntKind.u32.bits (b : Int) = BitVec.ofNat 32 b := BitVec.ofInt_natCast 32 b
  have h6 : (BitVec.ofNat 32 a ||| BitVec.ofNat 32 b).toNat = a ||| b := by
    rw [BitVec.toNat_or, BitVec.toNat_ofNat, BitVec.toNat_ofNat, Nat.mod_eq_of_lt (by simpa using ha), Nat.mod_eq_of_lt (by simpa using hb)]
  have h7 : a ||| b < 4294967296 := Nat.or_lt_two_pow (n := 32) (by simpa using ha) (by simpa using hb)
  unfold or32
  rw [h4, h5]
  exact (congrArg (fun n : Nat => IntKind.u32.wrap (n : Int)) h6).trans (wrap_u32_small h7)
theorem shl1_nat {k : Nat} (hk : k < 32) : shl1 k = ((2 ^ k : Nat) : Int) := by
  have e1 : min k IntKind.u32.bits = k := by simp [IntKind.bits]; omega
  unfold shl1
  rw [e1, Int.one_mul]
  have h2 : (2 : Int) ^ k = ((2 ^ k : Nat) : Int) := by simp
  rw [h2]
  exact wrap_u32_small (Nat.pow_lt_pow_right (by omega) hk)
theorem getD_out (l : List Int) (d : Int) {q : Nat} (h : l.length ≤ q) : l.getD q d = d := by simp [List.getD, List.getElem?_eq_none h]
def nz (l : List Int) : Prop := l.length = 0 ∨ l.getD (l.length - 1) 0 ≠ 0
theorem eq_of_getD {l l' : List Int} (h : ∀ q, l.getD q 0 = l'.getD q 0) (hl : nz l) (hl' : nz l') : l = l' := by
  have e : l.length = l'.length := by
    rcases Nat.lt_trichotomy l.length l'.length with hlt | heq | hgt
    · rcases hl' with h0 | h0
      · omega
      · exact absurd (by rw [← h, getD_out _ _ (by omega)]) h0
    · exact heq
    · rcases hl with h0 | h0
      · omega
      · exact absurd (by rw [h, getD_out _ _ (by omega)]) h0
  apply List.ext_getElem e
  intro i h1 h2
  have := h i
  simpa [List.getD, h1, h2] using this
theorem snocInd {P : List Int → Prop} (h0 : P []) (h1 : ∀ m x, P m → P (m ++ [x])) (m : List Int) : P m := by
  have : ∀ r : List Int, P r.reverse := by
    intro r
    induction r with
    | nil => exact h0
    | cons x r ih => rw [List.reverse_cons]; exact h1 _ _ ih
  simpa using this m.reverse
theorem trimL_getD (m : List Int) : ∀ q, (trimL m).getD q 0 = m.getD q 0 := by
  refine snocInd (P := fun m => ∀ q, (trimL m).getD q 0 = m.getD q 0) (fun _ => rfl) ?_ m
  intro m x ih q
  rw [trimL_snoc]
  split
  · next hx =>
    rw [ih, hx]
    rcases Nat.lt_trichotomy q m.length with h | h | h
    · simp [List.getD, List.getElem?_append_left h]
    · subst h; simp [List.getD]
    · simp [List.getD, List.getElem?_eq_none (show m.length ≤ q by omega), List.getElem?_eq_none (show (m ++ [0]).length ≤ q by simp; omega)]
  · rfl
theorem trimL_prefix (m : List Int) : trimL m <+: m := by
  refine snocInd (P := fun m => trimL m <+: m) (List.nil_prefix) ?_ m
  intro m x ih
  rw [trimL_snoc]
  split
  · exact ih.trans (List.prefix_append _ _)
  · exact List.prefix_refl _
theorem trimL_nz (m : List Int) : nz (trimL m) := by
  refine snocInd (P := fun m => nz (trimL m)) (Or.inl rfl) ?_ m
  intro m x ih
  rw [trimL_snoc]
  split
  · exact ih
  · next hx =>
    refine Or.inr ?_
    simpa [List.getD] using hx
theorem limbK_bits (b : List Int) : ∀ i q, ∃ N : Nat, (limbK b i).getD q 0 = (N : Int) ∧ N < 4294967296 ∧ ∀ r, r < 32 → N.testBit r = (decide (32 * q + r < i) && decide (b.getD (32 * q + r) 0 = 1))
  | 0, q => ⟨0, rfl, by omega, fun r _ => by simp⟩
  | i + 1, q => by
    obtain ⟨N, hN, hlt, hb⟩ := limbK_bits b i q
    have hlen := limbK_length b i
    have hP : (limbPush (limbK b i) i).getD q 0 = (N : Int) := by
      rw [← hN]
      unfold limbPush
      split
      · rcases Nat.lt_trichotomy q (limbK b i).length with h | h | h
        · simp [List.getD, List.getElem?_append_left h]
        · subst h; simp [List.getD]
        · simp [List.getD, List.getElem?_eq_none (show (limbK b i).length ≤ q by omega), List.getElem?_eq_none (show (limbK b i ++ [0]).length ≤ q by simp; omega)]
      · rfl
    have hPl : i / 32 < (limbPush (limbK b i) i).length := by
      unfold limbPush
      split
      · simp; omega
      · omega
    rw [limbK]
    generalize limbPush (limbK b i) i = a at hP hPl
    unfold limbBit
    by_cases hx : b.getD i 0 = 1
    · rw [if_pos hx]
      by_cases hq : i / 32 = q
      · subst hq
        refine ⟨N ||| 2 ^ (i % 32), ?_, ?_, ?_⟩
        · have hg : a.getD (i / 32) 0 = (N : Int) := hP
          have : (a.set (i / 32) (or32 (a.getD (i / 32) 0) (shl1 (i % 32)))).getD (i / 32) 0 = or32 (a.getD (i / 32) 0) (shl1 (i % 32)) := by simp [List.getD, hPl]
          rw [this, hg, shl1_nat (by omega), or32_nat hlt (Nat.pow_lt_pow_right (by omega) (show i % 32 < 32 by omega))]
        · exact Nat.or_lt_two_pow (n := 32) (by simpa using hlt) (Nat.pow_lt_pow_right (by omega) (by omega))
        · intro r hr
          rw [Nat.testBit_or, hb r hr, Nat.testBit_two_pow]
          by_cases he : i % 32 = r
          · have : 32 * (i / 32) + r = i := by omega
            rw [this, hx]
            simp [he]
          · have h2 : (32 * (i / 32) + r < i + 1) ↔ (32 * (i / 32) + r < i) := by omega
            simp [he, h2]
      · refine ⟨N, ?_, hlt, ?_⟩
        · rw [← hP]
          simp [List.getD, List.getElem?_set_ne hq]
        · intro r hr
          rw [hb r hr]
          have h2 : (32 * q + r < i + 1) ↔ (32 * q + r < i) := by omega
          simp [h2]
    · rw [if_neg hx]
      refine ⟨N, hP, hlt, ?_⟩
      intro r hr
      rw [hb r hr]
      by_cases he : 32 * q + r = i
      · rw [he, decide_eq_false hx]; simp
      · have h2 : (32 * q + r < i + 1) ↔ (32 * q + r < i) := by omega
        simp [h2]
theorem bitsOf_getD : ∀ (m : List Int) (q r : Nat), r < 32 → (bitsOf m).getD (32 * q + r) 0 = if q < m.length then bitAt (m.getD q 0) r else 0
  | [], q, r, _ => rfl
  | x :: m, 0, r, hr => by
    have e : bitsOf (x :: m) = wordB x ++ bitsOf m := rfl
    have hl := wordB_length x
    rw [e]
    have : wordB x = (List.range 32).map (bitAt x) := rfl
    simp only [List.getD, List.length_cons, Nat.zero_lt_succ, if_true, Nat.mul_zero, Nat.zero_add]
    rw [List.getElem?_append_left (by omega), this]
    simp [hr]
  | x :: m, q + 1, r, hr => by
    have e : bitsOf (x :: m) = wordB x ++ bitsOf m := rfl
    have hl := wordB_length x
    have ih := bitsOf_getD m q r hr
    rw [e]
    simp only [List.getD] at ih ⊢
    rw [List.getElem?_append_right (by omega), hl, show 32 * (q + 1) + r - 32 = 32 * q + r by omega, ih]
    simp
theorem limbs_back {m : List Int} (hm : ∀ x ∈ m, u32ok x) : limbK (trimL (bitsOf m)) (trimL (bitsOf m)).length = trimL m := by
  have hbz := trimL_nz (bitsOf m)
  have hbg := trimL_getD (bitsOf m)
  generalize trimL (bitsOf m) = b at hbz hbg
  refine eq_of_getD ?_ ?_ (trimL_nz m)
  · intro q
    obtain ⟨N, hN, hlt, hb⟩ := limbK_bits b b.length q
    rw [hN, trimL_getD]
    by_cases hq : q < m.length
    · have hxm : m.getD q 0 = m[q] := by simp [List.getD, hq]
      have hx : u32ok m[q] := hm _ (List.getElem_mem hq)
      obtain ⟨n, hn⟩ := Int.eq_ofNat_of_zero_le hx.1
      rw [hxm, hn]
      have hn2 : n < 4294967296 := by have := hx.2; omega
      congr 1
      apply Nat.eq_of_testBit_eq
      intro r
      by_cases hr : r < 32
      · rw [hb r hr]
        have h1 : b.getD (32 * q + r) 0 = bitAt (n : Int) r := by rw [hbg, bitsOf_getD m q r hr, if_pos hq, hxm, hn]
        rw [h1, bitAt_nat hn2 r hr]
        by_cases hin : 32 * q + r < b.length
        · by_cases ht : n.testBit r = true <;> simp [hin, ht]
        · rw [getD_out _ _ (by omega), bitAt_nat hn2 r hr] at h1
          by_cases ht : n.testBit r = true
          · rw [if_pos ht] at h1; cases h1
          · simp [ht]
      · have h3 : 4294967296 ≤ 2 ^ r := Nat.pow_le_pow_right (n := 2) (by omega) (show 32 ≤ r by omega)
        rw [Nat.testBit_lt_two_pow (Nat.lt_of_lt_of_le hlt h3), Nat.testBit_lt_two_pow (Nat.lt_of_lt_of_le hn2 h3)]
    · rw [getD_out m 0 (by omega)]
      have : N = 0 := by
        apply Nat.eq_of_testBit_eq
        intro r
        by_cases hr : r < 32
        · rw [hb r hr, hbg, bitsOf_getD m q r hr, if_neg hq]
          simp
        · have h3 : 4294967296 ≤ 2 ^ r := Nat.pow_le_pow_right (n := 2) (by omega) (show 32 ≤ r by omega)
          rw [Nat.testBit_lt_two_pow (Nat.lt_of_lt_of_le hlt h3), Nat.zero_testBit]
      rw [this]; rfl
  · have hK := limbK_length b b.length
    rcases hbz with h0 | h0
    · left; omega
    · by_cases hb0 : b.length = 0
      · left; omega
      · right
        rw [hK]
        obtain ⟨N, hN, hlt, hb⟩ := limbK_bits b b.length ((b.length + 31) / 32 - 1)
        have hr : (b.length - 1) % 32 < 32 := by omega
        have hx := hb _ hr
        have he : 32 * ((b.length + 31) / 32 - 1) + (b.length - 1) % 32 = b.length - 1 := by omega
        have h1 : b.getD (b.length - 1) 0 = 1 := by
          have h2 := h0
          rw [hbg] at h2 ⊢
          have h4 : b.length - 1 = 32 * ((b.length - 1) / 32) + (b.length - 1) % 32 := by omega
          rw [h4, bitsOf_getD m _ _ hr] at h2 ⊢
          split at h2
          · next hq =>
            rw [if_pos hq]
            have hxm : m.getD ((b.length - 1) / 32) 0 = m[(b.length - 1) / 32] := by simp [List.getD, hq]
            have hx : u32ok m[(b.length - 1) / 32] := hm _ (List.getElem_mem hq)
            obtain ⟨n, hn⟩ := Int.eq_ofNat_of_zero_le hx.1
            rw [hxm, hn] at h2 ⊢
            have hn2 : n < 4294967296 := by have := hx.2; omega
            have e := bitAt_nat hn2 _ hr
            have e' : bitAt (n : Int) ((b.length - 1) % 32) = if n.testBit ((b.length - 1) % 32) then 1 else 0 := e
            rw [e'] at h2 ⊢
            split
            · rfl
            · next hh => rw [if_neg hh] at h2; exact absurd rfl h2
          · exact absurd rfl h2
        rw [he, h1] at hx
        have h5 : b.length - 1 < b.length := by omega
        simp [h5] at hx
        rw [hN]
        intro hc
        have : N = 0 := by omega
        rw [this] at hx
        simp at hx
theorem limbs_len {m : List Int} (hm : ∀ x ∈ m, u32ok x) : (1536 < (trimL (bitsOf m)).length) ↔ (48 < (trimL m).length) := by
  have h := congrArg List.length (limbs_back hm)
  rw [limbK_length] at h
  omega
end Go.Sy

/- Plain words: the runes of a text. -/
set_option linter.unusedVariables false
namespace Go.Sy
open Go.Lib
def posR (s : ByteArray) : Nat → Nat
  | 0 => 0
  | j + 1 => posR s j + (Utf8.decode s (posR s j)).2
def runeR (s : ByteArray) : Nat → List Int
  | 0 => []
  | j + 1 => runeR s j ++ [((Utf8.decode s (posR s j)).1 : Int)]
def badAt (s : ByteArray) (p : Nat) : Prop := (Utf8.decode s p).1 = 65533 ∧ (Utf8.decode s p).2 = 1
/-- So many runes are well. -/
def okR (s : ByteArray) (j : Nat) : Prop := ∀ i, i < j → posR s i < s.size ∧ ¬ badAt s (posR s i)
theorem runeR_length (s : ByteArray) : ∀ j, (runeR s j).length = j
  | 0 => rfl
  | j + 1 => by simp [runeR, runeR_length s j]
theorem posR_ge (s : ByteArray) : ∀ j, j ≤ posR s j
  | 0 => Nat.le_refl _
  | j + 1 => by have := posR_ge s j; have := width_pos s (posR s j); simp only [posR]; omega
theorem dec_fits (s : ByteArray) {p : Nat} (h : p < s.size) : p + (Utf8.decode s p).2 ≤ s.size := by
  rw [decode_at]
  unfold decodeN
  repeat' split
  all_goals (simp only; omega)
theorem posR_le {s : ByteArray} : ∀ {j}, okR s j → posR s j ≤ s.size
  | 0, _ => Nat.zero_le _
  | j + 1, h => dec_fits s (h j (by omega)).1
theorem okR_succ {s : ByteArray} {j : Nat} (h : okR s j) (hp : posR s j < s.size) (hb : ¬ badAt s (posR s j)) : okR s (j + 1) := by
  intro i hi
  rcases Nat.lt_or_ge i j with h1 | h1
  · exact h i h1
  · have : i = j := by omega
    subst this; exact ⟨hp, hb⟩
theorem sz_list (s : ByteArray) : s.data.toList.length = s.size := rfl
theorem valid_at {s : ByteArray} : ∀ {j}, okR s j → validD s.data.toList = validD (s.data.toList.drop (posR s j))
  | 0, _ => by simp [posR]
  | j + 1, h => by
    have h0 : okR s j := fun i hi => h i (by omega)
    rw [valid_at h0]
    have hj := h j (by omega)
    have hne : s.data.toList.drop (posR s j) ≠ [] := by
      intro he
      have := congrArg List.length he
      rw [List.length_drop, sz_list] at this
      simp at this
      have := hj.1
      omega
    rw [validD_step _ hne, decodeL_drop, if_neg (show ¬ (_ ∧ _) from hj.2), List.drop_drop]
    rfl
theorem valid_bad {s : ByteArray} {j : Nat} (h : okR s j) (hp : posR s j < s.size) (hb : badAt s (posR s j)) : validD s.data.toList = false := by
  rw [valid_at h]
  have hne : s.data.toList.drop (posR s j) ≠ [] := by
    intro he
    have := congrArg List.length he
    rw [List.length_drop, sz_list] at this
    simp at this
    omega
  rw [validD_step _ hne, decodeL_drop, if_pos (show _ ∧ _ from hb)]
theorem valid_end {s : ByteArray} {j : Nat} (h : okR s j) (hp : posR s j = s.size) : validD s.data.toList = true := by
  rw [valid_at h, hp]
  have : s.data.toList.drop s.size = [] := by apply List.drop_eq_nil_of_le; rw [sz_list]; exact Nat.le_refl _
  rw [this]; rfl
theorem count_at {s : ByteArray} : ∀ {j}, okR s j → j ≤ s.size ∧ runeCount s = j + runeCountFrom s (s.size - j) (posR s j)
  | 0, _ => ⟨Nat.zero_le _, by simp [posR, runeCount]⟩
  | j + 1, h => by
    have h0 : okR s j := fun i hi => h i (by omega)
    obtain ⟨h1, h2⟩ := count_at h0
    have hj := (h j (by omega)).1
    have := posR_ge s j
    refine ⟨by omega, ?_⟩
    rw [h2]
    obtain ⟨n, hn⟩ : ∃ n, s.size - j = n + 1 := ⟨s.size - j - 1, by omega⟩
    rw [hn, runeCountFrom, if_pos hj, show s.size - (j + 1) = n by omega]
    simp only [posR]
    omega
theorem count_end {s : ByteArray} {j : Nat} (h : okR s j) (hp : posR s j = s.size) : runeCount s = j := by
  obtain ⟨_, h2⟩ := count_at h
  rw [h2, runeCountFrom_end _ _ _ (by omega)]; rfl
def runesOf (s : ByteArray) : List Int := if validD s.data.toList then runeR s (runeCount s) else []
theorem runesOf_end {s : ByteArray} {j : Nat} (h : okR s j) (hp : posR s j = s.size) : runesOf s = runeR s j := by
  unfold runesOf; rw [valid_end h hp, count_end h hp]; rfl
theorem runesOf_bad {s : ByteArray} {j : Nat} (h : okR s j) (hp : posR s j < s.size) (hb : badAt s (posR s j)) : runesOf s = [] := by
  unfold runesOf; rw [valid_bad h hp hb]; rfl
/-! ### one rune -/
def bN (s : ByteArray) (p : Nat) : Nat := (s.get! p).toNat
theorem bN_lt (s : ByteArray) (p : Nat) : bN s p < 256 := UInt8.toNat_lt _
def accN (s : ByteArray) (p : Nat) (r0 : Nat) : Nat → Nat
  | 0 => r0
  | j + 1 => accN s p r0 j * 64 + bN s (p + j + 1) % 64
theorem accN_lt (s : ByteArray) (p : Nat) {r0 : Nat} (h : r0 < 32) : ∀ j, accN s p r0 j < 32 * 64 ^ j
  | 0 => by simpa [accN] using h
  | j + 1 => by have := accN_lt s p h j; simp only [accN, Nat.pow_succ]; omega
def lead (n b : Nat) : Nat := if n = 2 then b % 32 else if n = 3 then b % 16 else b % 8
def leadOK (n b : Nat) : Prop := (n = 2 ∧ 194 ≤ b ∧ b < 224) ∨ (n = 3 ∧ 224 ≤ b ∧ b < 240) ∨ (n = 4 ∧ 240 ≤ b ∧ b < 245)
theorem decode_b (s : ByteArray) (p : Nat) : Utf8.decode s p = decodeN (s.size - p) (bN s p) (bN s (p + 1)) (bN s (p + 2)) (bN s (p + 3)) := decode_at s p
theorem dec_one {s : ByteArray} {p : Nat} (h : bN s p < 128) : Utf8.decode s p = (bN s p, 1) := by
  rw [decode_b, decodeN, if_pos h]
theorem bad_one {s : ByteArray} {p : Nat} (h : bN s p < 128) : ¬ badAt s p := by
  unfold badAt; rw [dec_one h]; simp only; omega
theorem bad_lead {s : ByteArray} {p : Nat} (h1 : 128 ≤ bN s p) (h2 : bN s p < 194 ∨ 245 ≤ bN s p) : badAt s p := by
  have hb := bN_lt s p
  unfold badAt
  rw [decode_b]
  generalize bN s p = b0 at *
  generalize bN s (p + 1) = b1
  generalize bN s (p + 2) = b2
  generalize bN s (p + 3) = b3
  unfold decodeN
  repeat' split
  all_goals first | (exfalso; omega) | exact ⟨rfl, rfl⟩ | (simp only; omega)
theorem bad_short {s : ByteArray} {p n : Nat} (h : leadOK n (bN s p)) (h2 : s.size < p + n) : badAt s p := by
  unfold badAt leadOK at *
  rw [decode_b]
  generalize bN s p = b0 at *
  generalize bN s (p + 1) = b1
  generalize bN s (p + 2) = b2
  generalize bN s (p + 3) = b3
  unfold decodeN
  repeat' split
  all_goals first | (exfalso; omega) | exact ⟨rfl, rfl⟩ | (simp only; omega)
theorem bad_cont {s : ByteArray} {p n j : Nat} (h : leadOK n (bN s p)) (hj : j + 1 < n) (hc : ¬ bN s (p + j + 1) / 64 = 2) : badAt s p := by
  have hj3 : j = 0 ∨ j = 1 ∨ j = 2 := by unfold leadOK at h; omega
  unfold badAt leadOK at *
  rw [decode_b]
  have e1 : p + 0 + 1 = p + 1 := rfl
  have e2 : p + 1 + 1 = p + 2 := rfl
  have e3 : p + 2 + 1 = p + 3 := rfl
  rcases hj3 with rfl | rfl | rfl <;> simp only [e1, e2, e3] at hc <;>
  (generalize bN s p = b0 at *; generalize bN s (p + 1) = b1 at *; generalize bN s (p + 2) = b2 at *; generalize bN s (p + 3) = b3 at *; unfold decodeN; repeat' split) <;>
  first | (exfalso; omega) | exact ⟨rfl, rfl⟩ | (simp only; omega)
def runeOK (n r : Nat) : Prop := ¬ (n = 3 ∧ r < 2048) ∧ ¬ (n = 4 ∧ r < 65536) ∧ (r < 55296 ∨ 57343 < r) ∧ r ≤ 1114111
theorem lead2 (b : Nat) : lead 2 b = b % 32 := rfl
theorem lead3 (b : Nat) : lead 3 b = b % 16 := rfl
theorem lead4 (b : Nat) : lead 4 b = b % 8 := rfl
theorem acc2 (s : ByteArray) (p r : Nat) : accN s p r (2 - 1) = r * 64 + bN s (p + 1) % 64 := rfl
theorem acc3 (s : ByteArray) (p r : Nat) : accN s p r (3 - 1) = (r * 64 + bN s (p + 1) % 64) * 64 + bN s (p + 2) % 64 := rfl
theorem acc4 (s : ByteArray) (p r : Nat) : accN s p r (4 - 1) = ((r * 64 + bN s (p + 1) % 64) * 64 + bN s (p + 2) % 64) * 64 + bN s (p + 3) % 64 := rfl
theorem dec_more {s : ByteArray} {p n : Nat} (h : leadOK n (bN s p)) (h2 : p + n ≤ s.size) (hc : ∀ j, j + 1 < n → bN s (p + j + 1) / 64 = 2) :
    (runeOK n (accN s p (lead n (bN s p)) (n - 1)) → Utf8.decode s p = (accN s p (lead n (bN s p)) (n - 1), n)) ∧ (¬ runeOK n (accN s p (lead n (bN s p)) (n - 1)) → badAt s p) := by
  have hb1 := bN_lt s (p + 1)
  have hb2 := bN_lt s (p + 2)
  have hb3 := bN_lt s (p + 3)
  unfold badAt
  rw [decode_b]
  unfold leadOK at h
  rcases h with ⟨rfl, ha, hb⟩ | ⟨rfl, ha, hb⟩ | ⟨rfl, ha, hb⟩
  · have c1 : bN s (p + 1) / 64 = 2 := hc 0 (by omega)
    rw [acc2, lead2]
    generalize bN s p = b0 at *; generalize bN s (p + 1) = b1 at *; generalize bN s (p + 2) = b2 at *; generalize bN s (p + 3) = b3 at *
    unfold decodeN runeOK
    constructor <;> intro hr <;> (repeat' split) <;> first | (exfalso; omega) | exact ⟨rfl, rfl⟩ | rfl | (apply Prod.ext <;> simp only <;> omega)
  · have c1 : bN s (p + 1) / 64 = 2 := hc 0 (by omega)
    have c2 : bN s (p + 2) / 64 = 2 := hc 1 (by omega)
    rw [acc3, lead3]
    generalize bN s p = b0 at *; generalize bN s (p + 1) = b1 at *; generalize bN s (p + 2) = b2 at *; generalize bN s (p + 3) = b3 at *
    unfold decodeN runeOK
    constructor <;> intro hr <;> (repeat' split) <;> first | (exfalso; omega) | exact ⟨rfl, rfl⟩ | rfl | (apply Prod.ext <;> simp only <;> omega)
  · have c1 : bN s (p + 1) / 64 = 2 := hc 0 (by omega)
    have c2 : bN s (p + 2) / 64 = 2 := hc 1 (by omega)
    have c3 : bN s (p + 3) / 64 = 2 := hc 2 (by omega)
    rw [acc4, lead4]
    generalize bN s p = b0 at *; generalize bN s (p + 1) = b1 at *; generalize bN s (p + 2) = b2 at *; generalize bN s (p + 3) = b3 at *
    unfold decodeN runeOK
    constructor <;> intro hr <;> (repeat' split) <;> first | (exfalso; omega) | exact ⟨rfl, rfl⟩ | rfl | (apply Prod.ext <;> simp only <;> omega)
end Go.Sy

/- Plain words: bytes of a text as ints; rows of runes. -/
set_option linter.unusedVariables false
namespace Go.Sy
def encI (k : IntKind) (l : List Int) : List AV := l.map fun n => .v (.int k n)
theorem encI_length (k : IntKind) (l : List Int) : (encI k l).length = l.length := by simp [encI]
theorem encI_snoc (k : IntKind) (l : List Int) (x : Int) : encI k (l ++ [x]) = encI k l ++ [.v (.int k x)] := by simp [encI]
theorem encI_get {k : IntKind} {l : List Int} {j : Nat} (h : j < l.length) : (encI k l).getD j dflt = .v (.int k l[j]) := by simp [encI, h]
theorem allSz_encI (k : IntKind) : ∀ l : List Int, allSz 1 (encI k l) = true
  | [] => rfl
  | x :: r => by
    have : encI k (x :: r) = .v (.int k x) :: encI k r := rfl
    simp [this, allSz, AV.one, Value.oneCell', AV.cells, allSz_encI k r]
theorem hdOK_encI (k : IntKind) (l : List Int) : hdOK 1 (encI k l) = true := hdOK_all (allSz_encI k l)
theorem bt_bN (s : ByteArray) {p : Nat} (h : p < s.size) : bt s p = (bN s p : Int) := by
  unfold bt bN
  congr 2
  have h2 : p < s.data.toList.length := h
  simp only [List.getD, List.getElem?_eq_getElem h2, ByteArray.get!, Option.getD]
  rw [getElem!_pos s.data p h]
  rfl
theorem wrap_i32_small {n : Nat} (h : n < 2147483648) : IntKind.i32.wrap (n : Int) = n := by simp [IntKind.wrap, IntKind.bits, IntKind.signed]; omega
def andK (k : IntKind) (a b : Int) : Int := k.wrap (BitVec.ofInt k.bits a &&& BitVec.ofInt k.bits b).toNat
def orK (k : IntKind) (a b : Int) : Int := k.wrap (BitVec.ofInt k.bits a ||| BitVec.ofInt k.bits b).toNat
theorem and_tab : ∀ b : Fin 256, andK .u8 (b.1 : Int) 63 = ((b.1 % 64 : Nat) : Int) ∧ (andK .u8 (b.1 : Int) 192 != 128) = !decide (b.1 / 64 = 2) ∧ andK .i32 (b.1 : Int) 31 = ((b.1 % 32 : Nat) : Int) ∧ andK .i32 (b.1 : Int) 15 = ((b.1 % 16 : Nat) : Int) ∧ andK .i32 (b.1 : Int) 7 = ((b.1 % 8 : Nat) : Int) := by decide +kernel
theorem and63 {b : Nat} (h : b < 256) : andK .u8 (b : Int) 63 = ((b % 64 : Nat) : Int) := (and_tab ⟨b, h⟩).1
theorem and192 {b : Nat} (h : b < 256) : (andK .u8 (b : Int) 192 != 128) = !decide (b / 64 = 2) := (and_tab ⟨b, h⟩).2.1
theorem and31 {b : Nat} (h : b < 256) : andK .i32 (b : Int) 31 = ((b % 32 : Nat) : Int) := (and_tab ⟨b, h⟩).2.2.1
theorem and15 {b : Nat} (h : b < 256) : andK .i32 (b : Int) 15 = ((b % 16 : Nat) : Int) := (and_tab ⟨b, h⟩).2.2.2.1
theorem and7 {b : Nat} (h : b < 256) : andK .i32 (b : Int) 7 = ((b % 8 : Nat) : Int) := (and_tab ⟨b, h⟩).2.2.2.2
theorem or_six {a b : Nat} (ha : a < 33554432) (hb : b < 64) : orK .i32 (IntKind.i32.wrap ((a : Int) * 2 ^ min (Int.toNat 6) IntKind.i32.bits)) (b : Int) = ((a * 64 + b : Nat) : Int) := by
  have e0 : (a : Int) * 2 ^ min (Int.toNat 6) IntKind.i32.bits = ((a * 64 : Nat) : Int) := by
    have : (2 : Int) ^ min (Int.toNat 6) IntKind.i32.bits = 64 := rfl
    rw [this]; omega
  rw [e0, wrap_i32_small (by omega)]
  have h4 : BitVec.ofInt IntKind.i32.bits ((a * 64 : Nat) : Int) = BitVec.ofNat 32 (a * 64) := BitVec.ofInt_natCast 32 _
  have h5 : BitVec.ofInt IntKind.i32.bits (b : Int) = BitVec.ofNat 32 b := BitVec.ofInt_natCast 32 b
  have h6 : (BitVec.ofNat 32 (a * 64) ||| BitVec.ofNat 32 b).toNat = a * 64 + b := by
    rw [BitVec.toNat_or, BitVec.toNat_ofNat, BitVec.toNat_ofNat, Nat.mod_eq_of_lt (by simp; omega), Nat.mod_eq_of_lt (by simp; omega)]
    have := Nat.shiftLeft_add_eq_or_of_lt (i := 6) (by simpa using hb) a
    rw [Nat.shiftLeft_eq] at this
    exact this.symm
  unfold orK
  rw [h4, h5]
  exact (congrArg (fun n : Nat => IntKind.i32.wrap (n : Int)) h6).trans (wrap_i32_small (by omega))
theorem sInt_add (k : IntKind) (a b : Int) : sInt .add k a b = some (true, .int k (k.wrap (a + b))) := rfl
theorem sInt_sub (k : IntKind) (a b : Int) : sInt .sub k a b = some (true, .int k (k.wrap (a - b))) := rfl
theorem sInt_mul (k : IntKind) (a b : Int) : sInt .mul k a b = some (true, .int k (k.wrap (a * b))) := rfl
theorem sInt_eql (k : IntKind) (a b : Int) : sInt .eql k a b = some (true, .bool (a == b)) := rfl
theorem sInt_neq (k : IntKind) (a b : Int) : sInt .neq k a b = some (true, .bool (a != b)) := rfl
theorem sInt_lss (k : IntKind) (a b : Int) : sInt .lss k a b = some (true, .bool (decide (a < b))) := rfl
theorem sInt_leq (k : IntKind) (a b : Int) : sInt .leq k a b = some (true, .bool (decide (a ≤ b))) := rfl
theorem sInt_gtr (k : IntKind) (a b : Int) : sInt .gtr k a b = some (true, .bool (decide (a > b))) := rfl
theorem sInt_geq (k : IntKind) (a b : Int) : sInt .geq k a b = some (true, .bool (decide (a ≥ b))) := rfl
theorem sInt_and (k : IntKind) (a b : Int) : sInt .and k a b = some (true, .int k (andK k a b)) := rfl
theorem sInt_or (k : IntKind) (a b : Int) : sInt .or k a b = some (true, .int k (orK k a b)) := rfl
theorem sInt_quo (k : IntKind) (a b : Int) : sInt .quo k a b = some (decide (b ≠ 0), .int k (k.wrap (a.tdiv b))) := rfl
theorem sInt_rem (k : IntKind) (a b : Int) : sInt .rem k a b = some (decide (b ≠ 0), .int k (a.tmod b)) := rfl
end Go.Sy

/- Contracts of the program's functions over abstract values. By gen.py. -/
set_option linter.unusedVariables false
set_option linter.unusedSimpArgs false
set_option maxRecDepth 100000
set_option maxHeartbeats 4000000
namespace Go.Sy
open Go.Proofs
attribute [local go_sem] runO_t runO_f band_t band_f bor_t bor_f bnot_t bnot_f gdK_tt gdK_ff gdK_tf gdK_ft brK_t brK_f runE_some runF_some runA_some runG_some runB_some runX_some runR_some run_nil run_skip run_seq run_region run_block run_blk run_exit run_cond run_ret run_loop run_lp run_opsNil run_opsOrd run_opsOp run_opsGuard run_cl run_gd run_br run_fin run_clx run_fst run_callf runY_t runY_f runS_some runV_t runV_f aBuildK_t aBuildK_f Mode.plain run_move run_nilCheck run_assign run_pick run_alloc run_box run_build run_buildSlice run_load run_store run_binOp run_unOp run_convert run_slice run_fieldAddr run_indexAddr run_index run_field run_extract run_makeInterface run_makeFunc run_len run_max run_min run_append St.ev St.evl St.evs St.evo capsOf callOf look drop put putAll toTV_nil toTV_int toTV_bool toTV_str toTV_ptr toTV_ifc toTV_fn toAV_nil toAV_int toAV_bool toAV_str toAV_ptr toAV_ifc toAV_fn aAssign_nil aAssign_tmp aAssign_int aAssign_bool aAssign_str aAssign_ptr aAssign_nilf aAssign_ifc aAssign_func aAssign_glob nilConst_slice nilConst_ptr nilConst_ifc nilConst_tmp plain Option.bind TV.cells TV.one AVone_v AVone_sl AVone_agg AVone_ref AVone_fn AVone_ifc AVone_sent Value.oneCell' oneVs avOf avsOf expo expos expoC exposC TV.isC allC fillsT aBuildT lendR ren renT0 renC renT renO renW xFoot xSt newIds retX retXs isT0 asList List.map St.app setD St.setT ownD trA effFoot callFoot callSt callReq St.fresh freshT freshO allFresh TV.ment TVs.ment SObj.ment fsts mentW noFoot List.contains List.elem aPick aAlloc aBox aBuild aBuildSlice nonNil allSz aUn aConv aField aIndex aByte aPart aExtract aIface aFunc aLen ty1 aMax aApp aAppend aCheck emptyL aSlice okHd hdOK_nil hdOK_cons aLoad aStore aBin aNil sBin sInt isSh sameSh nilness fills fillAt fillTV putCells intOf? mkInt AVcells_v AVcells_sl AVcells_agg AVcells_ref AVcells_fn AVcells_ifc AVcells_sent St.g0 St.g guardOf guardOff udf argsOf lends lendBox bindRes bindR bindRs flatR flatV boolOf retItems retItems0 retItem rowsOf disjB ownIds resIds nodupB St.init initT popTo cond_true cond_false Option.getD Option.map List.take List.drop List.length List.zip List.zipWith List.range List.range.loop List.append List.foldr List.nil_append List.cons_append List.append_nil List.getElem?_cons_zero List.getElem?_cons_succ GetElem?.getElem? List.get?Internal Int.toNat_natCast cst0 cst1 cst2 cst3 cst4 cst5 cst6 cst7 cst8 cst9 cst10 cst11 toNat0 toNat1 toNat2 toNat3 getD0 getD1 getD2 getD3 run_zero memN keepT dropO St.re leT leO D_q2  D_q3  D_q4  D_q5  D_q9  D_q12  D_q21  D_q22  D_q24  D_q25  D_q27  D_q28  D_q32  D_q46  D_q48  D_q50  D_q52  D_q53  D_q54  D_q56  D_q57  D_q61  D_q70  D_q72  D_q76  D_q77  D_q79  D_q80  D_q83  D_q85  D_q91  D_q93  D_q104  D_q108  D_q115  D_q118  D_q121  D_q134  D_q136  D_q137
section
variable {W0 : World} {κ : Nat → Addr} {GG : Nat → Option AV}

theorem D_rcut (m : List Int) (hm : m.length < 1099511627776) : Sound (CD W0 κ GG) 103 [.sl (encB m)] [.av (.sl (encB (trimL m)))] := by
  have hl := encB_length m
  (refine Sound.of_go D_ok D_mix Tryd.func103 rfl (by decide) (by kernel_rfl) (GC.go ?_); refine GC_run2 4000 ?_; dsimp only [Tryd.f103, CD, go_sem, Nat.reduceBEq, Nat.reduceAdd, Nat.reduceMul, Nat.reduceSub, Int.reduceBEq, Int.reduceBNe, Int.reduceAdd, Int.reduceSub, Int.reduceMul, Int.reduceToNat, Int.reduceNeg, encD])
  refine GC.loopR (by first | rfl | (simp; done) | (simp [hdOK_encB, allSz_encB, encB_length, hdOK_encU, hdOK_encL, allSz_encU, allSz_encL, encU_length, encL_length, encD_one, encD_cells, AVone_v, AVone_sl, AVone_agg, AVone_ref, AVone_fn, AVone_ifc, AVcells_v, AVcells_sl, AVcells_agg, AVcells_ref, AVcells_fn, AVcells_ifc, Value.oneCell', allSz]; done) | (simp [hdOK_encB, allSz_encB, encB_length, hdOK_encU, hdOK_encL, allSz_encU, allSz_encL, encU_length, encL_length, encD_one, encD_cells, AVone_v, AVone_sl, AVone_agg, AVone_ref, AVone_fn, AVone_ifc, AVcells_v, AVcells_sl, AVcells_agg, AVcells_ref, AVcells_fn, AVcells_ifc, Value.oneCell', allSz]; omega)) m.length [0] (fun j => [(3, .av (.v (.int .i64 ((m.length : Int) - j))))]) (fun j => []) (fun j => trimL (m.take (m.length - j)) = trimL m) ⟨?_, trivial⟩ trivial (by simp) (fun j hj hI => ?_)
  · simp [look, hl]
  rcases Nat.lt_or_ge j m.length with hlt | hge
  · have hd : decide ((m.length : Int) - j > 0) = true := by simp; omega
    have hw : IntKind.i64.wrap ((m.length : Int) - j - 1) = ((m.length - 1 - j : Nat) : Int) := by rw [wrap_i64 (by omega) (by omega)]; omega
    have hx : (encB m).getD (m.length - 1 - j) dflt = _ := encB_get (by omega)
    have hst := trim_step hlt hI
    have hsp := trim_stop hlt hI
    generalize m[m.length - 1 - j] = x at hx hst hsp
    (refine GC_run2 4000 ?_; dsimp only [go_sem, Nat.reduceBEq, Nat.reduceAdd, Nat.reduceMul, Nat.reduceSub, Int.reduceBEq, Int.reduceBNe, Int.reduceAdd, Int.reduceSub, Int.reduceMul, Int.reduceToNat, Int.reduceNeg])
    (repeat (simp only [hd, hw, hx]; try (dsimp only [go_sem, Nat.reduceBEq, Nat.reduceAdd, Nat.reduceMul, Nat.reduceSub, Int.reduceBEq, Int.reduceBNe, Int.reduceAdd, Int.reduceSub, Int.reduceMul, Int.reduceToNat, Int.reduceNeg])))
    (refine GC_brK (fun h => ?_) (fun h => ?_) <;> (dsimp only [go_sem, Nat.reduceBEq, Nat.reduceAdd, Nat.reduceMul, Nat.reduceSub, Int.reduceBEq, Int.reduceBNe, Int.reduceAdd, Int.reduceSub, Int.reduceMul, Int.reduceToNat, Int.reduceNeg]))
    · (refine GC.backR (by first | (simp [hdOK_encU, hdOK_encL, allSz_encU, allSz_encL, encU_length, encL_length, encD_one, encD_cells, AVone_v, AVone_sl, AVone_agg, AVone_ref, AVone_fn, AVone_ifc, AVcells_v, AVcells_sl, AVcells_agg, AVcells_ref, AVcells_fn, AVcells_ifc, Value.oneCell', allSz, hdOK_encB, allSz_encB, encB_length, hl]; done) | (simp [hdOK_encU, hdOK_encL, allSz_encU, allSz_encL, encU_length, encL_length, encD_one, encD_cells, AVone_v, AVone_sl, AVone_agg, AVone_ref, AVone_fn, AVone_ifc, AVcells_v, AVcells_sl, AVcells_agg, AVcells_ref, AVcells_fn, AVcells_ifc, Value.oneCell', allSz, hdOK_encB, allSz_encB, encB_length, hl]; omega)) (by omega) (hst (by simpa using h)) ?_ ?_ <;> (repeat' (first | exact trivial | refine And.intro ?_ ?_)) <;> (try (dsimp only [go_sem, Nat.reduceBEq, Nat.reduceAdd, Nat.reduceMul, Nat.reduceSub, Int.reduceBEq, Int.reduceBNe, Int.reduceAdd, Int.reduceSub, Int.reduceMul, Int.reduceToNat, Int.reduceNeg])))
      all_goals (refine congrArg (fun n => some (TV.av (.v (.int .i64 n)))) ?_; omega)
    · (refine GC_run2 4000 ?_; dsimp only [go_sem, Nat.reduceBEq, Nat.reduceAdd, Nat.reduceMul, Nat.reduceSub, Int.reduceBEq, Int.reduceBNe, Int.reduceAdd, Int.reduceSub, Int.reduceMul, Int.reduceToNat, Int.reduceNeg])
      refine GC.finE (by first | (simp [hdOK_encU, hdOK_encL, allSz_encU, allSz_encL, encU_length, encL_length, encD_one, encD_cells, AVone_v, AVone_sl, AVone_agg, AVone_ref, AVone_fn, AVone_ifc, AVcells_v, AVcells_sl, AVcells_agg, AVcells_ref, AVcells_fn, AVcells_ifc, Value.oneCell', allSz, hdOK_encB, allSz_encB, encB_length, hl]; done) | (simp [hdOK_encU, hdOK_encL, allSz_encU, allSz_encL, encU_length, encL_length, encD_one, encD_cells, AVone_v, AVone_sl, AVone_agg, AVone_ref, AVone_fn, AVone_ifc, AVcells_v, AVcells_sl, AVcells_agg, AVcells_ref, AVcells_fn, AVcells_ifc, Value.oneCell', allSz, hdOK_encB, allSz_encB, encB_length, hl]; omega)) ?_
      have e : ((m.length : Int) - j).toNat = m.length - j := by omega
      simp only [e, ← encB_take, hsp (by simpa using h)]
      try rfl
  · have : j = m.length := by omega
    subst this
    have hd : decide ((m.length : Int) - m.length > 0) = false := by simp
    (refine GC_run2 4000 ?_; dsimp only [go_sem, Nat.reduceBEq, Nat.reduceAdd, Nat.reduceMul, Nat.reduceSub, Int.reduceBEq, Int.reduceBNe, Int.reduceAdd, Int.reduceSub, Int.reduceMul, Int.reduceToNat, Int.reduceNeg])
    (repeat (simp only [hd]; try (dsimp only [go_sem, Nat.reduceBEq, Nat.reduceAdd, Nat.reduceMul, Nat.reduceSub, Int.reduceBEq, Int.reduceBNe, Int.reduceAdd, Int.reduceSub, Int.reduceMul, Int.reduceToNat, Int.reduceNeg])))
    refine GC.finE (by first | (simp [hdOK_encU, hdOK_encL, allSz_encU, allSz_encL, encU_length, encL_length, encD_one, encD_cells, AVone_v, AVone_sl, AVone_agg, AVone_ref, AVone_fn, AVone_ifc, AVcells_v, AVcells_sl, AVcells_agg, AVcells_ref, AVcells_fn, AVcells_ifc, Value.oneCell', allSz, hdOK_encB, allSz_encB, encB_length, hl]; done) | (simp [hdOK_encU, hdOK_encL, allSz_encU, allSz_encL, encU_length, encL_length, encD_one, encD_cells, AVone_v, AVone_sl, AVone_agg, AVone_ref, AVone_fn, AVone_ifc, AVcells_v, AVcells_sl, AVcells_agg, AVcells_ref, AVcells_fn, AVcells_ifc, Value.oneCell', allSz, hdOK_encB, allSz_encB, encB_length, hl]; omega)) ?_
    have e : ((m.length : Int) - m.length).toNat = 0 := by omega
    have e2 : trimL m = [] := by rw [← hI]; simp [trimL]
    simp only [e, e2]
    try rfl
theorem D_rval (neg : Bool) (m : List Int) (hm : m.length < 1099511627776) : Sound (CD W0 κ GG) 85 [.v (.bool neg), .sl (encB m)] [.av (.agg [.v (.bool (neg && decide (0 < (trimL m).length))), .sl (encB (trimL m))])] := by
  have hl := encB_length (trimL m)
  have hc := D_rcut (W0 := W0) (κ := κ) (GG := GG) m hm
  cases neg with
  | false =>
    (refine Sound.of_go D_ok D_mix Tryd.func85 rfl (by decide) (by kernel_rfl) (GC.go ?_); refine GC_run2 4000 ?_; dsimp only [Tryd.f85, CD, go_sem, Nat.reduceBEq, Nat.reduceAdd, Nat.reduceMul, Nat.reduceSub, Int.reduceBEq, Int.reduceBNe, Int.reduceAdd, Int.reduceSub, Int.reduceMul, Int.reduceToNat, Int.reduceNeg, encD])
    (refine GC.call (by first | rfl | (simp; done) | (simp [hdOK_encB, allSz_encB, encB_length, hdOK_encU, hdOK_encL, allSz_encU, allSz_encL, encU_length, encL_length, encD_one, encD_cells, AVone_v, AVone_sl, AVone_agg, AVone_ref, AVone_fn, AVone_ifc, AVcells_v, AVcells_sl, AVcells_agg, AVcells_ref, AVcells_fn, AVcells_ifc, Value.oneCell', allSz]; done) | (simp [hdOK_encB, allSz_encB, encB_length, hdOK_encU, hdOK_encL, allSz_encU, allSz_encL, encU_length, encL_length, encD_one, encD_cells, AVone_v, AVone_sl, AVone_agg, AVone_ref, AVone_fn, AVone_ifc, AVcells_v, AVcells_sl, AVcells_agg, AVcells_ref, AVcells_fn, AVcells_ifc, Value.oneCell', allSz]; omega)) (hc) ?_; refine GC_run2 4000 ?_; dsimp only [go_sem, Nat.reduceBEq, Nat.reduceAdd, Nat.reduceMul, Nat.reduceSub, Int.reduceBEq, Int.reduceBNe, Int.reduceAdd, Int.reduceSub, Int.reduceMul, Int.reduceToNat, Int.reduceNeg])
    refine GC.finE (by first | rfl | (simp; done) | (simp [hdOK_encB, allSz_encB, encB_length, hdOK_encU, hdOK_encL, allSz_encU, allSz_encL, encU_length, encL_length, encD_one, encD_cells, AVone_v, AVone_sl, AVone_agg, AVone_ref, AVone_fn, AVone_ifc, AVcells_v, AVcells_sl, AVcells_agg, AVcells_ref, AVcells_fn, AVcells_ifc, Value.oneCell', allSz]; done) | (simp [hdOK_encB, allSz_encB, encB_length, hdOK_encU, hdOK_encL, allSz_encU, allSz_encL, encU_length, encL_length, encD_one, encD_cells, AVone_v, AVone_sl, AVone_agg, AVone_ref, AVone_fn, AVone_ifc, AVcells_v, AVcells_sl, AVcells_agg, AVcells_ref, AVcells_fn, AVcells_ifc, Value.oneCell', allSz]; omega)) ?_
    rfl
  | true =>
    have hd : decide (((encB (trimL m)).length : Int) > 0) = decide (0 < (trimL m).length) := by rw [hl]; simp
    (refine Sound.of_go D_ok D_mix Tryd.func85 rfl (by decide) (by kernel_rfl) (GC.go ?_); refine GC_run2 4000 ?_; dsimp only [Tryd.f85, CD, go_sem, Nat.reduceBEq, Nat.reduceAdd, Nat.reduceMul, Nat.reduceSub, Int.reduceBEq, Int.reduceBNe, Int.reduceAdd, Int.reduceSub, Int.reduceMul, Int.reduceToNat, Int.reduceNeg, encD])
    (refine GC.call (by first | rfl | (simp; done) | (simp [hdOK_encB, allSz_encB, encB_length, hdOK_encU, hdOK_encL, allSz_encU, allSz_encL, encU_length, encL_length, encD_one, encD_cells, AVone_v, AVone_sl, AVone_agg, AVone_ref, AVone_fn, AVone_ifc, AVcells_v, AVcells_sl, AVcells_agg, AVcells_ref, AVcells_fn, AVcells_ifc, Value.oneCell', allSz]; done) | (simp [hdOK_encB, allSz_encB, encB_length, hdOK_encU, hdOK_encL, allSz_encU, allSz_encL, encU_length, encL_length, encD_one, encD_cells, AVone_v, AVone_sl, AVone_agg, AVone_ref, AVone_fn, AVone_ifc, AVcells_v, AVcells_sl, AVcells_agg, AVcells_ref, AVcells_fn, AVcells_ifc, Value.oneCell', allSz]; omega)) (hc) ?_; refine GC_run2 4000 ?_; dsimp only [go_sem, Nat.reduceBEq, Nat.reduceAdd, Nat.reduceMul, Nat.reduceSub, Int.reduceBEq, Int.reduceBNe, Int.reduceAdd, Int.reduceSub, Int.reduceMul, Int.reduceToNat, Int.reduceNeg])
    (repeat (simp only [hd]; try (dsimp only [go_sem, Nat.reduceBEq, Nat.reduceAdd, Nat.reduceMul, Nat.reduceSub, Int.reduceBEq, Int.reduceBNe, Int.reduceAdd, Int.reduceSub, Int.reduceMul, Int.reduceToNat, Int.reduceNeg])))
    refine GC.finE (by first | rfl | (simp; done) | (simp [hdOK_encB, allSz_encB, encB_length, hdOK_encU, hdOK_encL, allSz_encU, allSz_encL, encU_length, encL_length, encD_one, encD_cells, AVone_v, AVone_sl, AVone_agg, AVone_ref, AVone_fn, AVone_ifc, AVcells_v, AVcells_sl, AVcells_agg, AVcells_ref, AVcells_fn, AVcells_ifc, Value.oneCell', allSz]; done) | (simp [hdOK_encB, allSz_encB, encB_length, hdOK_encU, hdOK_encL, allSz_encU, allSz_encL, encU_length, encL_length, encD_one, encD_cells, AVone_v, AVone_sl, AVone_agg, AVone_ref, AVone_fn, AVone_ifc, AVcells_v, AVcells_sl, AVcells_agg, AVcells_ref, AVcells_fn, AVcells_ifc, Value.oneCell', allSz]; omega)) ?_
    rfl

theorem D_rvalue (neg : Bool) (m : List Int) (hm : m.length < 1000000) : Sound (CD W0 κ GG) 59 [.agg [.v (.bool neg), .sl (encU m)]] [.av (.agg [.v (.bool (neg && decide (0 < (trimL (bitsOf m)).length))), .sl (encB (trimL (bitsOf m)))])] := by
  have hll := encU_length m
  have hbl := bitsOf_length m
  have hc := D_rval (W0 := W0) (κ := κ) (GG := GG) neg (bitsOf m) (by omega)
  (refine Sound.of_go D_ok D_mix Tryd.func59 rfl (by decide) (by kernel_rfl) (GC.go ?_); refine GC_run2 4000 ?_; dsimp only [Tryd.f59, CD, go_sem, Nat.reduceBEq, Nat.reduceAdd, Nat.reduceMul, Nat.reduceSub, Int.reduceBEq, Int.reduceBNe, Int.reduceAdd, Int.reduceSub, Int.reduceMul, Int.reduceToNat, Int.reduceNeg, encD])
  refine GC.loopR (by first | rfl | (simp; done) | (simp [hdOK_encB, allSz_encB, encB_length, hdOK_encU, hdOK_encL, allSz_encU, allSz_encL, encU_length, encL_length, encD_one, encD_cells, AVone_v, AVone_sl, AVone_agg, AVone_ref, AVone_fn, AVone_ifc, AVcells_v, AVcells_sl, AVcells_agg, AVcells_ref, AVcells_fn, AVcells_ifc, Value.oneCell', allSz]; done) | (simp [hdOK_encB, allSz_encB, encB_length, hdOK_encU, hdOK_encL, allSz_encU, allSz_encL, encU_length, encL_length, encD_one, encD_cells, AVone_v, AVone_sl, AVone_agg, AVone_ref, AVone_fn, AVone_ifc, AVcells_v, AVcells_sl, AVcells_agg, AVcells_ref, AVcells_fn, AVcells_ifc, Value.oneCell', allSz]; omega)) m.length [1, 2] (fun j => [(3, .row 24 (32 * j)), (4, .av (.v (.int .i64 j)))]) (fun j => [(24, .row true 5 1 (encB (bitsOf (m.take j))))]) (fun j => True) ⟨rfl, rfl, trivial⟩ ⟨rfl, trivial⟩ trivial (fun j hj _ => ?_)
  rcases Nat.lt_or_ge j m.length with hlt | hge
  · have hd1 : decide ((j : Int) < (encU m).length) = true := by simp [hll]; omega
    have hx : (encU m).getD j dflt = _ := encU_get hlt
    have htk : m.take (j + 1) = m.take j ++ [m[j]] := List.take_succ_eq_append_getElem hlt
    have hb1 : (bitsOf (m.take j)).length = 32 * j := by rw [bitsOf_length, List.length_take]; omega
    have hb2 := bitsOf_snoc (m.take j) m[j]
    rw [← htk] at hb2
    generalize m[j] = x at *
    generalize bitsOf (m.take j) = bj at *
    (refine GC_run2 4000 ?_; dsimp only [go_sem, Nat.reduceBEq, Nat.reduceAdd, Nat.reduceMul, Nat.reduceSub, Int.reduceBEq, Int.reduceBNe, Int.reduceAdd, Int.reduceSub, Int.reduceMul, Int.reduceToNat, Int.reduceNeg])
    (repeat (simp only [hd1]; try (dsimp only [go_sem, Nat.reduceBEq, Nat.reduceAdd, Nat.reduceMul, Nat.reduceSub, Int.reduceBEq, Int.reduceBNe, Int.reduceAdd, Int.reduceSub, Int.reduceMul, Int.reduceToNat, Int.reduceNeg])))
    refine GC.loopR (by first | rfl | (simp; done) | (simp [hdOK_encB, allSz_encB, encB_length, hdOK_encU, hdOK_encL, allSz_encU, allSz_encL, encU_length, encL_length, encD_one, encD_cells, AVone_v, AVone_sl, AVone_agg, AVone_ref, AVone_fn, AVone_ifc, AVcells_v, AVcells_sl, AVcells_agg, AVcells_ref, AVcells_fn, AVcells_ifc, Value.oneCell', allSz]; done) | (simp [hdOK_encB, allSz_encB, encB_length, hdOK_encU, hdOK_encL, allSz_encU, allSz_encL, encU_length, encL_length, encD_one, encD_cells, AVone_v, AVone_sl, AVone_agg, AVone_ref, AVone_fn, AVone_ifc, AVcells_v, AVcells_sl, AVcells_agg, AVcells_ref, AVcells_fn, AVcells_ifc, Value.oneCell', allSz]; omega)) 32 [1, 2, 4] (fun k => [(3, .row 24 (32 * j + k)), (5, .av (.v (.int .i64 k)))]) (fun k => [(24, .row true 5 1 (encB (bj ++ wordK x k)))]) (fun k => True) ⟨rfl, rfl, trivial⟩ ⟨by simp [look, wordK], trivial⟩ trivial (fun k hk _ => ?_)
    have hlk : (encB (bj ++ wordK x k)).length = 32 * j + k := by rw [encB_length, List.length_append, wordK_length, hb1]
    rcases Nat.lt_or_ge k 32 with hlt2 | hge2
    · have hd2 : decide ((k : Int) < 32) = true := by simp; omega
      have hkn : (k : Int).toNat = k := by simp
      have e1 : encB (bj ++ wordK x k) ++ [.v (.int .u8 (bitAt x k))] = encB (bj ++ wordK x (k + 1)) := by
        rw [wordK_succ, ← List.append_assoc, encB_app (bj ++ _)]
        rfl
      (refine GC_run2 4000 ?_; dsimp only [go_sem, Nat.reduceBEq, Nat.reduceAdd, Nat.reduceMul, Nat.reduceSub, Int.reduceBEq, Int.reduceBNe, Int.reduceAdd, Int.reduceSub, Int.reduceMul, Int.reduceToNat, Int.reduceNeg])
      (repeat (simp only [hd2, hx]; try (dsimp only [go_sem, Nat.reduceBEq, Nat.reduceAdd, Nat.reduceMul, Nat.reduceSub, Int.reduceBEq, Int.reduceBNe, Int.reduceAdd, Int.reduceSub, Int.reduceMul, Int.reduceToNat, Int.reduceNeg])))
      have w5 : IntKind.i64.wrap ((k : Int) + 1) = ((k + 1 : Nat) : Int) := by rw [wrap_i64 (by omega) (by omega)]; omega
      (refine GC.backR ((by first | (simp [hdOK_encU, hdOK_encL, allSz_encU, allSz_encL, encU_length, encL_length, encD_one, encD_cells, AVone_v, AVone_sl, AVone_agg, AVone_ref, AVone_fn, AVone_ifc, AVcells_v, AVcells_sl, AVcells_agg, AVcells_ref, AVcells_fn, AVcells_ifc, Value.oneCell', allSz, hdOK_encB, allSz_encB, encB_length, hlk, hll]; done) | (simp [hdOK_encU, hdOK_encL, allSz_encU, allSz_encL, encU_length, encL_length, encD_one, encD_cells, AVone_v, AVone_sl, AVone_agg, AVone_ref, AVone_fn, AVone_ifc, AVcells_v, AVcells_sl, AVcells_agg, AVcells_ref, AVcells_fn, AVcells_ifc, Value.oneCell', allSz, hdOK_encB, allSz_encB, encB_length, hlk, hll]; omega))) (by omega) (trivial) ?_ ?_ <;> (repeat' (first | exact trivial | refine And.intro ?_ ?_)) <;> (try (dsimp only [go_sem, Nat.reduceBEq, Nat.reduceAdd, Nat.reduceMul, Nat.reduceSub, Int.reduceBEq, Int.reduceBNe, Int.reduceAdd, Int.reduceSub, Int.reduceMul, Int.reduceToNat, Int.reduceNeg])))
      · rw [hlk]; rfl
      · exact congrArg (fun n => some (TV.av (.v (.int .i64 n)))) w5
      · exact congrArg (fun n => some (SObj.row true 5 1 n)) e1
    · have : k = 32 := by omega
      subst this
      have w4 : IntKind.i64.wrap ((j : Int) + 1) = ((j + 1 : Nat) : Int) := by rw [wrap_i64 (by omega) (by omega)]; omega
      have hd2 : decide (((32 : Nat) : Int) < 32) = false := by simp
      (refine GC_run2 4000 ?_; dsimp only [go_sem, Nat.reduceBEq, Nat.reduceAdd, Nat.reduceMul, Nat.reduceSub, Int.reduceBEq, Int.reduceBNe, Int.reduceAdd, Int.reduceSub, Int.reduceMul, Int.reduceToNat, Int.reduceNeg])
      (repeat (simp only [hd2]; try (dsimp only [go_sem, Nat.reduceBEq, Nat.reduceAdd, Nat.reduceMul, Nat.reduceSub, Int.reduceBEq, Int.reduceBNe, Int.reduceAdd, Int.reduceSub, Int.reduceMul, Int.reduceToNat, Int.reduceNeg])))
      (refine GC.backR ((by first | (simp [hdOK_encU, hdOK_encL, allSz_encU, allSz_encL, encU_length, encL_length, encD_one, encD_cells, AVone_v, AVone_sl, AVone_agg, AVone_ref, AVone_fn, AVone_ifc, AVcells_v, AVcells_sl, AVcells_agg, AVcells_ref, AVcells_fn, AVcells_ifc, Value.oneCell', allSz, hdOK_encB, allSz_encB, encB_length, hb1, wordK_length, hll]; done) | (simp [hdOK_encU, hdOK_encL, allSz_encU, allSz_encL, encU_length, encL_length, encD_one, encD_cells, AVone_v, AVone_sl, AVone_agg, AVone_ref, AVone_fn, AVone_ifc, AVcells_v, AVcells_sl, AVcells_agg, AVcells_ref, AVcells_fn, AVcells_ifc, Value.oneCell', allSz, hdOK_encB, allSz_encB, encB_length, hb1, wordK_length, hll]; omega))) (by omega) (trivial) ?_ ?_ <;> (repeat' (first | exact trivial | refine And.intro ?_ ?_)) <;> (try (dsimp only [go_sem, Nat.reduceBEq, Nat.reduceAdd, Nat.reduceMul, Nat.reduceSub, Int.reduceBEq, Int.reduceBNe, Int.reduceAdd, Int.reduceSub, Int.reduceMul, Int.reduceToNat, Int.reduceNeg])))
      · exact congrArg (fun n => some (TV.row 24 n)) (by omega)
      · exact congrArg (fun n => some (TV.av (.v (.int .i64 n)))) w4
      · rw [hb2]; rfl
  · have : j = m.length := by omega
    subst this
    have hd1 : decide ((m.length : Int) < (encU m).length) = false := by simp [hll]
    have htk : m.take m.length = m := List.take_length
    simp only [htk]
    have hlb : (encB (bitsOf m)).length = 32 * m.length := by rw [encB_length, hbl]
    (refine GC_run2 4000 ?_; dsimp only [go_sem, Nat.reduceBEq, Nat.reduceAdd, Nat.reduceMul, Nat.reduceSub, Int.reduceBEq, Int.reduceBNe, Int.reduceAdd, Int.reduceSub, Int.reduceMul, Int.reduceToNat, Int.reduceNeg])
    (repeat (simp only [hd1]; try (dsimp only [go_sem, Nat.reduceBEq, Nat.reduceAdd, Nat.reduceMul, Nat.reduceSub, Int.reduceBEq, Int.reduceBNe, Int.reduceAdd, Int.reduceSub, Int.reduceMul, Int.reduceToNat, Int.reduceNeg])))
    (refine GC.call (by first | (simp [hdOK_encU, hdOK_encL, allSz_encU, allSz_encL, encU_length, encL_length, encD_one, encD_cells, AVone_v, AVone_sl, AVone_agg, AVone_ref, AVone_fn, AVone_ifc, AVcells_v, AVcells_sl, AVcells_agg, AVcells_ref, AVcells_fn, AVcells_ifc, Value.oneCell', allSz, hdOK_encB, allSz_encB, encB_length, hlb]; done) | (simp [hdOK_encU, hdOK_encL, allSz_encU, allSz_encL, encU_length, encL_length, encD_one, encD_cells, AVone_v, AVone_sl, AVone_agg, AVone_ref, AVone_fn, AVone_ifc, AVcells_v, AVcells_sl, AVcells_agg, AVcells_ref, AVcells_fn, AVcells_ifc, Value.oneCell', allSz, hdOK_encB, allSz_encB, encB_length, hlb]; omega)) (hc) ?_; (refine GC_run2 4000 ?_; dsimp only [go_sem, Nat.reduceBEq, Nat.reduceAdd, Nat.reduceMul, Nat.reduceSub, Int.reduceBEq, Int.reduceBNe, Int.reduceAdd, Int.reduceSub, Int.reduceMul, Int.reduceToNat, Int.reduceNeg]))
    refine GC.finE (by first | rfl | (simp; done) | (simp [hdOK_encB, allSz_encB, encB_length, hdOK_encU, hdOK_encL, allSz_encU, allSz_encL, encU_length, encL_length, encD_one, encD_cells, AVone_v, AVone_sl, AVone_agg, AVone_ref, AVone_fn, AVone_ifc, AVcells_v, AVcells_sl, AVcells_agg, AVcells_ref, AVcells_fn, AVcells_ifc, Value.oneCell', allSz]; done) | (simp [hdOK_encB, allSz_encB, encB_length, hdOK_encU, hdOK_encL, allSz_encU, allSz_encL, encU_length, encL_length, encD_one, encD_cells, AVone_v, AVone_sl, AVone_agg, AVone_ref, AVone_fn, AVone_ifc, AVcells_v, AVcells_sl, AVcells_agg, AVcells_ref, AVcells_fn, AVcells_ifc, Value.oneCell', allSz]; omega)) ?_
    rfl
end
end Go.Sy

/- Contracts of the program's functions over abstract values. By gen.py. -/
set_option linter.unusedVariables false
set_option linter.unusedSimpArgs false
set_option maxRecDepth 100000
set_option maxHeartbeats 4000000
namespace Go.Sy
open Go.Proofs
attribute [local go_sem] runO_t runO_f band_t band_f bor_t bor_f bnot_t bnot_f gdK_tt gdK_ff gdK_tf gdK_ft brK_t brK_f runE_some runF_some runA_some runG_some runB_some runX_some runR_some run_nil run_skip run_seq run_region run_block run_blk run_exit run_cond run_ret run_loop run_lp run_opsNil run_opsOrd run_opsOp run_opsGuard run_cl run_gd run_br run_fin run_clx run_fst run_callf runY_t runY_f runS_some runV_t runV_f aBuildK_t aBuildK_f Mode.plain run_move run_nilCheck run_assign run_pick run_alloc run_box run_build run_buildSlice run_load run_store run_binOp run_unOp run_convert run_slice run_fieldAddr run_indexAddr run_index run_field run_extract run_makeInterface run_makeFunc run_len run_max run_min run_append St.ev St.evl St.evs St.evo capsOf callOf look drop put putAll toTV_nil toTV_int toTV_bool toTV_str toTV_ptr toTV_ifc toTV_fn toAV_nil toAV_int toAV_bool toAV_str toAV_ptr toAV_ifc toAV_fn aAssign_nil aAssign_tmp aAssign_int aAssign_bool aAssign_str aAssign_ptr aAssign_nilf aAssign_ifc aAssign_func aAssign_glob nilConst_slice nilConst_ptr nilConst_ifc nilConst_tmp plain Option.bind TV.cells TV.one AVone_v AVone_sl AVone_agg AVone_ref AVone_fn AVone_ifc AVone_sent Value.oneCell' oneVs avOf avsOf expo expos expoC exposC TV.isC allC fillsT aBuildT lendR ren renT0 renC renT renO renW xFoot xSt newIds retX retXs isT0 asList List.map St.app setD St.setT ownD trA effFoot callFoot callSt callReq St.fresh freshT freshO allFresh TV.ment TVs.ment SObj.ment fsts mentW noFoot List.contains List.elem aPick aAlloc aBox aBuild aBuildSlice nonNil allSz aUn aConv aField aIndex aByte aPart aExtract aIface aFunc aLen ty1 aMax aApp aAppend aCheck emptyL aSlice okHd hdOK_nil hdOK_cons aLoad aStore aBin aNil sBin sInt isSh sameSh nilness fills fillAt fillTV putCells intOf? mkInt AVcells_v AVcells_sl AVcells_agg AVcells_ref AVcells_fn AVcells_ifc AVcells_sent St.g0 St.g guardOf guardOff udf argsOf lends lendBox bindRes bindR bindRs flatR flatV boolOf retItems retItems0 retItem rowsOf disjB ownIds resIds nodupB St.init initT popTo cond_true cond_false Option.getD Option.map List.take List.drop List.length List.zip List.zipWith List.range List.range.loop List.append List.foldr List.nil_append List.cons_append List.append_nil List.getElem?_cons_zero List.getElem?_cons_succ GetElem?.getElem? List.get?Internal Int.toNat_natCast cst0 cst1 cst2 cst3 cst4 cst5 cst6 cst7 cst8 cst9 cst10 cst11 toNat0 toNat1 toNat2 toNat3 getD0 getD1 getD2 getD3 run_zero memN keepT dropO St.re leT leO D_q2  D_q3  D_q4  D_q5  D_q9  D_q12  D_q21  D_q22  D_q24  D_q25  D_q27  D_q28  D_q32  D_q46  D_q48  D_q50  D_q52  D_q53  D_q54  D_q56  D_q57  D_q61  D_q70  D_q72  D_q76  D_q77  D_q79  D_q80  D_q83  D_q85  D_q91  D_q93  D_q104  D_q108  D_q115  D_q118  D_q121  D_q134  D_q136  D_q137
section
variable {W0 : World} {κ : Nat → Addr} {GG : Nat → Option AV}

/-- Numbers are told part by part here. -/
noncomputable abbrev D_Nm (W0 : World) (κ : Nat → Addr) (GG : Nat → Option AV) : Ctx := ⟨Tryd.prog, D_T, W0, κ, GG, ⟨fun t => t == 24, fun _ => false, fun _ => false, false, fun _ _ _ _ _ => False⟩⟩
theorem D_rnum_big (neg : Bool) (b : List Int) (hm : 1536 < b.length) : Sound (D_Nm W0 κ GG) 58 [.agg [.v (.bool neg), .sl (encB b)]] [.av (.agg [.v (.bool false), .sl []]), .av (.v (.int .i64 6))] := by
  have hl := encB_length b
  have hd : decide (((encB b).length : Int) > 1536) = true := by simp; omega
  (refine Sound.of_go D_ok D_mix Tryd.func58 rfl (by decide) (by kernel_rfl) (GC.go ?_); refine GC_run2 4000 ?_; dsimp only [Tryd.f58, CD, go_sem, Nat.reduceBEq, Nat.reduceAdd, Nat.reduceMul, Nat.reduceSub, Int.reduceBEq, Int.reduceBNe, Int.reduceAdd, Int.reduceSub, Int.reduceMul, Int.reduceToNat, Int.reduceNeg, D_Nm])
  (repeat (simp only [hd]; try (dsimp only [go_sem, Nat.reduceBEq, Nat.reduceAdd, Nat.reduceMul, Nat.reduceSub, Int.reduceBEq, Int.reduceBNe, Int.reduceAdd, Int.reduceSub, Int.reduceMul, Int.reduceToNat, Int.reduceNeg])))
  refine GC.finE (by first | rfl | (simp; done) | (simp [hdOK_encB, allSz_encB, encB_length, hdOK_encU, hdOK_encL, allSz_encU, allSz_encL, encU_length, encL_length, encD_one, encD_cells, AVone_v, AVone_sl, AVone_agg, AVone_ref, AVone_fn, AVone_ifc, AVcells_v, AVcells_sl, AVcells_agg, AVcells_ref, AVcells_fn, AVcells_ifc, Value.oneCell', allSz]; done) | (simp [hdOK_encB, allSz_encB, encB_length, hdOK_encU, hdOK_encL, allSz_encU, allSz_encL, encU_length, encL_length, encD_one, encD_cells, AVone_v, AVone_sl, AVone_agg, AVone_ref, AVone_fn, AVone_ifc, AVcells_v, AVcells_sl, AVcells_agg, AVcells_ref, AVcells_fn, AVcells_ifc, Value.oneCell', allSz]; omega)) ?_
  rfl

/-- The number's variable while its bits come. -/
def numO (neg : Bool) (b : List Int) : Nat → List (Nat × SObj)
  | 0 => [(32, .box [.av (.v (.bool neg)), .full []])]
  | j + 1 => [(32, .box [.av (.v (.bool neg)), .row 216 ((j + 1 + 31) / 32)]), (216, .row true 79 1 (encU (limbK b (j + 1))))]
theorem D_rnum (neg : Bool) (b : List Int) (hm : b.length ≤ 1536) : Sound (D_Nm W0 κ GG) 58 [.agg [.v (.bool neg), .sl (encB b)]] [.av (.agg [.v (.bool neg), .sl (encU (limbK b b.length))]), .av (.v (.int .i64 0))] := by
  have hl := encB_length b
  have hd : decide (((encB b).length : Int) > 1536) = false := by simp; omega
  (refine Sound.of_go D_ok D_mix Tryd.func58 rfl (by decide) (by kernel_rfl) (GC.go ?_); refine GC_run2 4000 ?_; dsimp only [Tryd.f58, CD, go_sem, Nat.reduceBEq, Nat.reduceAdd, Nat.reduceMul, Nat.reduceSub, Int.reduceBEq, Int.reduceBNe, Int.reduceAdd, Int.reduceSub, Int.reduceMul, Int.reduceToNat, Int.reduceNeg, D_Nm])
  (repeat (simp only [hd]; try (dsimp only [go_sem, Nat.reduceBEq, Nat.reduceAdd, Nat.reduceMul, Nat.reduceSub, Int.reduceBEq, Int.reduceBNe, Int.reduceAdd, Int.reduceSub, Int.reduceMul, Int.reduceToNat, Int.reduceNeg])))
  refine GC.loopR (by first | rfl | (simp; done) | (simp [hdOK_encB, allSz_encB, encB_length, hdOK_encU, hdOK_encL, allSz_encU, allSz_encL, encU_length, encL_length, encD_one, encD_cells, AVone_v, AVone_sl, AVone_agg, AVone_ref, AVone_fn, AVone_ifc, AVcells_v, AVcells_sl, AVcells_agg, AVcells_ref, AVcells_fn, AVcells_ifc, Value.oneCell', allSz]; done) | (simp [hdOK_encB, allSz_encB, encB_length, hdOK_encU, hdOK_encL, allSz_encU, allSz_encL, encU_length, encL_length, encD_one, encD_cells, AVone_v, AVone_sl, AVone_agg, AVone_ref, AVone_fn, AVone_ifc, AVcells_v, AVcells_sl, AVcells_agg, AVcells_ref, AVcells_fn, AVcells_ifc, Value.oneCell', allSz]; omega)) b.length [1, 2, 4] (fun j => [(5, .av (.v (.int .i64 j)))]) (numO neg b) (fun j => True) ⟨rfl, trivial⟩ ⟨rfl, trivial⟩ trivial (fun j hj _ => ?_)
  rcases Nat.lt_or_ge j b.length with hlt | hge
  · have hd1 : decide ((j : Int) < (encB b).length) = true := by simp [hl]; omega
    have hx : (encB b).getD j dflt = _ := encB_get hlt
    have hxd : b.getD j 0 = b[j] := by simp [List.getD, hlt]
    cases j with
    | zero =>
      have h0 : ((0 : Int).tmod 32 == 0) = true := by simp
      have hd1 : decide ((0 : Int) < ((encB b).length : Int)) = true := by simp [hl]; omega
      simp only [numO]
      (refine GC_run2 4000 ?_; dsimp only [go_sem, Nat.reduceBEq, Nat.reduceAdd, Nat.reduceMul, Nat.reduceSub, Int.reduceBEq, Int.reduceBNe, Int.reduceAdd, Int.reduceSub, Int.reduceMul, Int.reduceToNat, Int.reduceNeg])
      (repeat (simp only [hd1, h0, hx]; try (dsimp only [go_sem, Nat.reduceBEq, Nat.reduceAdd, Nat.reduceMul, Nat.reduceSub, Int.reduceBEq, Int.reduceBNe, Int.reduceAdd, Int.reduceSub, Int.reduceMul, Int.reduceToNat, Int.reduceNeg])))
      have e0 : limbK b 1 = limbBit (limbPush [] 0) 0 b[0] := by rw [limbK, hxd]; rfl
      by_cases hb : b[0] = 1
      · have hbd : (b[0] == 1) = true := by simpa using hb
        have hq : IntKind.i64.wrap ((0 : Int).tdiv 32) = 0 := rfl
        have e1 : limbK b 1 = [or32 0 (shl1 0)] := by rw [e0, hb]; rfl
        (repeat (simp only [hbd, hq]; try (dsimp only [go_sem, Nat.reduceBEq, Nat.reduceAdd, Nat.reduceMul, Nat.reduceSub, Int.reduceBEq, Int.reduceBNe, Int.reduceAdd, Int.reduceSub, Int.reduceMul, Int.reduceToNat, Int.reduceNeg])))
        (refine GC.ord (by first | rfl | (simp; done) | (simp [hdOK_encB, allSz_encB, encB_length, hdOK_encU, hdOK_encL, allSz_encU, allSz_encL, encU_length, encL_length, encD_one, encD_cells, AVone_v, AVone_sl, AVone_agg, AVone_ref, AVone_fn, AVone_ifc, AVcells_v, AVcells_sl, AVcells_agg, AVcells_ref, AVcells_fn, AVcells_ifc, Value.oneCell', allSz]; done) | (simp [hdOK_encB, allSz_encB, encB_length, hdOK_encU, hdOK_encL, allSz_encU, allSz_encL, encU_length, encL_length, encD_one, encD_cells, AVone_v, AVone_sl, AVone_agg, AVone_ref, AVone_fn, AVone_ifc, AVcells_v, AVcells_sl, AVcells_agg, AVcells_ref, AVcells_fn, AVcells_ifc, Value.oneCell', allSz]; omega)) (by kernel_rfl) (by kernel_rfl) ?_; refine GC_run2 4000 ?_; dsimp only [go_sem, Nat.reduceBEq, Nat.reduceAdd, Nat.reduceMul, Nat.reduceSub, Int.reduceBEq, Int.reduceBNe, Int.reduceAdd, Int.reduceSub, Int.reduceMul, Int.reduceToNat, Int.reduceNeg])
        (refine GC.backR ((by first | (simp [hdOK_encU, hdOK_encL, allSz_encU, allSz_encL, encU_length, encL_length, encD_one, encD_cells, AVone_v, AVone_sl, AVone_agg, AVone_ref, AVone_fn, AVone_ifc, AVcells_v, AVcells_sl, AVcells_agg, AVcells_ref, AVcells_fn, AVcells_ifc, Value.oneCell', allSz, hdOK_encB, allSz_encB, encB_length, hl]; done) | (simp [hdOK_encU, hdOK_encL, allSz_encU, allSz_encL, encU_length, encL_length, encD_one, encD_cells, AVone_v, AVone_sl, AVone_agg, AVone_ref, AVone_fn, AVone_ifc, AVcells_v, AVcells_sl, AVcells_agg, AVcells_ref, AVcells_fn, AVcells_ifc, Value.oneCell', allSz, hdOK_encB, allSz_encB, encB_length, hl]; omega))) (by omega) (trivial) ?_ ?_ <;> (repeat' (first | exact trivial | refine And.intro ?_ ?_)) <;> (try (dsimp only [go_sem, Nat.reduceBEq, Nat.reduceAdd, Nat.reduceMul, Nat.reduceSub, Int.reduceBEq, Int.reduceBNe, Int.reduceAdd, Int.reduceSub, Int.reduceMul, Int.reduceToNat, Int.reduceNeg])))
        · rfl
        · rw [e1]; rfl
      · have hbd : (b[0] == 1) = false := by simpa using hb
        have e1 : limbK b 1 = [0] := by rw [e0]; simp [limbBit, hb, limbPush]
        (repeat (simp only [hbd]; try (dsimp only [go_sem, Nat.reduceBEq, Nat.reduceAdd, Nat.reduceMul, Nat.reduceSub, Int.reduceBEq, Int.reduceBNe, Int.reduceAdd, Int.reduceSub, Int.reduceMul, Int.reduceToNat, Int.reduceNeg])))
        (refine GC.backR ((by first | (simp [hdOK_encU, hdOK_encL, allSz_encU, allSz_encL, encU_length, encL_length, encD_one, encD_cells, AVone_v, AVone_sl, AVone_agg, AVone_ref, AVone_fn, AVone_ifc, AVcells_v, AVcells_sl, AVcells_agg, AVcells_ref, AVcells_fn, AVcells_ifc, Value.oneCell', allSz, hdOK_encB, allSz_encB, encB_length, hl]; done) | (simp [hdOK_encU, hdOK_encL, allSz_encU, allSz_encL, encU_length, encL_length, encD_one, encD_cells, AVone_v, AVone_sl, AVone_agg, AVone_ref, AVone_fn, AVone_ifc, AVcells_v, AVcells_sl, AVcells_agg, AVcells_ref, AVcells_fn, AVcells_ifc, Value.oneCell', allSz, hdOK_encB, allSz_encB, encB_length, hl]; omega))) (by omega) (trivial) ?_ ?_ <;> (repeat' (first | exact trivial | refine And.intro ?_ ?_)) <;> (try (dsimp only [go_sem, Nat.reduceBEq, Nat.reduceAdd, Nat.reduceMul, Nat.reduceSub, Int.reduceBEq, Int.reduceBNe, Int.reduceAdd, Int.reduceSub, Int.reduceMul, Int.reduceToNat, Int.reduceNeg])))
        · rfl
        · rw [e1]; rfl
    | succ j =>
      simp only [numO]
      have hpos : 0 < j + 1 := by omega
      generalize j + 1 = i at *
      have hlk := limbK_length b i
      have hq : IntKind.i64.wrap (((i : Nat) : Int).tdiv 32) = ((i / 32 : Nat) : Int) := by
        rw [wrap_i64 (by rw [Int.tdiv_eq_ediv_of_nonneg (by omega)]; omega) (by rw [Int.tdiv_eq_ediv_of_nonneg (by omega)]; omega), Int.tdiv_eq_ediv_of_nonneg (by omega)]
        omega
      have hr : ((i : Nat) : Int).tmod 32 = ((i % 32 : Nat) : Int) := by rw [Int.tmod_eq_emod_of_nonneg (by omega)]; omega
      have w4 : IntKind.i64.wrap ((i : Int) + 1) = ((i + 1 : Nat) : Int) := by rw [wrap_i64 (by omega) (by omega)]; omega
      have hK : limbK b (i + 1) = limbBit (limbPush (limbK b i) i) i b[i] := by rw [limbK, hxd]
      by_cases h32 : i % 32 = 0
      · have h0 : (((i % 32 : Nat) : Int) == 0) = true := by simp [h32]
        have hle : (encU (limbK b i)).length = (i + 31) / 32 := by rw [encU_length, hlk]
        have hP : limbPush (limbK b i) i = limbK b i ++ [0] := by simp [limbPush, h32]
        have hL : (encU (limbK b i) ++ [AV.v (.int .u32 0)]).getD (i / 32) dflt = .v (.int .u32 0) := by
          have : i / 32 = (encU (limbK b i)).length := by rw [hle]; omega
          rw [this]; simp
        have hL2 : (limbK b i ++ [0]).getD (i / 32) 0 = 0 := by
          have : i / 32 = (limbK b i).length := by rw [hlk]; omega
          rw [this]; simp
        (refine GC_run2 4000 ?_; dsimp only [go_sem, Nat.reduceBEq, Nat.reduceAdd, Nat.reduceMul, Nat.reduceSub, Int.reduceBEq, Int.reduceBNe, Int.reduceAdd, Int.reduceSub, Int.reduceMul, Int.reduceToNat, Int.reduceNeg])
        (repeat (simp only [hd1, hr, h0, hx]; try (dsimp only [go_sem, Nat.reduceBEq, Nat.reduceAdd, Nat.reduceMul, Nat.reduceSub, Int.reduceBEq, Int.reduceBNe, Int.reduceAdd, Int.reduceSub, Int.reduceMul, Int.reduceToNat, Int.reduceNeg])))
        by_cases hb : b[i] = 1
        · have hbd : (b[i] == 1) = true := by simpa using hb
          have e1 : encU (limbK b (i + 1)) = (encU (limbK b i) ++ [AV.v (.int .u32 0)]).set (i / 32) (.v (.int .u32 (or32 0 (shl1 (i % 32))))) := by
            rw [hK, hP, limbBit, if_pos hb, hL2, encU_set]
            simp [encU]
          (repeat (simp only [hbd, hq, hL, hr]; try (dsimp only [go_sem, Nat.reduceBEq, Nat.reduceAdd, Nat.reduceMul, Nat.reduceSub, Int.reduceBEq, Int.reduceBNe, Int.reduceAdd, Int.reduceSub, Int.reduceMul, Int.reduceToNat, Int.reduceNeg])))
          (refine GC.ord (by first | rfl | (simp; done) | (simp [hdOK_encB, allSz_encB, encB_length, hdOK_encU, hdOK_encL, allSz_encU, allSz_encL, encU_length, encL_length, encD_one, encD_cells, AVone_v, AVone_sl, AVone_agg, AVone_ref, AVone_fn, AVone_ifc, AVcells_v, AVcells_sl, AVcells_agg, AVcells_ref, AVcells_fn, AVcells_ifc, Value.oneCell', allSz]; done) | (simp [hdOK_encB, allSz_encB, encB_length, hdOK_encU, hdOK_encL, allSz_encU, allSz_encL, encU_length, encL_length, encD_one, encD_cells, AVone_v, AVone_sl, AVone_agg, AVone_ref, AVone_fn, AVone_ifc, AVcells_v, AVcells_sl, AVcells_agg, AVcells_ref, AVcells_fn, AVcells_ifc, Value.oneCell', allSz]; omega)) (by kernel_rfl) (by kernel_rfl) ?_; refine GC_run2 4000 ?_; dsimp only [go_sem, Nat.reduceBEq, Nat.reduceAdd, Nat.reduceMul, Nat.reduceSub, Int.reduceBEq, Int.reduceBNe, Int.reduceAdd, Int.reduceSub, Int.reduceMul, Int.reduceToNat, Int.reduceNeg])
          (refine GC.backR ((by first | (simp [hdOK_encU, hdOK_encL, allSz_encU, allSz_encL, encU_length, encL_length, encD_one, encD_cells, AVone_v, AVone_sl, AVone_agg, AVone_ref, AVone_fn, AVone_ifc, AVcells_v, AVcells_sl, AVcells_agg, AVcells_ref, AVcells_fn, AVcells_ifc, Value.oneCell', allSz, hdOK_encB, allSz_encB, encB_length, hl, hle]; done) | (simp [hdOK_encU, hdOK_encL, allSz_encU, allSz_encL, encU_length, encL_length, encD_one, encD_cells, AVone_v, AVone_sl, AVone_agg, AVone_ref, AVone_fn, AVone_ifc, AVcells_v, AVcells_sl, AVcells_agg, AVcells_ref, AVcells_fn, AVcells_ifc, Value.oneCell', allSz, hdOK_encB, allSz_encB, encB_length, hl, hle]; omega))) (by omega) (trivial) ?_ ?_ <;> (repeat' (first | exact trivial | refine And.intro ?_ ?_)) <;> (try (dsimp only [go_sem, Nat.reduceBEq, Nat.reduceAdd, Nat.reduceMul, Nat.reduceSub, Int.reduceBEq, Int.reduceBNe, Int.reduceAdd, Int.reduceSub, Int.reduceMul, Int.reduceToNat, Int.reduceNeg])))
          · exact congrArg (fun n => some (TV.av (.v (.int .i64 n)))) w4
          · exact congrArg (fun n => some (SObj.box [.av (.v (.bool neg)), .row 216 n])) (by rw [hle]; omega)
          · exact congrArg (fun n => some (SObj.row true 79 1 n)) e1.symm
        · have hbd : (b[i] == 1) = false := by simpa using hb
          have e1 : encU (limbK b (i + 1)) = encU (limbK b i) ++ [AV.v (.int .u32 0)] := by
            rw [hK, hP, limbBit, if_neg hb]
            simp [encU]
          (repeat (simp only [hbd]; try (dsimp only [go_sem, Nat.reduceBEq, Nat.reduceAdd, Nat.reduceMul, Nat.reduceSub, Int.reduceBEq, Int.reduceBNe, Int.reduceAdd, Int.reduceSub, Int.reduceMul, Int.reduceToNat, Int.reduceNeg])))
          (refine GC.backR ((by first | (simp [hdOK_encU, hdOK_encL, allSz_encU, allSz_encL, encU_length, encL_length, encD_one, encD_cells, AVone_v, AVone_sl, AVone_agg, AVone_ref, AVone_fn, AVone_ifc, AVcells_v, AVcells_sl, AVcells_agg, AVcells_ref, AVcells_fn, AVcells_ifc, Value.oneCell', allSz, hdOK_encB, allSz_encB, encB_length, hl, hle]; done) | (simp [hdOK_encU, hdOK_encL, allSz_encU, allSz_encL, encU_length, encL_length, encD_one, encD_cells, AVone_v, AVone_sl, AVone_agg, AVone_ref, AVone_fn, AVone_ifc, AVcells_v, AVcells_sl, AVcells_agg, AVcells_ref, AVcells_fn, AVcells_ifc, Value.oneCell', allSz, hdOK_encB, allSz_encB, encB_length, hl, hle]; omega))) (by omega) (trivial) ?_ ?_ <;> (repeat' (first | exact trivial | refine And.intro ?_ ?_)) <;> (try (dsimp only [go_sem, Nat.reduceBEq, Nat.reduceAdd, Nat.reduceMul, Nat.reduceSub, Int.reduceBEq, Int.reduceBNe, Int.reduceAdd, Int.reduceSub, Int.reduceMul, Int.reduceToNat, Int.reduceNeg])))
          · exact congrArg (fun n => some (TV.av (.v (.int .i64 n)))) w4
          · exact congrArg (fun n => some (SObj.box [.av (.v (.bool neg)), .row 216 n])) (by rw [hle]; omega)
          · exact congrArg (fun n => some (SObj.row true 79 1 n)) e1.symm
      · have h0 : (((i % 32 : Nat) : Int) == 0) = false := by simp; omega
        have hle : (encU (limbK b i)).length = (i + 31) / 32 := by rw [encU_length, hlk]
        have hP : limbPush (limbK b i) i = limbK b i := by simp [limbPush, h32]
        have hlt2 : i / 32 < (limbK b i).length := by rw [hlk]; omega
        have hL : (encU (limbK b i)).getD (i / 32) dflt = .v (.int .u32 (limbK b i)[i / 32]) := encU_get hlt2
        have hL2 : (limbK b i).getD (i / 32) 0 = (limbK b i)[i / 32] := by simp [List.getD, hlt2]
        (refine GC_run2 4000 ?_; dsimp only [go_sem, Nat.reduceBEq, Nat.reduceAdd, Nat.reduceMul, Nat.reduceSub, Int.reduceBEq, Int.reduceBNe, Int.reduceAdd, Int.reduceSub, Int.reduceMul, Int.reduceToNat, Int.reduceNeg])
        (repeat (simp only [hd1, hr, h0, hx]; try (dsimp only [go_sem, Nat.reduceBEq, Nat.reduceAdd, Nat.reduceMul, Nat.reduceSub, Int.reduceBEq, Int.reduceBNe, Int.reduceAdd, Int.reduceSub, Int.reduceMul, Int.reduceToNat, Int.reduceNeg])))
        by_cases hb : b[i] = 1
        · have hbd : (b[i] == 1) = true := by simpa using hb
          have e1 : encU (limbK b (i + 1)) = (encU (limbK b i)).set (i / 32) (.v (.int .u32 (or32 (limbK b i)[i / 32] (shl1 (i % 32))))) := by
            rw [hK, hP, limbBit, if_pos hb, hL2, encU_set]
          (repeat (simp only [hbd, hq, hL, hr]; try (dsimp only [go_sem, Nat.reduceBEq, Nat.reduceAdd, Nat.reduceMul, Nat.reduceSub, Int.reduceBEq, Int.reduceBNe, Int.reduceAdd, Int.reduceSub, Int.reduceMul, Int.reduceToNat, Int.reduceNeg])))
          (refine GC.ord (by first | rfl | (simp; done) | (simp [hdOK_encB, allSz_encB, encB_length, hdOK_encU, hdOK_encL, allSz_encU, allSz_encL, encU_length, encL_length, encD_one, encD_cells, AVone_v, AVone_sl, AVone_agg, AVone_ref, AVone_fn, AVone_ifc, AVcells_v, AVcells_sl, AVcells_agg, AVcells_ref, AVcells_fn, AVcells_ifc, Value.oneCell', allSz]; done) | (simp [hdOK_encB, allSz_encB, encB_length, hdOK_encU, hdOK_encL, allSz_encU, allSz_encL, encU_length, encL_length, encD_one, encD_cells, AVone_v, AVone_sl, AVone_agg, AVone_ref, AVone_fn, AVone_ifc, AVcells_v, AVcells_sl, AVcells_agg, AVcells_ref, AVcells_fn, AVcells_ifc, Value.oneCell', allSz]; omega)) (by kernel_rfl) (by kernel_rfl) ?_; refine GC_run2 4000 ?_; dsimp only [go_sem, Nat.reduceBEq, Nat.reduceAdd, Nat.reduceMul, Nat.reduceSub, Int.reduceBEq, Int.reduceBNe, Int.reduceAdd, Int.reduceSub, Int.reduceMul, Int.reduceToNat, Int.reduceNeg])
          (refine GC.backR ((by first | (simp [hdOK_encU, hdOK_encL, allSz_encU, allSz_encL, encU_length, encL_length, encD_one, encD_cells, AVone_v, AVone_sl, AVone_agg, AVone_ref, AVone_fn, AVone_ifc, AVcells_v, AVcells_sl, AVcells_agg, AVcells_ref, AVcells_fn, AVcells_ifc, Value.oneCell', allSz, hdOK_encB, allSz_encB, encB_length, hl, hle]; done) | (simp [hdOK_encU, hdOK_encL, allSz_encU, allSz_encL, encU_length, encL_length, encD_one, encD_cells, AVone_v, AVone_sl, AVone_agg, AVone_ref, AVone_fn, AVone_ifc, AVcells_v, AVcells_sl, AVcells_agg, AVcells_ref, AVcells_fn, AVcells_ifc, Value.oneCell', allSz, hdOK_encB, allSz_encB, encB_length, hl, hle]; omega))) (by omega) (trivial) ?_ ?_ <;> (repeat' (first | exact trivial | refine And.intro ?_ ?_)) <;> (try (dsimp only [go_sem, Nat.reduceBEq, Nat.reduceAdd, Nat.reduceMul, Nat.reduceSub, Int.reduceBEq, Int.reduceBNe, Int.reduceAdd, Int.reduceSub, Int.reduceMul, Int.reduceToNat, Int.reduceNeg])))
          · exact congrArg (fun n => some (TV.av (.v (.int .i64 n)))) w4
          · exact congrArg (fun n => some (SObj.box [.av (.v (.bool neg)), .row 216 n])) (by omega)
          · exact congrArg (fun n => some (SObj.row true 79 1 n)) e1.symm
        · have hbd : (b[i] == 1) = false := by simpa using hb
          have e1 : encU (limbK b (i + 1)) = encU (limbK b i) := by rw [hK, hP, limbBit, if_neg hb]
          (repeat (simp only [hbd]; try (dsimp only [go_sem, Nat.reduceBEq, Nat.reduceAdd, Nat.reduceMul, Nat.reduceSub, Int.reduceBEq, Int.reduceBNe, Int.reduceAdd, Int.reduceSub, Int.reduceMul, Int.reduceToNat, Int.reduceNeg])))
          (refine GC.backR ((by first | (simp [hdOK_encU, hdOK_encL, allSz_encU, allSz_encL, encU_length, encL_length, encD_one, encD_cells, AVone_v, AVone_sl, AVone_agg, AVone_ref, AVone_fn, AVone_ifc, AVcells_v, AVcells_sl, AVcells_agg, AVcells_ref, AVcells_fn, AVcells_ifc, Value.oneCell', allSz, hdOK_encB, allSz_encB, encB_length, hl, hle]; done) | (simp [hdOK_encU, hdOK_encL, allSz_encU, allSz_encL, encU_length, encL_length, encD_one, encD_cells, AVone_v, AVone_sl, AVone_agg, AVone_ref, AVone_fn, AVone_ifc, AVcells_v, AVcells_sl, AVcells_agg, AVcells_ref, AVcells_fn, AVcells_ifc, Value.oneCell', allSz, hdOK_encB, allSz_encB, encB_length, hl, hle]; omega))) (by omega) (trivial) ?_ ?_ <;> (repeat' (first | exact trivial | refine And.intro ?_ ?_)) <;> (try (dsimp only [go_sem, Nat.reduceBEq, Nat.reduceAdd, Nat.reduceMul, Nat.reduceSub, Int.reduceBEq, Int.reduceBNe, Int.reduceAdd, Int.reduceSub, Int.reduceMul, Int.reduceToNat, Int.reduceNeg])))
          · exact congrArg (fun n => some (TV.av (.v (.int .i64 n)))) w4
          · exact congrArg (fun n => some (SObj.box [.av (.v (.bool neg)), .row 216 n])) (by omega)
          · exact congrArg (fun n => some (SObj.row true 79 1 n)) e1.symm
  · have : j = b.length := by omega
    subst this
    have hd1 : decide ((b.length : Int) < ((encB b).length : Int)) = false := by simp [hl]
    have hK := limbK_length b b.length
    generalize b.length = n at *
    cases n with
    | zero =>
      have hd1 : decide ((0 : Int) < ((encB b).length : Int)) = false := hd1
      simp only [numO]
      (refine GC_run2 4000 ?_; dsimp only [go_sem, Nat.reduceBEq, Nat.reduceAdd, Nat.reduceMul, Nat.reduceSub, Int.reduceBEq, Int.reduceBNe, Int.reduceAdd, Int.reduceSub, Int.reduceMul, Int.reduceToNat, Int.reduceNeg])
      (repeat (simp only [hd1]; try (dsimp only [go_sem, Nat.reduceBEq, Nat.reduceAdd, Nat.reduceMul, Nat.reduceSub, Int.reduceBEq, Int.reduceBNe, Int.reduceAdd, Int.reduceSub, Int.reduceMul, Int.reduceToNat, Int.reduceNeg])))
      refine GC.finE (by first | rfl | (simp; done) | (simp [hdOK_encB, allSz_encB, encB_length, hdOK_encU, hdOK_encL, allSz_encU, allSz_encL, encU_length, encL_length, encD_one, encD_cells, AVone_v, AVone_sl, AVone_agg, AVone_ref, AVone_fn, AVone_ifc, AVcells_v, AVcells_sl, AVcells_agg, AVcells_ref, AVcells_fn, AVcells_ifc, Value.oneCell', allSz]; done) | (simp [hdOK_encB, allSz_encB, encB_length, hdOK_encU, hdOK_encL, allSz_encU, allSz_encL, encU_length, encL_length, encD_one, encD_cells, AVone_v, AVone_sl, AVone_agg, AVone_ref, AVone_fn, AVone_ifc, AVcells_v, AVcells_sl, AVcells_agg, AVcells_ref, AVcells_fn, AVcells_ifc, Value.oneCell', allSz]; omega)) ?_
      rfl
    | succ n =>
      simp only [numO]
      generalize limbK b (n + 1) = L at *
      generalize n + 1 = i at *
      have hle : (encU L).length = (i + 31) / 32 := by rw [encU_length, hK]
      (refine GC_run2 4000 ?_; dsimp only [go_sem, Nat.reduceBEq, Nat.reduceAdd, Nat.reduceMul, Nat.reduceSub, Int.reduceBEq, Int.reduceBNe, Int.reduceAdd, Int.reduceSub, Int.reduceMul, Int.reduceToNat, Int.reduceNeg])
      (repeat (simp only [hd1]; try (dsimp only [go_sem, Nat.reduceBEq, Nat.reduceAdd, Nat.reduceMul, Nat.reduceSub, Int.reduceBEq, Int.reduceBNe, Int.reduceAdd, Int.reduceSub, Int.reduceMul, Int.reduceToNat, Int.reduceNeg])))
      refine GC.finE (by first | (simp [hdOK_encU, hdOK_encL, allSz_encU, allSz_encL, encU_length, encL_length, encD_one, encD_cells, AVone_v, AVone_sl, AVone_agg, AVone_ref, AVone_fn, AVone_ifc, AVcells_v, AVcells_sl, AVcells_agg, AVcells_ref, AVcells_fn, AVcells_ifc, Value.oneCell', allSz, hdOK_encB, allSz_encB, encB_length, hle, hK]; done) | (simp [hdOK_encU, hdOK_encL, allSz_encU, allSz_encL, encU_length, encL_length, encD_one, encD_cells, AVone_v, AVone_sl, AVone_agg, AVone_ref, AVone_fn, AVone_ifc, AVcells_v, AVcells_sl, AVcells_agg, AVcells_ref, AVcells_fn, AVcells_ifc, Value.oneCell', allSz, hdOK_encB, allSz_encB, encB_length, hle, hK]; omega)) ?_
      rfl
end
end Go.Sy

/- Contracts of the program's functions over abstract values. By gen.py. -/
set_option linter.unusedVariables false
set_option linter.unusedSimpArgs false
set_option maxRecDepth 100000
set_option maxHeartbeats 4000000
namespace Go.Sy
open Go.Proofs
attribute [local go_sem] runO_t runO_f band_t band_f bor_t bor_f bnot_t bnot_f gdK_tt gdK_ff gdK_tf gdK_ft brK_t brK_f runE_some runF_some runA_some runG_some runB_some runX_some runR_some run_nil run_skip run_seq run_region run_block run_blk run_exit run_cond run_ret run_loop run_lp run_opsNil run_opsOrd run_opsOp run_opsGuard run_cl run_gd run_br run_fin run_clx run_fst run_callf runY_t runY_f runS_some runV_t runV_f aBuildK_t aBuildK_f Mode.plain run_move run_nilCheck run_assign run_pick run_alloc run_box run_build run_buildSlice run_load run_store run_binOp run_unOp run_convert run_slice run_fieldAddr run_indexAddr run_index run_field run_extract run_makeInterface run_makeFunc run_len run_max run_min run_append St.ev St.evl St.evs St.evo capsOf callOf look drop put putAll toTV_nil toTV_int toTV_bool toTV_str toTV_ptr toTV_ifc toTV_fn toAV_nil toAV_int toAV_bool toAV_str toAV_ptr toAV_ifc toAV_fn aAssign_nil aAssign_tmp aAssign_int aAssign_bool aAssign_str aAssign_ptr aAssign_nilf aAssign_ifc aAssign_func aAssign_glob nilConst_slice nilConst_ptr nilConst_ifc nilConst_tmp plain Option.bind TV.cells TV.one AVone_v AVone_sl AVone_agg AVone_ref AVone_fn AVone_ifc AVone_sent Value.oneCell' oneVs avOf avsOf expo expos expoC exposC TV.isC allC fillsT aBuildT lendR ren renT0 renC renT renO renW xFoot xSt newIds retX retXs isT0 asList List.map St.app setD St.setT ownD trA effFoot callFoot callSt callReq St.fresh freshT freshO allFresh TV.ment TVs.ment SObj.ment fsts mentW noFoot List.contains List.elem aPick aAlloc aBox aBuild aBuildSlice nonNil allSz aUn aConv aField aIndex aByte aPart aExtract aIface aFunc aLen ty1 aMax aApp aAppend aCheck emptyL aSlice okHd hdOK_nil hdOK_cons aLoad aStore aBin aNil sBin sInt isSh sameSh nilness fills fillAt fillTV putCells intOf? mkInt AVcells_v AVcells_sl AVcells_agg AVcells_ref AVcells_fn AVcells_ifc AVcells_sent St.g0 St.g guardOf guardOff udf argsOf lends lendBox bindRes bindR bindRs flatR flatV boolOf retItems retItems0 retItem rowsOf disjB ownIds resIds nodupB St.init initT popTo cond_true cond_false Option.getD Option.map List.take List.drop List.length List.zip List.zipWith List.range List.range.loop List.append List.foldr List.nil_append List.cons_append List.append_nil List.getElem?_cons_zero List.getElem?_cons_succ GetElem?.getElem? List.get?Internal Int.toNat_natCast cst0 cst1 cst2 cst3 cst4 cst5 cst6 cst7 cst8 cst9 cst10 cst11 toNat0 toNat1 toNat2 toNat3 getD0 getD1 getD2 getD3 run_zero memN keepT dropO St.re leT leO D_q2  D_q3  D_q4  D_q5  D_q9  D_q12  D_q21  D_q22  D_q24  D_q25  D_q27  D_q28  D_q32  D_q46  D_q48  D_q50  D_q52  D_q53  D_q54  D_q56  D_q57  D_q61  D_q70  D_q72  D_q76  D_q77  D_q79  D_q80  D_q83  D_q85  D_q91  D_q93  D_q104  D_q108  D_q115  D_q118  D_q121  D_q134  D_q136  D_q137
section
variable {W0 : World} {κ : Nat → Addr} {GG : Nat → Option AV}

theorem D_Nm_plain {f : Nat} {xs : List AV} {rs : List RItem} (h : Sound (D_Nm W0 κ GG) f xs rs) : Sound (CD W0 κ GG) f xs rs := ⟨h.callee, fun m w vs hc hg hb hr => (h.run m w vs hc hg hb hr).mono fun e w' hp => ⟨hp.out⟩⟩
theorem D_rnmay (neg : Bool) (m : List Int) (hm : m.length < 1000000) (hu : ∀ x ∈ m, u32ok x) : Sound (CD W0 κ GG) 79 [.agg [.v (.bool neg), .sl (encU m)]] [.av (.v (.bool (numOK neg m)))] := by
  have hv := D_rvalue (W0 := W0) (κ := κ) (GG := GG) neg m hm
  have hlen := limbs_len hu
  have hle := trimL_le m
  by_cases hb : 48 < (trimL m).length
  · have hn := D_rnum_big (W0 := W0) (κ := κ) (GG := GG) (neg && decide (0 < (trimL (bitsOf m)).length)) (trimL (bitsOf m)) (hlen.mpr hb)
    have hn := D_Nm_plain hn
    have e : numOK neg m = false := by unfold numOK; simp; omega
    have hd : ((6 : Int) == 0) = false := rfl
    generalize (neg && decide (0 < (trimL (bitsOf m)).length)) = ng at hv hn
    generalize trimL (bitsOf m) = bs at *
    (refine Sound.of_go D_ok D_mix Tryd.func79 rfl (by decide) (by kernel_rfl) (GC.go ?_); refine GC_run2 4000 ?_; dsimp only [Tryd.f79, CD, go_sem, Nat.reduceBEq, Nat.reduceAdd, Nat.reduceMul, Nat.reduceSub, Int.reduceBEq, Int.reduceBNe, Int.reduceAdd, Int.reduceSub, Int.reduceMul, Int.reduceToNat, Int.reduceNeg, encD])
    (refine GC.call (by first | rfl | (simp; done) | (simp [hdOK_encB, allSz_encB, encB_length, hdOK_encU, hdOK_encL, allSz_encU, allSz_encL, encU_length, encL_length, encD_one, encD_cells, AVone_v, AVone_sl, AVone_agg, AVone_ref, AVone_fn, AVone_ifc, AVcells_v, AVcells_sl, AVcells_agg, AVcells_ref, AVcells_fn, AVcells_ifc, Value.oneCell', allSz]; done) | (simp [hdOK_encB, allSz_encB, encB_length, hdOK_encU, hdOK_encL, allSz_encU, allSz_encL, encU_length, encL_length, encD_one, encD_cells, AVone_v, AVone_sl, AVone_agg, AVone_ref, AVone_fn, AVone_ifc, AVcells_v, AVcells_sl, AVcells_agg, AVcells_ref, AVcells_fn, AVcells_ifc, Value.oneCell', allSz]; omega)) (hv) ?_; refine GC_run2 4000 ?_; dsimp only [go_sem, Nat.reduceBEq, Nat.reduceAdd, Nat.reduceMul, Nat.reduceSub, Int.reduceBEq, Int.reduceBNe, Int.reduceAdd, Int.reduceSub, Int.reduceMul, Int.reduceToNat, Int.reduceNeg])
    (refine GC.call (by first | rfl | (simp; done) | (simp [hdOK_encB, allSz_encB, encB_length, hdOK_encU, hdOK_encL, allSz_encU, allSz_encL, encU_length, encL_length, encD_one, encD_cells, AVone_v, AVone_sl, AVone_agg, AVone_ref, AVone_fn, AVone_ifc, AVcells_v, AVcells_sl, AVcells_agg, AVcells_ref, AVcells_fn, AVcells_ifc, Value.oneCell', allSz]; done) | (simp [hdOK_encB, allSz_encB, encB_length, hdOK_encU, hdOK_encL, allSz_encU, allSz_encL, encU_length, encL_length, encD_one, encD_cells, AVone_v, AVone_sl, AVone_agg, AVone_ref, AVone_fn, AVone_ifc, AVcells_v, AVcells_sl, AVcells_agg, AVcells_ref, AVcells_fn, AVcells_ifc, Value.oneCell', allSz]; omega)) (hn) ?_; refine GC_run2 4000 ?_; dsimp only [go_sem, Nat.reduceBEq, Nat.reduceAdd, Nat.reduceMul, Nat.reduceSub, Int.reduceBEq, Int.reduceBNe, Int.reduceAdd, Int.reduceSub, Int.reduceMul, Int.reduceToNat, Int.reduceNeg])
    (repeat (simp only [hd]; try (dsimp only [go_sem, Nat.reduceBEq, Nat.reduceAdd, Nat.reduceMul, Nat.reduceSub, Int.reduceBEq, Int.reduceBNe, Int.reduceAdd, Int.reduceSub, Int.reduceMul, Int.reduceToNat, Int.reduceNeg])))
    refine GC.finE (by first | rfl | (simp; done) | (simp [hdOK_encB, allSz_encB, encB_length, hdOK_encU, hdOK_encL, allSz_encU, allSz_encL, encU_length, encL_length, encD_one, encD_cells, AVone_v, AVone_sl, AVone_agg, AVone_ref, AVone_fn, AVone_ifc, AVcells_v, AVcells_sl, AVcells_agg, AVcells_ref, AVcells_fn, AVcells_ifc, Value.oneCell', allSz]; done) | (simp [hdOK_encB, allSz_encB, encB_length, hdOK_encU, hdOK_encL, allSz_encU, allSz_encL, encU_length, encL_length, encD_one, encD_cells, AVone_v, AVone_sl, AVone_agg, AVone_ref, AVone_fn, AVone_ifc, AVcells_v, AVcells_sl, AVcells_agg, AVcells_ref, AVcells_fn, AVcells_ifc, Value.oneCell', allSz]; omega)) ?_
    rw [e]
  · have hn := D_rnum (W0 := W0) (κ := κ) (GG := GG) (neg && decide (0 < (trimL (bitsOf m)).length)) (trimL (bitsOf m)) (by omega)
    have hn := D_Nm_plain hn
    have hbk := limbs_back hu
    rw [hbk] at hn
    have hs := D_rnsame (W0 := W0) (κ := κ) (GG := GG) (neg && decide (0 < (trimL (bitsOf m)).length)) neg (trimL m) m (by omega)
    have e : numOK neg m = ((neg && decide (0 < (trimL (bitsOf m)).length)) == neg && decide (trimL m = m)) := by
      have h0 : decide (0 < (trimL (bitsOf m)).length) = decide (0 < (trimL m).length) := by
        have h := congrArg List.length hbk
        rw [limbK_length] at h
        exact decide_eq_decide.mpr (by omega)
      rw [h0]
      unfold numOK
      by_cases ht : trimL m = m
      · rw [ht] at hb ⊢
        have h1 : decide (m.length ≤ 48) = true := by simp; omega
        rw [h1]
        cases neg <;> simp
      · have h2 : (trimL m).length ≠ m.length := by
          intro h3
          apply ht
          have := trimL_prefix m
          exact this.eq_of_length h3
        simp [ht, h2]
    rw [e]
    have hd : ((0 : Int) == 0) = true := rfl
    generalize (neg && decide (0 < (trimL (bitsOf m)).length)) = ng at *
    generalize (ng == neg && decide (trimL m = m)) = rb at *
    generalize trimL (bitsOf m) = bs at *
    (refine Sound.of_go D_ok D_mix Tryd.func79 rfl (by decide) (by kernel_rfl) (GC.go ?_); refine GC_run2 4000 ?_; dsimp only [Tryd.f79, CD, go_sem, Nat.reduceBEq, Nat.reduceAdd, Nat.reduceMul, Nat.reduceSub, Int.reduceBEq, Int.reduceBNe, Int.reduceAdd, Int.reduceSub, Int.reduceMul, Int.reduceToNat, Int.reduceNeg, encD])
    (refine GC.call (by first | rfl | (simp; done) | (simp [hdOK_encB, allSz_encB, encB_length, hdOK_encU, hdOK_encL, allSz_encU, allSz_encL, encU_length, encL_length, encD_one, encD_cells, AVone_v, AVone_sl, AVone_agg, AVone_ref, AVone_fn, AVone_ifc, AVcells_v, AVcells_sl, AVcells_agg, AVcells_ref, AVcells_fn, AVcells_ifc, Value.oneCell', allSz]; done) | (simp [hdOK_encB, allSz_encB, encB_length, hdOK_encU, hdOK_encL, allSz_encU, allSz_encL, encU_length, encL_length, encD_one, encD_cells, AVone_v, AVone_sl, AVone_agg, AVone_ref, AVone_fn, AVone_ifc, AVcells_v, AVcells_sl, AVcells_agg, AVcells_ref, AVcells_fn, AVcells_ifc, Value.oneCell', allSz]; omega)) (hv) ?_; refine GC_run2 4000 ?_; dsimp only [go_sem, Nat.reduceBEq, Nat.reduceAdd, Nat.reduceMul, Nat.reduceSub, Int.reduceBEq, Int.reduceBNe, Int.reduceAdd, Int.reduceSub, Int.reduceMul, Int.reduceToNat, Int.reduceNeg])
    (refine GC.call (by first | rfl | (simp; done) | (simp [hdOK_encB, allSz_encB, encB_length, hdOK_encU, hdOK_encL, allSz_encU, allSz_encL, encU_length, encL_length, encD_one, encD_cells, AVone_v, AVone_sl, AVone_agg, AVone_ref, AVone_fn, AVone_ifc, AVcells_v, AVcells_sl, AVcells_agg, AVcells_ref, AVcells_fn, AVcells_ifc, Value.oneCell', allSz]; done) | (simp [hdOK_encB, allSz_encB, encB_length, hdOK_encU, hdOK_encL, allSz_encU, allSz_encL, encU_length, encL_length, encD_one, encD_cells, AVone_v, AVone_sl, AVone_agg, AVone_ref, AVone_fn, AVone_ifc, AVcells_v, AVcells_sl, AVcells_agg, AVcells_ref, AVcells_fn, AVcells_ifc, Value.oneCell', allSz]; omega)) (hn) ?_; refine GC_run2 4000 ?_; dsimp only [go_sem, Nat.reduceBEq, Nat.reduceAdd, Nat.reduceMul, Nat.reduceSub, Int.reduceBEq, Int.reduceBNe, Int.reduceAdd, Int.reduceSub, Int.reduceMul, Int.reduceToNat, Int.reduceNeg])
    (repeat (simp only [hd]; try (dsimp only [go_sem, Nat.reduceBEq, Nat.reduceAdd, Nat.reduceMul, Nat.reduceSub, Int.reduceBEq, Int.reduceBNe, Int.reduceAdd, Int.reduceSub, Int.reduceMul, Int.reduceToNat, Int.reduceNeg])))
    (refine GC.call (by first | rfl | (simp; done) | (simp [hdOK_encB, allSz_encB, encB_length, hdOK_encU, hdOK_encL, allSz_encU, allSz_encL, encU_length, encL_length, encD_one, encD_cells, AVone_v, AVone_sl, AVone_agg, AVone_ref, AVone_fn, AVone_ifc, AVcells_v, AVcells_sl, AVcells_agg, AVcells_ref, AVcells_fn, AVcells_ifc, Value.oneCell', allSz]; done) | (simp [hdOK_encB, allSz_encB, encB_length, hdOK_encU, hdOK_encL, allSz_encU, allSz_encL, encU_length, encL_length, encD_one, encD_cells, AVone_v, AVone_sl, AVone_agg, AVone_ref, AVone_fn, AVone_ifc, AVcells_v, AVcells_sl, AVcells_agg, AVcells_ref, AVcells_fn, AVcells_ifc, Value.oneCell', allSz]; omega)) (hs) ?_; refine GC_run2 4000 ?_; dsimp only [go_sem, Nat.reduceBEq, Nat.reduceAdd, Nat.reduceMul, Nat.reduceSub, Int.reduceBEq, Int.reduceBNe, Int.reduceAdd, Int.reduceSub, Int.reduceMul, Int.reduceToNat, Int.reduceNeg])
    refine GC.finE (by first | rfl | (simp; done) | (simp [hdOK_encB, allSz_encB, encB_length, hdOK_encU, hdOK_encL, allSz_encU, allSz_encL, encU_length, encL_length, encD_one, encD_cells, AVone_v, AVone_sl, AVone_agg, AVone_ref, AVone_fn, AVone_ifc, AVcells_v, AVcells_sl, AVcells_agg, AVcells_ref, AVcells_fn, AVcells_ifc, Value.oneCell', allSz]; done) | (simp [hdOK_encB, allSz_encB, encB_length, hdOK_encU, hdOK_encL, allSz_encU, allSz_encL, encU_length, encL_length, encD_one, encD_cells, AVone_v, AVone_sl, AVone_agg, AVone_ref, AVone_fn, AVone_ifc, AVcells_v, AVcells_sl, AVcells_agg, AVcells_ref, AVcells_fn, AVcells_ifc, Value.oneCell', allSz]; omega)) ?_
    rfl
end
end Go.Sy

/- Contracts of the program's functions over abstract values. By gen.py. -/
set_option linter.unusedVariables false
set_option linter.unusedSimpArgs false
set_option maxRecDepth 100000
set_option maxHeartbeats 4000000
namespace Go.Sy
open Go.Proofs
attribute [local go_sem] runO_t runO_f band_t band_f bor_t bor_f bnot_t bnot_f gdK_tt gdK_ff gdK_tf gdK_ft brK_t brK_f runE_some runF_some runA_some runG_some runB_some runX_some runR_some run_nil run_skip run_seq run_region run_block run_blk run_exit run_cond run_ret run_loop run_lp run_opsNil run_opsOrd run_opsOp run_opsGuard run_cl run_gd run_br run_fin run_clx run_fst run_callf runY_t runY_f runS_some runV_t runV_f aBuildK_t aBuildK_f Mode.plain run_move run_nilCheck run_assign run_pick run_alloc run_box run_build run_buildSlice run_load run_store run_binOp run_unOp run_convert run_slice run_fieldAddr run_indexAddr run_index run_field run_extract run_makeInterface run_makeFunc run_len run_max run_min run_append St.ev St.evl St.evs St.evo capsOf callOf look drop put putAll toTV_nil toTV_int toTV_bool toTV_str toTV_ptr toTV_ifc toTV_fn toAV_nil toAV_int toAV_bool toAV_str toAV_ptr toAV_ifc toAV_fn aAssign_nil aAssign_tmp aAssign_int aAssign_bool aAssign_str aAssign_ptr aAssign_nilf aAssign_ifc aAssign_func aAssign_glob nilConst_slice nilConst_ptr nilConst_ifc nilConst_tmp plain Option.bind TV.cells TV.one AVone_v AVone_sl AVone_agg AVone_ref AVone_fn AVone_ifc AVone_sent Value.oneCell' oneVs avOf avsOf expo expos expoC exposC TV.isC allC fillsT aBuildT lendR ren renT0 renC renT renO renW xFoot xSt newIds retX retXs isT0 asList List.map St.app setD St.setT ownD trA effFoot callFoot callSt callReq St.fresh freshT freshO allFresh TV.ment TVs.ment SObj.ment fsts mentW noFoot List.contains List.elem aPick aAlloc aBox aBuild aBuildSlice nonNil allSz aUn aConv aField aIndex aByte aPart aExtract aIface aFunc aLen ty1 aMax aApp aAppend aCheck emptyL aSlice okHd hdOK_nil hdOK_cons aLoad aStore aBin aNil sBin sInt_add sInt_sub sInt_mul sInt_eql sInt_neq sInt_lss sInt_leq sInt_gtr sInt_geq sInt_and sInt_or sInt_quo sInt_rem isSh sameSh nilness fills fillAt fillTV putCells intOf? mkInt AVcells_v AVcells_sl AVcells_agg AVcells_ref AVcells_fn AVcells_ifc AVcells_sent St.g0 St.g guardOf guardOff udf argsOf lends lendBox bindRes bindR bindRs flatR flatV boolOf retItems retItems0 retItem rowsOf disjB ownIds resIds nodupB St.init initT popTo cond_true cond_false Option.getD Option.map List.take List.drop List.length List.zip List.zipWith List.range List.range.loop List.append List.foldr List.nil_append List.cons_append List.append_nil List.getElem?_cons_zero List.getElem?_cons_succ GetElem?.getElem? List.get?Internal Int.toNat_natCast cst0 cst1 cst2 cst3 cst4 cst5 cst6 cst7 cst8 cst9 cst10 cst11 toNat0 toNat1 toNat2 toNat3 getD0 getD1 getD2 getD3 run_zero memN keepT dropO St.re leT leO D_q2  D_q3  D_q4  D_q5  D_q9  D_q12  D_q21  D_q22  D_q24  D_q25  D_q27  D_q28  D_q32  D_q46  D_q48  D_q50  D_q52  D_q53  D_q54  D_q56  D_q57  D_q61  D_q70  D_q72  D_q76  D_q77  D_q79  D_q80  D_q83  D_q85  D_q91  D_q93  D_q104  D_q108  D_q115  D_q118  D_q121  D_q134  D_q136  D_q137
section
variable {W0 : World} {κ : Nat → Addr} {GG : Nat → Option AV}

set_option maxHeartbeats 1000000 in
theorem D_runes (s : ByteArray) (hs : s.size < 1099511627776) : Sound (CD W0 κ GG) 80 [.v (.string s)] (if Lib.validD s.data.toList then [.own true 21 1 (encI .i32 (runeR s (Lib.runeCount s))), .av (.v (.bool true))] else [.av (.sl []), .av (.v (.bool false))]) := by
  (refine Sound.of_go D_ok D_mix Tryd.func80 rfl (by decide) (by kernel_rfl) (GC.go ?_); refine GC_run2 4000 ?_; dsimp only [Tryd.f80, CD, go_sem, Nat.reduceBEq, Nat.reduceAdd, Nat.reduceMul, Nat.reduceSub, Int.reduceBEq, Int.reduceBNe, Int.reduceAdd, Int.reduceSub, Int.reduceMul, Int.reduceToNat, Int.reduceNeg, encD])
  refine GC.loopR (by first | rfl | (simp; done) | (simp [hdOK_encI, allSz_encI, encI_length, hdOK_encU, hdOK_encL, allSz_encU, allSz_encL, encU_length, encL_length, encD_one, encD_cells, AVone_v, AVone_sl, AVone_agg, AVone_ref, AVone_fn, AVone_ifc, AVcells_v, AVcells_sl, AVcells_agg, AVcells_ref, AVcells_fn, AVcells_ifc, Value.oneCell', allSz]; done) | (simp [hdOK_encI, allSz_encI, encI_length, hdOK_encU, hdOK_encL, allSz_encU, allSz_encL, encU_length, encL_length, encD_one, encD_cells, AVone_v, AVone_sl, AVone_agg, AVone_ref, AVone_fn, AVone_ifc, AVcells_v, AVcells_sl, AVcells_agg, AVcells_ref, AVcells_fn, AVcells_ifc, Value.oneCell', allSz]; omega)) s.size [0] (fun j => [(4, .row 32 j), (5, .av (.v (.int .i64 (posR s j))))]) (fun j => [(32, .row true 21 1 (encI .i32 (runeR s j)))]) (fun j => okR s j) ⟨rfl, rfl, trivial⟩ ⟨rfl, trivial⟩ (fun i hi => by omega) (fun j hj hI => ?_)
  have hge := posR_ge s j
  have hple := posR_le hI
  have hrl : (encI .i32 (runeR s j)).length = j := by rw [encI_length, runeR_length]
  rcases Nat.lt_or_ge (posR s j) s.size with hlt | hge2
  case inr =>
    have he : posR s j = s.size := by omega
    have hd : decide ((posR s j : Int) < (s.size : Int)) = false := by simp; omega
    have hv := valid_end hI he
    have hcn := count_end hI he
    (refine GC_run2 4000 ?_; dsimp only [go_sem, Nat.reduceBEq, Nat.reduceAdd, Nat.reduceMul, Nat.reduceSub, Int.reduceBEq, Int.reduceBNe, Int.reduceAdd, Int.reduceSub, Int.reduceMul, Int.reduceToNat, Int.reduceNeg])
    (repeat (simp only [hd]; try (dsimp only [go_sem, Nat.reduceBEq, Nat.reduceAdd, Nat.reduceMul, Nat.reduceSub, Int.reduceBEq, Int.reduceBNe, Int.reduceAdd, Int.reduceSub, Int.reduceMul, Int.reduceToNat, Int.reduceNeg])))
    refine GC.finE (by first | (simp [hdOK_encU, hdOK_encL, allSz_encU, allSz_encL, encU_length, encL_length, encD_one, encD_cells, AVone_v, AVone_sl, AVone_agg, AVone_ref, AVone_fn, AVone_ifc, AVcells_v, AVcells_sl, AVcells_agg, AVcells_ref, AVcells_fn, AVcells_ifc, Value.oneCell', allSz, allSz_encI, encI_length, hdOK_encI, hrl]; done) | (simp [hdOK_encU, hdOK_encL, allSz_encU, allSz_encL, encU_length, encL_length, encD_one, encD_cells, AVone_v, AVone_sl, AVone_agg, AVone_ref, AVone_fn, AVone_ifc, AVcells_v, AVcells_sl, AVcells_agg, AVcells_ref, AVcells_fn, AVcells_ifc, Value.oneCell', allSz, allSz_encI, encI_length, hdOK_encI, hrl]; omega)) ?_
    rw [hv, hcn]; rfl
  have hd : decide ((posR s j : Int) < (s.size : Int)) = true := by simp; omega
  have hbt := bt_bN s hlt
  generalize hp : posR s j = p at *
  have hb0 := bN_lt s p
  have hw8 : IntKind.i32.wrap (bN s p : Int) = (bN s p : Int) := wrap_i32_small (by omega)
  (refine GC_run2 4000 ?_; dsimp only [go_sem, Nat.reduceBEq, Nat.reduceAdd, Nat.reduceMul, Nat.reduceSub, Int.reduceBEq, Int.reduceBNe, Int.reduceAdd, Int.reduceSub, Int.reduceMul, Int.reduceToNat, Int.reduceNeg])
  (repeat (simp only [hd, hbt, hw8]; try (dsimp only [go_sem, Nat.reduceBEq, Nat.reduceAdd, Nat.reduceMul, Nat.reduceSub, Int.reduceBEq, Int.reduceBNe, Int.reduceAdd, Int.reduceSub, Int.reduceMul, Int.reduceToNat, Int.reduceNeg])))
  (refine GC.ord (by first | rfl | (simp; done) | (simp [hdOK_encI, allSz_encI, encI_length, hdOK_encU, hdOK_encL, allSz_encU, allSz_encL, encU_length, encL_length, encD_one, encD_cells, AVone_v, AVone_sl, AVone_agg, AVone_ref, AVone_fn, AVone_ifc, AVcells_v, AVcells_sl, AVcells_agg, AVcells_ref, AVcells_fn, AVcells_ifc, Value.oneCell', allSz]; done) | (simp [hdOK_encI, allSz_encI, encI_length, hdOK_encU, hdOK_encL, allSz_encU, allSz_encL, encU_length, encL_length, encD_one, encD_cells, AVone_v, AVone_sl, AVone_agg, AVone_ref, AVone_fn, AVone_ifc, AVcells_v, AVcells_sl, AVcells_agg, AVcells_ref, AVcells_fn, AVcells_ifc, Value.oneCell', allSz]; omega)) (by kernel_rfl) (by kernel_rfl) ?_; refine GC_run2 4000 ?_; dsimp only [go_sem, Nat.reduceBEq, Nat.reduceAdd, Nat.reduceMul, Nat.reduceSub, Int.reduceBEq, Int.reduceBNe, Int.reduceAdd, Int.reduceSub, Int.reduceMul, Int.reduceToNat, Int.reduceNeg])
  by_cases h1 : bN s p < 128
  · have d0 : decide ((bN s p : Int) < 128) = true := by simp; omega
    (repeat (simp only [d0]; try (dsimp only [go_sem, Nat.reduceBEq, Nat.reduceAdd, Nat.reduceMul, Nat.reduceSub, Int.reduceBEq, Int.reduceBNe, Int.reduceAdd, Int.reduceSub, Int.reduceMul, Int.reduceToNat, Int.reduceNeg])))
    have wpn : IntKind.i64.wrap ((p : Int) + 1) = ((p + 1 : Nat) : Int) := by rw [wrap_i64 (by omega) (by omega)]; omega
    have hshd : decide (((p + 1 : Nat) : Int) > (s.size : Int)) = false := by simp; omega
    (repeat (simp only [wpn, hshd]; try (dsimp only [go_sem, Nat.reduceBEq, Nat.reduceAdd, Nat.reduceMul, Nat.reduceSub, Int.reduceBEq, Int.reduceBNe, Int.reduceAdd, Int.reduceSub, Int.reduceMul, Int.reduceToNat, Int.reduceNeg])))

    refine GC.loopR (by first | rfl | (simp; done) | (simp [hdOK_encI, allSz_encI, encI_length, hdOK_encU, hdOK_encL, allSz_encU, allSz_encL, encU_length, encL_length, encD_one, encD_cells, AVone_v, AVone_sl, AVone_agg, AVone_ref, AVone_fn, AVone_ifc, AVcells_v, AVcells_sl, AVcells_agg, AVcells_ref, AVcells_fn, AVcells_ifc, Value.oneCell', allSz]; done) | (simp [hdOK_encI, allSz_encI, encI_length, hdOK_encU, hdOK_encL, allSz_encU, allSz_encL, encU_length, encL_length, encD_one, encD_cells, AVone_v, AVone_sl, AVone_agg, AVone_ref, AVone_fn, AVone_ifc, AVcells_v, AVcells_sl, AVcells_agg, AVcells_ref, AVcells_fn, AVcells_ifc, Value.oneCell', allSz]; omega)) 0 [0, 4, 5, 6] (fun q => [(7, .av (.v (.int .i32 (bN s p : Nat)))), (8, .av (.v (.int .i64 1)))]) (fun q => []) (fun q => True) ⟨rfl, rfl, trivial⟩ trivial trivial (fun q hq _ => ?_)
    have hch := D_rchar (W0 := W0) (κ := κ) (GG := GG) (bN s p : Int)
    have hok : charOK (bN s p : Int) = true := by unfold charOK; simp; omega
    rw [hok] at hch
    have hdec := dec_one (s := s) (p := p) (by omega)
    have hnb := bad_one (s := s) (p := p) (by omega)
    generalize hr : bN s p = r at *
    have hdq : decide ((1 : Int) < 1) = false := by simp
    (refine GC_run2 4000 ?_; dsimp only [go_sem, Nat.reduceBEq, Nat.reduceAdd, Nat.reduceMul, Nat.reduceSub, Int.reduceBEq, Int.reduceBNe, Int.reduceAdd, Int.reduceSub, Int.reduceMul, Int.reduceToNat, Int.reduceNeg])
    (repeat (simp only [hdq]; try (dsimp only [go_sem, Nat.reduceBEq, Nat.reduceAdd, Nat.reduceMul, Nat.reduceSub, Int.reduceBEq, Int.reduceBNe, Int.reduceAdd, Int.reduceSub, Int.reduceMul, Int.reduceToNat, Int.reduceNeg])))

    (refine GC.call (by first | rfl | (simp; done) | (simp [hdOK_encI, allSz_encI, encI_length, hdOK_encU, hdOK_encL, allSz_encU, allSz_encL, encU_length, encL_length, encD_one, encD_cells, AVone_v, AVone_sl, AVone_agg, AVone_ref, AVone_fn, AVone_ifc, AVcells_v, AVcells_sl, AVcells_agg, AVcells_ref, AVcells_fn, AVcells_ifc, Value.oneCell', allSz]; done) | (simp [hdOK_encI, allSz_encI, encI_length, hdOK_encU, hdOK_encL, allSz_encU, allSz_encL, encU_length, encL_length, encD_one, encD_cells, AVone_v, AVone_sl, AVone_agg, AVone_ref, AVone_fn, AVone_ifc, AVcells_v, AVcells_sl, AVcells_agg, AVcells_ref, AVcells_fn, AVcells_ifc, Value.oneCell', allSz]; omega)) (hch) ?_; refine GC_run2 4000 ?_; dsimp only [go_sem, Nat.reduceBEq, Nat.reduceAdd, Nat.reduceMul, Nat.reduceSub, Int.reduceBEq, Int.reduceBNe, Int.reduceAdd, Int.reduceSub, Int.reduceMul, Int.reduceToNat, Int.reduceNeg])
    have hst : runeR s (j + 1) = runeR s j ++ [(r : Int)] := by rw [runeR, hp, hdec]
    have hps : posR s (j + 1) = p + 1 := by rw [posR, hp, hdec]
    have hI2 := okR_succ hI (by omega) (by rw [hp]; exact hnb)
    have wp : IntKind.i64.wrap ((p : Int) + 1) = ((p + 1 : Nat) : Int) := by rw [wrap_i64 (by omega) (by omega)]; omega
    (refine GC.backR ((by first | (simp [hdOK_encU, hdOK_encL, allSz_encU, allSz_encL, encU_length, encL_length, encD_one, encD_cells, AVone_v, AVone_sl, AVone_agg, AVone_ref, AVone_fn, AVone_ifc, AVcells_v, AVcells_sl, AVcells_agg, AVcells_ref, AVcells_fn, AVcells_ifc, Value.oneCell', allSz, allSz_encI, encI_length, hdOK_encI, hrl]; done) | (simp [hdOK_encU, hdOK_encL, allSz_encU, allSz_encL, encU_length, encL_length, encD_one, encD_cells, AVone_v, AVone_sl, AVone_agg, AVone_ref, AVone_fn, AVone_ifc, AVcells_v, AVcells_sl, AVcells_agg, AVcells_ref, AVcells_fn, AVcells_ifc, Value.oneCell', allSz, allSz_encI, encI_length, hdOK_encI, hrl]; omega))) (by omega) (hI2) ?_ ?_ <;> (repeat' (first | exact trivial | refine And.intro ?_ ?_)) <;> (try (dsimp only [go_sem, Nat.reduceBEq, Nat.reduceAdd, Nat.reduceMul, Nat.reduceSub, Int.reduceBEq, Int.reduceBNe, Int.reduceAdd, Int.reduceSub, Int.reduceMul, Int.reduceToNat, Int.reduceNeg])))
    · exact congrArg (fun n => some (TV.row 32 n)) (by simp [encI_length, runeR_length])
    · rw [hps]; exact congrArg (fun n => some (TV.av (.v (.int .i64 n)))) wp
    · (rw [hst, encI_snoc]; try rfl)
  have d0 : decide ((bN s p : Int) < 128) = false := by simp; omega
  (repeat (simp only [d0]; try (dsimp only [go_sem, Nat.reduceBEq, Nat.reduceAdd, Nat.reduceMul, Nat.reduceSub, Int.reduceBEq, Int.reduceBNe, Int.reduceAdd, Int.reduceSub, Int.reduceMul, Int.reduceToNat, Int.reduceNeg])))
  by_cases h2 : 194 ≤ bN s p ∧ bN s p < 224
  · have d1 : decide ((bN s p : Int) ≥ 194) = true := by simp; omega
    have d2 : decide ((bN s p : Int) < 224) = true := by simp; omega
    have e0 : andK .i32 (bN s p : Int) 31 = ((bN s p % 32 : Nat) : Int) := and31 hb0
    (repeat (simp only [d1, d2, e0]; try (dsimp only [go_sem, Nat.reduceBEq, Nat.reduceAdd, Nat.reduceMul, Nat.reduceSub, Int.reduceBEq, Int.reduceBNe, Int.reduceAdd, Int.reduceSub, Int.reduceMul, Int.reduceToNat, Int.reduceNeg])))
    have hlead : leadOK 2 (bN s p) := by unfold leadOK; omega

    have wpn : IntKind.i64.wrap ((p : Int) + 2) = ((p + 2 : Nat) : Int) := by rw [wrap_i64 (by omega) (by omega)]; omega
    by_cases hsh : s.size < p + 2
    · have hshd : decide (((p + 2 : Nat) : Int) > (s.size : Int)) = true := by simp; omega
      have hbad := valid_bad hI (by omega) (by rw [hp]; exact bad_short hlead hsh)
      (repeat (simp only [wpn, hshd]; try (dsimp only [go_sem, Nat.reduceBEq, Nat.reduceAdd, Nat.reduceMul, Nat.reduceSub, Int.reduceBEq, Int.reduceBNe, Int.reduceAdd, Int.reduceSub, Int.reduceMul, Int.reduceToNat, Int.reduceNeg])))
      refine GC.finE (by first | rfl | (simp; done) | (simp [hdOK_encI, allSz_encI, encI_length, hdOK_encU, hdOK_encL, allSz_encU, allSz_encL, encU_length, encL_length, encD_one, encD_cells, AVone_v, AVone_sl, AVone_agg, AVone_ref, AVone_fn, AVone_ifc, AVcells_v, AVcells_sl, AVcells_agg, AVcells_ref, AVcells_fn, AVcells_ifc, Value.oneCell', allSz]; done) | (simp [hdOK_encI, allSz_encI, encI_length, hdOK_encU, hdOK_encL, allSz_encU, allSz_encL, encU_length, encL_length, encD_one, encD_cells, AVone_v, AVone_sl, AVone_agg, AVone_ref, AVone_fn, AVone_ifc, AVcells_v, AVcells_sl, AVcells_agg, AVcells_ref, AVcells_fn, AVcells_ifc, Value.oneCell', allSz]; omega)) ?_
      rw [hbad]; rfl
    have hshd : decide (((p + 2 : Nat) : Int) > (s.size : Int)) = false := by simp; omega
    (repeat (simp only [wpn, hshd]; try (dsimp only [go_sem, Nat.reduceBEq, Nat.reduceAdd, Nat.reduceMul, Nat.reduceSub, Int.reduceBEq, Int.reduceBNe, Int.reduceAdd, Int.reduceSub, Int.reduceMul, Int.reduceToNat, Int.reduceNeg])))

    refine GC.loopR (by first | rfl | (simp; done) | (simp [hdOK_encI, allSz_encI, encI_length, hdOK_encU, hdOK_encL, allSz_encU, allSz_encL, encU_length, encL_length, encD_one, encD_cells, AVone_v, AVone_sl, AVone_agg, AVone_ref, AVone_fn, AVone_ifc, AVcells_v, AVcells_sl, AVcells_agg, AVcells_ref, AVcells_fn, AVcells_ifc, Value.oneCell', allSz]; done) | (simp [hdOK_encI, allSz_encI, encI_length, hdOK_encU, hdOK_encL, allSz_encU, allSz_encL, encU_length, encL_length, encD_one, encD_cells, AVone_v, AVone_sl, AVone_agg, AVone_ref, AVone_fn, AVone_ifc, AVcells_v, AVcells_sl, AVcells_agg, AVcells_ref, AVcells_fn, AVcells_ifc, Value.oneCell', allSz]; omega)) 1 [0, 4, 5, 6] (fun q => [(7, .av (.v (.int .i32 (accN s p (lead 2 (bN s p)) q : Nat)))), (8, .av (.v (.int .i64 (q + 1 : Nat))))]) (fun q => []) (fun q => ∀ i, i < q → bN s (p + i + 1) / 64 = 2) ⟨by first | rfl | exact congrArg (fun n => some (TV.av (.v (.int .i32 n)))) e0, rfl, trivial⟩ trivial (fun i hi => by omega) (fun q hq hQ => ?_)
    rcases Nat.lt_or_ge q 1 with hq1 | hq1
    · have hdq : decide (((q + 1 : Nat) : Int) < 2) = true := by simp; omega
      have wpq : IntKind.i64.wrap ((p : Int) + ((q + 1 : Nat) : Int)) = ((p + q + 1 : Nat) : Int) := by rw [wrap_i64 (by omega) (by omega)]; omega
      have hbq := bN_lt s (p + q + 1)
      have hbt : bt s (p + q + 1) = (bN s (p + q + 1) : Int) := bt_bN s (by omega)
      have h192 : (andK .u8 (bN s (p + q + 1) : Int) 192 != 128) = !decide (bN s (p + q + 1) / 64 = 2) := and192 hbq
      by_cases hc : bN s (p + q + 1) / 64 = 2
      · have hcd : (!decide (bN s (p + q + 1) / 64 = 2)) = false := by simp [hc]
        have h63 : andK .u8 (bN s (p + q + 1) : Int) 63 = ((bN s (p + q + 1) % 64 : Nat) : Int) := and63 hbq
        have hcv : IntKind.i32.wrap ((bN s (p + q + 1) % 64 : Nat) : Int) = ((bN s (p + q + 1) % 64 : Nat) : Int) := wrap_i32_small (by omega)
        have hacc := accN_lt s p (r0 := lead 2 (bN s p)) (by rw [lead2]; omega) q
        have hpow : 64 ^ q ≤ 64 ^ 2 := Nat.pow_le_pow_right (by omega) (by omega)
        have hor : orK .i32 (IntKind.i32.wrap (((accN s p (lead 2 (bN s p)) q : Nat) : Int) * 2 ^ min (Int.toNat 6) IntKind.i32.bits)) ((bN s (p + q + 1) % 64 : Nat) : Int) = ((accN s p (lead 2 (bN s p)) (q + 1) : Nat) : Int) := or_six (by omega) (by omega)
        have wq : IntKind.i64.wrap (((q + 1 : Nat) : Int) + 1) = ((q + 1 + 1 : Nat) : Int) := by rw [wrap_i64 (by omega) (by omega)]; omega
        have hQ2 : ∀ i, i < q + 1 → bN s (p + i + 1) / 64 = 2 := fun i hi => by
          rcases Nat.lt_or_ge i q with h | h
          · exact hQ i h
          · have : i = q := by omega
            subst this; exact hc
        (refine GC_run2 4000 ?_; dsimp only [go_sem, Nat.reduceBEq, Nat.reduceAdd, Nat.reduceMul, Nat.reduceSub, Int.reduceBEq, Int.reduceBNe, Int.reduceAdd, Int.reduceSub, Int.reduceMul, Int.reduceToNat, Int.reduceNeg])
        (repeat (simp only [hdq, wpq, hbt, h192, hcd, h63, hcv]; try (dsimp only [go_sem, Nat.reduceBEq, Nat.reduceAdd, Nat.reduceMul, Nat.reduceSub, Int.reduceBEq, Int.reduceBNe, Int.reduceAdd, Int.reduceSub, Int.reduceMul, Int.reduceToNat, Int.reduceNeg])))
        (refine GC.backR ((by first | rfl | (simp; done) | (simp [hdOK_encI, allSz_encI, encI_length, hdOK_encU, hdOK_encL, allSz_encU, allSz_encL, encU_length, encL_length, encD_one, encD_cells, AVone_v, AVone_sl, AVone_agg, AVone_ref, AVone_fn, AVone_ifc, AVcells_v, AVcells_sl, AVcells_agg, AVcells_ref, AVcells_fn, AVcells_ifc, Value.oneCell', allSz]; done) | (simp [hdOK_encI, allSz_encI, encI_length, hdOK_encU, hdOK_encL, allSz_encU, allSz_encL, encU_length, encL_length, encD_one, encD_cells, AVone_v, AVone_sl, AVone_agg, AVone_ref, AVone_fn, AVone_ifc, AVcells_v, AVcells_sl, AVcells_agg, AVcells_ref, AVcells_fn, AVcells_ifc, Value.oneCell', allSz]; omega))) (by omega) (hQ2) ?_ ?_ <;> (repeat' (first | exact trivial | refine And.intro ?_ ?_)) <;> (try (dsimp only [go_sem, Nat.reduceBEq, Nat.reduceAdd, Nat.reduceMul, Nat.reduceSub, Int.reduceBEq, Int.reduceBNe, Int.reduceAdd, Int.reduceSub, Int.reduceMul, Int.reduceToNat, Int.reduceNeg])))
        · exact congrArg (fun n => some (TV.av (.v (.int .i32 n)))) hor
        · exact congrArg (fun n => some (TV.av (.v (.int .i64 n)))) wq
      · have hcd : (!decide (bN s (p + q + 1) / 64 = 2)) = true := by simp [hc]
        have hbad := valid_bad hI (by omega) (by rw [hp]; exact bad_cont (n := 2) (j := q) hlead (by omega) hc)
        (refine GC_run2 4000 ?_; dsimp only [go_sem, Nat.reduceBEq, Nat.reduceAdd, Nat.reduceMul, Nat.reduceSub, Int.reduceBEq, Int.reduceBNe, Int.reduceAdd, Int.reduceSub, Int.reduceMul, Int.reduceToNat, Int.reduceNeg])
        (repeat (simp only [hdq, wpq, hbt, h192, hcd]; try (dsimp only [go_sem, Nat.reduceBEq, Nat.reduceAdd, Nat.reduceMul, Nat.reduceSub, Int.reduceBEq, Int.reduceBNe, Int.reduceAdd, Int.reduceSub, Int.reduceMul, Int.reduceToNat, Int.reduceNeg])))
        refine GC.finE (by first | rfl | (simp; done) | (simp [hdOK_encI, allSz_encI, encI_length, hdOK_encU, hdOK_encL, allSz_encU, allSz_encL, encU_length, encL_length, encD_one, encD_cells, AVone_v, AVone_sl, AVone_agg, AVone_ref, AVone_fn, AVone_ifc, AVcells_v, AVcells_sl, AVcells_agg, AVcells_ref, AVcells_fn, AVcells_ifc, Value.oneCell', allSz]; done) | (simp [hdOK_encI, allSz_encI, encI_length, hdOK_encU, hdOK_encL, allSz_encU, allSz_encL, encU_length, encL_length, encD_one, encD_cells, AVone_v, AVone_sl, AVone_agg, AVone_ref, AVone_fn, AVone_ifc, AVcells_v, AVcells_sl, AVcells_agg, AVcells_ref, AVcells_fn, AVcells_ifc, Value.oneCell', allSz]; omega)) ?_
        rw [hbad]; rfl
    have : q = 1 := by omega
    subst this
    have hdq : decide ((2 : Int) < 2) = false := by simp
    have hmore := dec_more hlead (by omega) (fun i hi => hQ i (by omega))
    generalize hr : accN s p (lead 2 (bN s p)) 1 = r at *
    (refine GC_run2 4000 ?_; dsimp only [go_sem, Nat.reduceBEq, Nat.reduceAdd, Nat.reduceMul, Nat.reduceSub, Int.reduceBEq, Int.reduceBNe, Int.reduceAdd, Int.reduceSub, Int.reduceMul, Int.reduceToNat, Int.reduceNeg])
    (repeat (simp only [hdq]; try (dsimp only [go_sem, Nat.reduceBEq, Nat.reduceAdd, Nat.reduceMul, Nat.reduceSub, Int.reduceBEq, Int.reduceBNe, Int.reduceAdd, Int.reduceSub, Int.reduceMul, Int.reduceToNat, Int.reduceNeg])))

    have hch := D_rchar (W0 := W0) (κ := κ) (GG := GG) (r : Int)
    by_cases hok : charOK (r : Int) = true
    case neg =>
      have hok : charOK (r : Int) = false := by simpa using hok
      rw [hok] at hch
      have hbad := valid_bad hI (by omega) (by rw [hp]; exact hmore.2 (by unfold runeOK; unfold charOK at hok; simp at hok; omega))
      (refine GC.call (by first | rfl | (simp; done) | (simp [hdOK_encI, allSz_encI, encI_length, hdOK_encU, hdOK_encL, allSz_encU, allSz_encL, encU_length, encL_length, encD_one, encD_cells, AVone_v, AVone_sl, AVone_agg, AVone_ref, AVone_fn, AVone_ifc, AVcells_v, AVcells_sl, AVcells_agg, AVcells_ref, AVcells_fn, AVcells_ifc, Value.oneCell', allSz]; done) | (simp [hdOK_encI, allSz_encI, encI_length, hdOK_encU, hdOK_encL, allSz_encU, allSz_encL, encU_length, encL_length, encD_one, encD_cells, AVone_v, AVone_sl, AVone_agg, AVone_ref, AVone_fn, AVone_ifc, AVcells_v, AVcells_sl, AVcells_agg, AVcells_ref, AVcells_fn, AVcells_ifc, Value.oneCell', allSz]; omega)) (hch) ?_; refine GC_run2 4000 ?_; dsimp only [go_sem, Nat.reduceBEq, Nat.reduceAdd, Nat.reduceMul, Nat.reduceSub, Int.reduceBEq, Int.reduceBNe, Int.reduceAdd, Int.reduceSub, Int.reduceMul, Int.reduceToNat, Int.reduceNeg])
      refine GC.finE (by first | rfl | (simp; done) | (simp [hdOK_encI, allSz_encI, encI_length, hdOK_encU, hdOK_encL, allSz_encU, allSz_encL, encU_length, encL_length, encD_one, encD_cells, AVone_v, AVone_sl, AVone_agg, AVone_ref, AVone_fn, AVone_ifc, AVcells_v, AVcells_sl, AVcells_agg, AVcells_ref, AVcells_fn, AVcells_ifc, Value.oneCell', allSz]; done) | (simp [hdOK_encI, allSz_encI, encI_length, hdOK_encU, hdOK_encL, allSz_encU, allSz_encL, encU_length, encL_length, encD_one, encD_cells, AVone_v, AVone_sl, AVone_agg, AVone_ref, AVone_fn, AVone_ifc, AVcells_v, AVcells_sl, AVcells_agg, AVcells_ref, AVcells_fn, AVcells_ifc, Value.oneCell', allSz]; omega)) ?_
      rw [hbad]; rfl
    rw [hok] at hch
    have hdec := hmore.1 (by unfold runeOK; unfold charOK at hok; simp at hok; omega)
    have hnb : ¬ badAt s p := by
      intro hb
      unfold badAt at hb
      rw [hdec] at hb
      omega

    (refine GC.call (by first | rfl | (simp; done) | (simp [hdOK_encI, allSz_encI, encI_length, hdOK_encU, hdOK_encL, allSz_encU, allSz_encL, encU_length, encL_length, encD_one, encD_cells, AVone_v, AVone_sl, AVone_agg, AVone_ref, AVone_fn, AVone_ifc, AVcells_v, AVcells_sl, AVcells_agg, AVcells_ref, AVcells_fn, AVcells_ifc, Value.oneCell', allSz]; done) | (simp [hdOK_encI, allSz_encI, encI_length, hdOK_encU, hdOK_encL, allSz_encU, allSz_encL, encU_length, encL_length, encD_one, encD_cells, AVone_v, AVone_sl, AVone_agg, AVone_ref, AVone_fn, AVone_ifc, AVcells_v, AVcells_sl, AVcells_agg, AVcells_ref, AVcells_fn, AVcells_ifc, Value.oneCell', allSz]; omega)) (hch) ?_; refine GC_run2 4000 ?_; dsimp only [go_sem, Nat.reduceBEq, Nat.reduceAdd, Nat.reduceMul, Nat.reduceSub, Int.reduceBEq, Int.reduceBNe, Int.reduceAdd, Int.reduceSub, Int.reduceMul, Int.reduceToNat, Int.reduceNeg])
    have hst : runeR s (j + 1) = runeR s j ++ [(r : Int)] := by rw [runeR, hp, hdec]
    have hps : posR s (j + 1) = p + 2 := by rw [posR, hp, hdec]
    have hI2 := okR_succ hI (by omega) (by rw [hp]; exact hnb)
    have wp : IntKind.i64.wrap ((p : Int) + 2) = ((p + 2 : Nat) : Int) := by rw [wrap_i64 (by omega) (by omega)]; omega
    (refine GC.backR ((by first | (simp [hdOK_encU, hdOK_encL, allSz_encU, allSz_encL, encU_length, encL_length, encD_one, encD_cells, AVone_v, AVone_sl, AVone_agg, AVone_ref, AVone_fn, AVone_ifc, AVcells_v, AVcells_sl, AVcells_agg, AVcells_ref, AVcells_fn, AVcells_ifc, Value.oneCell', allSz, allSz_encI, encI_length, hdOK_encI, hrl]; done) | (simp [hdOK_encU, hdOK_encL, allSz_encU, allSz_encL, encU_length, encL_length, encD_one, encD_cells, AVone_v, AVone_sl, AVone_agg, AVone_ref, AVone_fn, AVone_ifc, AVcells_v, AVcells_sl, AVcells_agg, AVcells_ref, AVcells_fn, AVcells_ifc, Value.oneCell', allSz, allSz_encI, encI_length, hdOK_encI, hrl]; omega))) (by omega) (hI2) ?_ ?_ <;> (repeat' (first | exact trivial | refine And.intro ?_ ?_)) <;> (try (dsimp only [go_sem, Nat.reduceBEq, Nat.reduceAdd, Nat.reduceMul, Nat.reduceSub, Int.reduceBEq, Int.reduceBNe, Int.reduceAdd, Int.reduceSub, Int.reduceMul, Int.reduceToNat, Int.reduceNeg])))
    · exact congrArg (fun n => some (TV.row 32 n)) (by simp [encI_length, runeR_length])
    · rw [hps]; exact congrArg (fun n => some (TV.av (.v (.int .i64 n)))) wp
    · (rw [hst, encI_snoc]; try rfl)
  by_cases g2 : 194 ≤ bN s p
  · have d1 : decide ((bN s p : Int) ≥ 194) = true := by simp; omega
    have d2 : decide ((bN s p : Int) < 224) = false := by simp; omega
    (repeat (simp only [d1, d2]; try (dsimp only [go_sem, Nat.reduceBEq, Nat.reduceAdd, Nat.reduceMul, Nat.reduceSub, Int.reduceBEq, Int.reduceBNe, Int.reduceAdd, Int.reduceSub, Int.reduceMul, Int.reduceToNat, Int.reduceNeg])))
    by_cases h3 : 224 ≤ bN s p ∧ bN s p < 240
    · have d1 : decide ((bN s p : Int) ≥ 224) = true := by simp; omega
      have d2 : decide ((bN s p : Int) < 240) = true := by simp; omega
      have e0 : andK .i32 (bN s p : Int) 15 = ((bN s p % 16 : Nat) : Int) := and15 hb0
      (repeat (simp only [d1, d2, e0]; try (dsimp only [go_sem, Nat.reduceBEq, Nat.reduceAdd, Nat.reduceMul, Nat.reduceSub, Int.reduceBEq, Int.reduceBNe, Int.reduceAdd, Int.reduceSub, Int.reduceMul, Int.reduceToNat, Int.reduceNeg])))
      have hlead : leadOK 3 (bN s p) := by unfold leadOK; omega

      have wpn : IntKind.i64.wrap ((p : Int) + 3) = ((p + 3 : Nat) : Int) := by rw [wrap_i64 (by omega) (by omega)]; omega
      by_cases hsh : s.size < p + 3
      · have hshd : decide (((p + 3 : Nat) : Int) > (s.size : Int)) = true := by simp; omega
        have hbad := valid_bad hI (by omega) (by rw [hp]; exact bad_short hlead hsh)
        (repeat (simp only [wpn, hshd]; try (dsimp only [go_sem, Nat.reduceBEq, Nat.reduceAdd, Nat.reduceMul, Nat.reduceSub, Int.reduceBEq, Int.reduceBNe, Int.reduceAdd, Int.reduceSub, Int.reduceMul, Int.reduceToNat, Int.reduceNeg])))
        refine GC.finE (by first | rfl | (simp; done) | (simp [hdOK_encI, allSz_encI, encI_length, hdOK_encU, hdOK_encL, allSz_encU, allSz_encL, encU_length, encL_length, encD_one, encD_cells, AVone_v, AVone_sl, AVone_agg, AVone_ref, AVone_fn, AVone_ifc, AVcells_v, AVcells_sl, AVcells_agg, AVcells_ref, AVcells_fn, AVcells_ifc, Value.oneCell', allSz]; done) | (simp [hdOK_encI, allSz_encI, encI_length, hdOK_encU, hdOK_encL, allSz_encU, allSz_encL, encU_length, encL_length, encD_one, encD_cells, AVone_v, AVone_sl, AVone_agg, AVone_ref, AVone_fn, AVone_ifc, AVcells_v, AVcells_sl, AVcells_agg, AVcells_ref, AVcells_fn, AVcells_ifc, Value.oneCell', allSz]; omega)) ?_
        rw [hbad]; rfl
      have hshd : decide (((p + 3 : Nat) : Int) > (s.size : Int)) = false := by simp; omega
      (repeat (simp only [wpn, hshd]; try (dsimp only [go_sem, Nat.reduceBEq, Nat.reduceAdd, Nat.reduceMul, Nat.reduceSub, Int.reduceBEq, Int.reduceBNe, Int.reduceAdd, Int.reduceSub, Int.reduceMul, Int.reduceToNat, Int.reduceNeg])))

      refine GC.loopR (by first | rfl | (simp; done) | (simp [hdOK_encI, allSz_encI, encI_length, hdOK_encU, hdOK_encL, allSz_encU, allSz_encL, encU_length, encL_length, encD_one, encD_cells, AVone_v, AVone_sl, AVone_agg, AVone_ref, AVone_fn, AVone_ifc, AVcells_v, AVcells_sl, AVcells_agg, AVcells_ref, AVcells_fn, AVcells_ifc, Value.oneCell', allSz]; done) | (simp [hdOK_encI, allSz_encI, encI_length, hdOK_encU, hdOK_encL, allSz_encU, allSz_encL, encU_length, encL_length, encD_one, encD_cells, AVone_v, AVone_sl, AVone_agg, AVone_ref, AVone_fn, AVone_ifc, AVcells_v, AVcells_sl, AVcells_agg, AVcells_ref, AVcells_fn, AVcells_ifc, Value.oneCell', allSz]; omega)) 2 [0, 4, 5, 6] (fun q => [(7, .av (.v (.int .i32 (accN s p (lead 3 (bN s p)) q : Nat)))), (8, .av (.v (.int .i64 (q + 1 : Nat))))]) (fun q => []) (fun q => ∀ i, i < q → bN s (p + i + 1) / 64 = 2) ⟨by first | rfl | exact congrArg (fun n => some (TV.av (.v (.int .i32 n)))) e0, rfl, trivial⟩ trivial (fun i hi => by omega) (fun q hq hQ => ?_)
      rcases Nat.lt_or_ge q 2 with hq1 | hq1
      · have hdq : decide (((q + 1 : Nat) : Int) < 3) = true := by simp; omega
        have wpq : IntKind.i64.wrap ((p : Int) + ((q + 1 : Nat) : Int)) = ((p + q + 1 : Nat) : Int) := by rw [wrap_i64 (by omega) (by omega)]; omega
        have hbq := bN_lt s (p + q + 1)
        have hbt : bt s (p + q + 1) = (bN s (p + q + 1) : Int) := bt_bN s (by omega)
        have h192 : (andK .u8 (bN s (p + q + 1) : Int) 192 != 128) = !decide (bN s (p + q + 1) / 64 = 2) := and192 hbq
        by_cases hc : bN s (p + q + 1) / 64 = 2
        · have hcd : (!decide (bN s (p + q + 1) / 64 = 2)) = false := by simp [hc]
          have h63 : andK .u8 (bN s (p + q + 1) : Int) 63 = ((bN s (p + q + 1) % 64 : Nat) : Int) := and63 hbq
          have hcv : IntKind.i32.wrap ((bN s (p + q + 1) % 64 : Nat) : Int) = ((bN s (p + q + 1) % 64 : Nat) : Int) := wrap_i32_small (by omega)
          have hacc := accN_lt s p (r0 := lead 3 (bN s p)) (by rw [lead3]; omega) q
          have hpow : 64 ^ q ≤ 64 ^ 2 := Nat.pow_le_pow_right (by omega) (by omega)
          have hor : orK .i32 (IntKind.i32.wrap (((accN s p (lead 3 (bN s p)) q : Nat) : Int) * 2 ^ min (Int.toNat 6) IntKind.i32.bits)) ((bN s (p + q + 1) % 64 : Nat) : Int) = ((accN s p (lead 3 (bN s p)) (q + 1) : Nat) : Int) := or_six (by omega) (by omega)
          have wq : IntKind.i64.wrap (((q + 1 : Nat) : Int) + 1) = ((q + 1 + 1 : Nat) : Int) := by rw [wrap_i64 (by omega) (by omega)]; omega
          have hQ2 : ∀ i, i < q + 1 → bN s (p + i + 1) / 64 = 2 := fun i hi => by
            rcases Nat.lt_or_ge i q with h | h
            · exact hQ i h
            · have : i = q := by omega
              subst this; exact hc
          (refine GC_run2 4000 ?_; dsimp only [go_sem, Nat.reduceBEq, Nat.reduceAdd, Nat.reduceMul, Nat.reduceSub, Int.reduceBEq, Int.reduceBNe, Int.reduceAdd, Int.reduceSub, Int.reduceMul, Int.reduceToNat, Int.reduceNeg])
          (repeat (simp only [hdq, wpq, hbt, h192, hcd, h63, hcv]; try (dsimp only [go_sem, Nat.reduceBEq, Nat.reduceAdd, Nat.reduceMul, Nat.reduceSub, Int.reduceBEq, Int.reduceBNe, Int.reduceAdd, Int.reduceSub, Int.reduceMul, Int.reduceToNat, Int.reduceNeg])))
          (refine GC.backR ((by first | rfl | (simp; done) | (simp [hdOK_encI, allSz_encI, encI_length, hdOK_encU, hdOK_encL, allSz_encU, allSz_encL, encU_length, encL_length, encD_one, encD_cells, AVone_v, AVone_sl, AVone_agg, AVone_ref, AVone_fn, AVone_ifc, AVcells_v, AVcells_sl, AVcells_agg, AVcells_ref, AVcells_fn, AVcells_ifc, Value.oneCell', allSz]; done) | (simp [hdOK_encI, allSz_encI, encI_length, hdOK_encU, hdOK_encL, allSz_encU, allSz_encL, encU_length, encL_length, encD_one, encD_cells, AVone_v, AVone_sl, AVone_agg, AVone_ref, AVone_fn, AVone_ifc, AVcells_v, AVcells_sl, AVcells_agg, AVcells_ref, AVcells_fn, AVcells_ifc, Value.oneCell', allSz]; omega))) (by omega) (hQ2) ?_ ?_ <;> (repeat' (first | exact trivial | refine And.intro ?_ ?_)) <;> (try (dsimp only [go_sem, Nat.reduceBEq, Nat.reduceAdd, Nat.reduceMul, Nat.reduceSub, Int.reduceBEq, Int.reduceBNe, Int.reduceAdd, Int.reduceSub, Int.reduceMul, Int.reduceToNat, Int.reduceNeg])))
          · exact congrArg (fun n => some (TV.av (.v (.int .i32 n)))) hor
          · exact congrArg (fun n => some (TV.av (.v (.int .i64 n)))) wq
        · have hcd : (!decide (bN s (p + q + 1) / 64 = 2)) = true := by simp [hc]
          have hbad := valid_bad hI (by omega) (by rw [hp]; exact bad_cont (n := 3) (j := q) hlead (by omega) hc)
          (refine GC_run2 4000 ?_; dsimp only [go_sem, Nat.reduceBEq, Nat.reduceAdd, Nat.reduceMul, Nat.reduceSub, Int.reduceBEq, Int.reduceBNe, Int.reduceAdd, Int.reduceSub, Int.reduceMul, Int.reduceToNat, Int.reduceNeg])
          (repeat (simp only [hdq, wpq, hbt, h192, hcd]; try (dsimp only [go_sem, Nat.reduceBEq, Nat.reduceAdd, Nat.reduceMul, Nat.reduceSub, Int.reduceBEq, Int.reduceBNe, Int.reduceAdd, Int.reduceSub, Int.reduceMul, Int.reduceToNat, Int.reduceNeg])))
          refine GC.finE (by first | rfl | (simp; done) | (simp [hdOK_encI, allSz_encI, encI_length, hdOK_encU, hdOK_encL, allSz_encU, allSz_encL, encU_length, encL_length, encD_one, encD_cells, AVone_v, AVone_sl, AVone_agg, AVone_ref, AVone_fn, AVone_ifc, AVcells_v, AVcells_sl, AVcells_agg, AVcells_ref, AVcells_fn, AVcells_ifc, Value.oneCell', allSz]; done) | (simp [hdOK_encI, allSz_encI, encI_length, hdOK_encU, hdOK_encL, allSz_encU, allSz_encL, encU_length, encL_length, encD_one, encD_cells, AVone_v, AVone_sl, AVone_agg, AVone_ref, AVone_fn, AVone_ifc, AVcells_v, AVcells_sl, AVcells_agg, AVcells_ref, AVcells_fn, AVcells_ifc, Value.oneCell', allSz]; omega)) ?_
          rw [hbad]; rfl
      have : q = 2 := by omega
      subst this
      have hdq : decide ((3 : Int) < 3) = false := by simp
      have hmore := dec_more hlead (by omega) (fun i hi => hQ i (by omega))
      generalize hr : accN s p (lead 3 (bN s p)) 2 = r at *
      (refine GC_run2 4000 ?_; dsimp only [go_sem, Nat.reduceBEq, Nat.reduceAdd, Nat.reduceMul, Nat.reduceSub, Int.reduceBEq, Int.reduceBNe, Int.reduceAdd, Int.reduceSub, Int.reduceMul, Int.reduceToNat, Int.reduceNeg])
      (repeat (simp only [hdq]; try (dsimp only [go_sem, Nat.reduceBEq, Nat.reduceAdd, Nat.reduceMul, Nat.reduceSub, Int.reduceBEq, Int.reduceBNe, Int.reduceAdd, Int.reduceSub, Int.reduceMul, Int.reduceToNat, Int.reduceNeg])))
      by_cases ho : r < 2048
      · have hod : decide ((r : Int) < 2048) = true := by simp; omega
        have hbad := valid_bad hI (by omega) (by rw [hp]; exact hmore.2 (by unfold runeOK; omega))
        (repeat (simp only [hod]; try (dsimp only [go_sem, Nat.reduceBEq, Nat.reduceAdd, Nat.reduceMul, Nat.reduceSub, Int.reduceBEq, Int.reduceBNe, Int.reduceAdd, Int.reduceSub, Int.reduceMul, Int.reduceToNat, Int.reduceNeg])))
        refine GC.finE (by first | rfl | (simp; done) | (simp [hdOK_encI, allSz_encI, encI_length, hdOK_encU, hdOK_encL, allSz_encU, allSz_encL, encU_length, encL_length, encD_one, encD_cells, AVone_v, AVone_sl, AVone_agg, AVone_ref, AVone_fn, AVone_ifc, AVcells_v, AVcells_sl, AVcells_agg, AVcells_ref, AVcells_fn, AVcells_ifc, Value.oneCell', allSz]; done) | (simp [hdOK_encI, allSz_encI, encI_length, hdOK_encU, hdOK_encL, allSz_encU, allSz_encL, encU_length, encL_length, encD_one, encD_cells, AVone_v, AVone_sl, AVone_agg, AVone_ref, AVone_fn, AVone_ifc, AVcells_v, AVcells_sl, AVcells_agg, AVcells_ref, AVcells_fn, AVcells_ifc, Value.oneCell', allSz]; omega)) ?_
        rw [hbad]; rfl
      have hod : decide ((r : Int) < 2048) = false := by simp; omega
      (repeat (simp only [hod]; try (dsimp only [go_sem, Nat.reduceBEq, Nat.reduceAdd, Nat.reduceMul, Nat.reduceSub, Int.reduceBEq, Int.reduceBNe, Int.reduceAdd, Int.reduceSub, Int.reduceMul, Int.reduceToNat, Int.reduceNeg])))

      have hch := D_rchar (W0 := W0) (κ := κ) (GG := GG) (r : Int)
      by_cases hok : charOK (r : Int) = true
      case neg =>
        have hok : charOK (r : Int) = false := by simpa using hok
        rw [hok] at hch
        have hbad := valid_bad hI (by omega) (by rw [hp]; exact hmore.2 (by unfold runeOK; unfold charOK at hok; simp at hok; omega))
        (refine GC.call (by first | rfl | (simp; done) | (simp [hdOK_encI, allSz_encI, encI_length, hdOK_encU, hdOK_encL, allSz_encU, allSz_encL, encU_length, encL_length, encD_one, encD_cells, AVone_v, AVone_sl, AVone_agg, AVone_ref, AVone_fn, AVone_ifc, AVcells_v, AVcells_sl, AVcells_agg, AVcells_ref, AVcells_fn, AVcells_ifc, Value.oneCell', allSz]; done) | (simp [hdOK_encI, allSz_encI, encI_length, hdOK_encU, hdOK_encL, allSz_encU, allSz_encL, encU_length, encL_length, encD_one, encD_cells, AVone_v, AVone_sl, AVone_agg, AVone_ref, AVone_fn, AVone_ifc, AVcells_v, AVcells_sl, AVcells_agg, AVcells_ref, AVcells_fn, AVcells_ifc, Value.oneCell', allSz]; omega)) (hch) ?_; refine GC_run2 4000 ?_; dsimp only [go_sem, Nat.reduceBEq, Nat.reduceAdd, Nat.reduceMul, Nat.reduceSub, Int.reduceBEq, Int.reduceBNe, Int.reduceAdd, Int.reduceSub, Int.reduceMul, Int.reduceToNat, Int.reduceNeg])
        refine GC.finE (by first | rfl | (simp; done) | (simp [hdOK_encI, allSz_encI, encI_length, hdOK_encU, hdOK_encL, allSz_encU, allSz_encL, encU_length, encL_length, encD_one, encD_cells, AVone_v, AVone_sl, AVone_agg, AVone_ref, AVone_fn, AVone_ifc, AVcells_v, AVcells_sl, AVcells_agg, AVcells_ref, AVcells_fn, AVcells_ifc, Value.oneCell', allSz]; done) | (simp [hdOK_encI, allSz_encI, encI_length, hdOK_encU, hdOK_encL, allSz_encU, allSz_encL, encU_length, encL_length, encD_one, encD_cells, AVone_v, AVone_sl, AVone_agg, AVone_ref, AVone_fn, AVone_ifc, AVcells_v, AVcells_sl, AVcells_agg, AVcells_ref, AVcells_fn, AVcells_ifc, Value.oneCell', allSz]; omega)) ?_
        rw [hbad]; rfl
      rw [hok] at hch
      have hdec := hmore.1 (by unfold runeOK; unfold charOK at hok; simp at hok; omega)
      have hnb : ¬ badAt s p := by
        intro hb
        unfold badAt at hb
        rw [hdec] at hb
        omega

      (refine GC.call (by first | rfl | (simp; done) | (simp [hdOK_encI, allSz_encI, encI_length, hdOK_encU, hdOK_encL, allSz_encU, allSz_encL, encU_length, encL_length, encD_one, encD_cells, AVone_v, AVone_sl, AVone_agg, AVone_ref, AVone_fn, AVone_ifc, AVcells_v, AVcells_sl, AVcells_agg, AVcells_ref, AVcells_fn, AVcells_ifc, Value.oneCell', allSz]; done) | (simp [hdOK_encI, allSz_encI, encI_length, hdOK_encU, hdOK_encL, allSz_encU, allSz_encL, encU_length, encL_length, encD_one, encD_cells, AVone_v, AVone_sl, AVone_agg, AVone_ref, AVone_fn, AVone_ifc, AVcells_v, AVcells_sl, AVcells_agg, AVcells_ref, AVcells_fn, AVcells_ifc, Value.oneCell', allSz]; omega)) (hch) ?_; refine GC_run2 4000 ?_; dsimp only [go_sem, Nat.reduceBEq, Nat.reduceAdd, Nat.reduceMul, Nat.reduceSub, Int.reduceBEq, Int.reduceBNe, Int.reduceAdd, Int.reduceSub, Int.reduceMul, Int.reduceToNat, Int.reduceNeg])
      have hst : runeR s (j + 1) = runeR s j ++ [(r : Int)] := by rw [runeR, hp, hdec]
      have hps : posR s (j + 1) = p + 3 := by rw [posR, hp, hdec]
      have hI2 := okR_succ hI (by omega) (by rw [hp]; exact hnb)
      have wp : IntKind.i64.wrap ((p : Int) + 3) = ((p + 3 : Nat) : Int) := by rw [wrap_i64 (by omega) (by omega)]; omega
      (refine GC.backR ((by first | (simp [hdOK_encU, hdOK_encL, allSz_encU, allSz_encL, encU_length, encL_length, encD_one, encD_cells, AVone_v, AVone_sl, AVone_agg, AVone_ref, AVone_fn, AVone_ifc, AVcells_v, AVcells_sl, AVcells_agg, AVcells_ref, AVcells_fn, AVcells_ifc, Value.oneCell', allSz, allSz_encI, encI_length, hdOK_encI, hrl]; done) | (simp [hdOK_encU, hdOK_encL, allSz_encU, allSz_encL, encU_length, encL_length, encD_one, encD_cells, AVone_v, AVone_sl, AVone_agg, AVone_ref, AVone_fn, AVone_ifc, AVcells_v, AVcells_sl, AVcells_agg, AVcells_ref, AVcells_fn, AVcells_ifc, Value.oneCell', allSz, allSz_encI, encI_length, hdOK_encI, hrl]; omega))) (by omega) (hI2) ?_ ?_ <;> (repeat' (first | exact trivial | refine And.intro ?_ ?_)) <;> (try (dsimp only [go_sem, Nat.reduceBEq, Nat.reduceAdd, Nat.reduceMul, Nat.reduceSub, Int.reduceBEq, Int.reduceBNe, Int.reduceAdd, Int.reduceSub, Int.reduceMul, Int.reduceToNat, Int.reduceNeg])))
      · exact congrArg (fun n => some (TV.row 32 n)) (by simp [encI_length, runeR_length])
      · rw [hps]; exact congrArg (fun n => some (TV.av (.v (.int .i64 n)))) wp
      · (rw [hst, encI_snoc]; try rfl)
    by_cases g3 : 224 ≤ bN s p
    · have d1 : decide ((bN s p : Int) ≥ 224) = true := by simp; omega
      have d2 : decide ((bN s p : Int) < 240) = false := by simp; omega
      (repeat (simp only [d1, d2]; try (dsimp only [go_sem, Nat.reduceBEq, Nat.reduceAdd, Nat.reduceMul, Nat.reduceSub, Int.reduceBEq, Int.reduceBNe, Int.reduceAdd, Int.reduceSub, Int.reduceMul, Int.reduceToNat, Int.reduceNeg])))
      by_cases h4 : 240 ≤ bN s p ∧ bN s p < 245
      · have d1 : decide ((bN s p : Int) ≥ 240) = true := by simp; omega
        have d2 : decide ((bN s p : Int) < 245) = true := by simp; omega
        have e0 : andK .i32 (bN s p : Int) 7 = ((bN s p % 8 : Nat) : Int) := and7 hb0
        (repeat (simp only [d1, d2, e0]; try (dsimp only [go_sem, Nat.reduceBEq, Nat.reduceAdd, Nat.reduceMul, Nat.reduceSub, Int.reduceBEq, Int.reduceBNe, Int.reduceAdd, Int.reduceSub, Int.reduceMul, Int.reduceToNat, Int.reduceNeg])))
        have hlead : leadOK 4 (bN s p) := by unfold leadOK; omega

        have wpn : IntKind.i64.wrap ((p : Int) + 4) = ((p + 4 : Nat) : Int) := by rw [wrap_i64 (by omega) (by omega)]; omega
        by_cases hsh : s.size < p + 4
        · have hshd : decide (((p + 4 : Nat) : Int) > (s.size : Int)) = true := by simp; omega
          have hbad := valid_bad hI (by omega) (by rw [hp]; exact bad_short hlead hsh)
          (repeat (simp only [wpn, hshd]; try (dsimp only [go_sem, Nat.reduceBEq, Nat.reduceAdd, Nat.reduceMul, Nat.reduceSub, Int.reduceBEq, Int.reduceBNe, Int.reduceAdd, Int.reduceSub, Int.reduceMul, Int.reduceToNat, Int.reduceNeg])))
          refine GC.finE (by first | rfl | (simp; done) | (simp [hdOK_encI, allSz_encI, encI_length, hdOK_encU, hdOK_encL, allSz_encU, allSz_encL, encU_length, encL_length, encD_one, encD_cells, AVone_v, AVone_sl, AVone_agg, AVone_ref, AVone_fn, AVone_ifc, AVcells_v, AVcells_sl, AVcells_agg, AVcells_ref, AVcells_fn, AVcells_ifc, Value.oneCell', allSz]; done) | (simp [hdOK_encI, allSz_encI, encI_length, hdOK_encU, hdOK_encL, allSz_encU, allSz_encL, encU_length, encL_length, encD_one, encD_cells, AVone_v, AVone_sl, AVone_agg, AVone_ref, AVone_fn, AVone_ifc, AVcells_v, AVcells_sl, AVcells_agg, AVcells_ref, AVcells_fn, AVcells_ifc, Value.oneCell', allSz]; omega)) ?_
          rw [hbad]; rfl
        have hshd : decide (((p + 4 : Nat) : Int) > (s.size : Int)) = false := by simp; omega
        (repeat (simp only [wpn, hshd]; try (dsimp only [go_sem, Nat.reduceBEq, Nat.reduceAdd, Nat.reduceMul, Nat.reduceSub, Int.reduceBEq, Int.reduceBNe, Int.reduceAdd, Int.reduceSub, Int.reduceMul, Int.reduceToNat, Int.reduceNeg])))

        refine GC.loopR (by first | rfl | (simp; done) | (simp [hdOK_encI, allSz_encI, encI_length, hdOK_encU, hdOK_encL, allSz_encU, allSz_encL, encU_length, encL_length, encD_one, encD_cells, AVone_v, AVone_sl, AVone_agg, AVone_ref, AVone_fn, AVone_ifc, AVcells_v, AVcells_sl, AVcells_agg, AVcells_ref, AVcells_fn, AVcells_ifc, Value.oneCell', allSz]; done) | (simp [hdOK_encI, allSz_encI, encI_length, hdOK_encU, hdOK_encL, allSz_encU, allSz_encL, encU_length, encL_length, encD_one, encD_cells, AVone_v, AVone_sl, AVone_agg, AVone_ref, AVone_fn, AVone_ifc, AVcells_v, AVcells_sl, AVcells_agg, AVcells_ref, AVcells_fn, AVcells_ifc, Value.oneCell', allSz]; omega)) 3 [0, 4, 5, 6] (fun q => [(7, .av (.v (.int .i32 (accN s p (lead 4 (bN s p)) q : Nat)))), (8, .av (.v (.int .i64 (q + 1 : Nat))))]) (fun q => []) (fun q => ∀ i, i < q → bN s (p + i + 1) / 64 = 2) ⟨by first | rfl | exact congrArg (fun n => some (TV.av (.v (.int .i32 n)))) e0, rfl, trivial⟩ trivial (fun i hi => by omega) (fun q hq hQ => ?_)
        rcases Nat.lt_or_ge q 3 with hq1 | hq1
        · have hdq : decide (((q + 1 : Nat) : Int) < 4) = true := by simp; omega
          have wpq : IntKind.i64.wrap ((p : Int) + ((q + 1 : Nat) : Int)) = ((p + q + 1 : Nat) : Int) := by rw [wrap_i64 (by omega) (by omega)]; omega
          have hbq := bN_lt s (p + q + 1)
          have hbt : bt s (p + q + 1) = (bN s (p + q + 1) : Int) := bt_bN s (by omega)
          have h192 : (andK .u8 (bN s (p + q + 1) : Int) 192 != 128) = !decide (bN s (p + q + 1) / 64 = 2) := and192 hbq
          by_cases hc : bN s (p + q + 1) / 64 = 2
          · have hcd : (!decide (bN s (p + q + 1) / 64 = 2)) = false := by simp [hc]
            have h63 : andK .u8 (bN s (p + q + 1) : Int) 63 = ((bN s (p + q + 1) % 64 : Nat) : Int) := and63 hbq
            have hcv : IntKind.i32.wrap ((bN s (p + q + 1) % 64 : Nat) : Int) = ((bN s (p + q + 1) % 64 : Nat) : Int) := wrap_i32_small (by omega)
            have hacc := accN_lt s p (r0 := lead 4 (bN s p)) (by rw [lead4]; omega) q
            have hpow : 64 ^ q ≤ 64 ^ 2 := Nat.pow_le_pow_right (by omega) (by omega)
            have hor : orK .i32 (IntKind.i32.wrap (((accN s p (lead 4 (bN s p)) q : Nat) : Int) * 2 ^ min (Int.toNat 6) IntKind.i32.bits)) ((bN s (p + q + 1) % 64 : Nat) : Int) = ((accN s p (lead 4 (bN s p)) (q + 1) : Nat) : Int) := or_six (by omega) (by omega)
            have wq : IntKind.i64.wrap (((q + 1 : Nat) : Int) + 1) = ((q + 1 + 1 : Nat) : Int) := by rw [wrap_i64 (by omega) (by omega)]; omega
            have hQ2 : ∀ i, i < q + 1 → bN s (p + i + 1) / 64 = 2 := fun i hi => by
              rcases Nat.lt_or_ge i q with h | h
              · exact hQ i h
              · have : i = q := by omega
                subst this; exact hc
            (refine GC_run2 4000 ?_; dsimp only [go_sem, Nat.reduceBEq, Nat.reduceAdd, Nat.reduceMul, Nat.reduceSub, Int.reduceBEq, Int.reduceBNe, Int.reduceAdd, Int.reduceSub, Int.reduceMul, Int.reduceToNat, Int.reduceNeg])
            (repeat (simp only [hdq, wpq, hbt, h192, hcd, h63, hcv]; try (dsimp only [go_sem, Nat.reduceBEq, Nat.reduceAdd, Nat.reduceMul, Nat.reduceSub, Int.reduceBEq, Int.reduceBNe, Int.reduceAdd, Int.reduceSub, Int.reduceMul, Int.reduceToNat, Int.reduceNeg])))
            (refine GC.backR ((by first | rfl | (simp; done) | (simp [hdOK_encI, allSz_encI, encI_length, hdOK_encU, hdOK_encL, allSz_encU, allSz_encL, encU_length, encL_length, encD_one, encD_cells, AVone_v, AVone_sl, AVone_agg, AVone_ref, AVone_fn, AVone_ifc, AVcells_v, AVcells_sl, AVcells_agg, AVcells_ref, AVcells_fn, AVcells_ifc, Value.oneCell', allSz]; done) | (simp [hdOK_encI, allSz_encI, encI_length, hdOK_encU, hdOK_encL, allSz_encU, allSz_encL, encU_length, encL_length, encD_one, encD_cells, AVone_v, AVone_sl, AVone_agg, AVone_ref, AVone_fn, AVone_ifc, AVcells_v, AVcells_sl, AVcells_agg, AVcells_ref, AVcells_fn, AVcells_ifc, Value.oneCell', allSz]; omega))) (by omega) (hQ2) ?_ ?_ <;> (repeat' (first | exact trivial | refine And.intro ?_ ?_)) <;> (try (dsimp only [go_sem, Nat.reduceBEq, Nat.reduceAdd, Nat.reduceMul, Nat.reduceSub, Int.reduceBEq, Int.reduceBNe, Int.reduceAdd, Int.reduceSub, Int.reduceMul, Int.reduceToNat, Int.reduceNeg])))
            · exact congrArg (fun n => some (TV.av (.v (.int .i32 n)))) hor
            · exact congrArg (fun n => some (TV.av (.v (.int .i64 n)))) wq
          · have hcd : (!decide (bN s (p + q + 1) / 64 = 2)) = true := by simp [hc]
            have hbad := valid_bad hI (by omega) (by rw [hp]; exact bad_cont (n := 4) (j := q) hlead (by omega) hc)
            (refine GC_run2 4000 ?_; dsimp only [go_sem, Nat.reduceBEq, Nat.reduceAdd, Nat.reduceMul, Nat.reduceSub, Int.reduceBEq, Int.reduceBNe, Int.reduceAdd, Int.reduceSub, Int.reduceMul, Int.reduceToNat, Int.reduceNeg])
            (repeat (simp only [hdq, wpq, hbt, h192, hcd]; try (dsimp only [go_sem, Nat.reduceBEq, Nat.reduceAdd, Nat.reduceMul, Nat.reduceSub, Int.reduceBEq, Int.reduceBNe, Int.reduceAdd, Int.reduceSub, Int.reduceMul, Int.reduceToNat, Int.reduceNeg])))
            refine GC.finE (by first | rfl | (simp; done) | (simp [hdOK_encI, allSz_encI, encI_length, hdOK_encU, hdOK_encL, allSz_encU, allSz_encL, encU_length, encL_length, encD_one, encD_cells, AVone_v, AVone_sl, AVone_agg, AVone_ref, AVone_fn, AVone_ifc, AVcells_v, AVcells_sl, AVcells_agg, AVcells_ref, AVcells_fn, AVcells_ifc, Value.oneCell', allSz]; done) | (simp [hdOK_encI, allSz_encI, encI_length, hdOK_encU, hdOK_encL, allSz_encU, allSz_encL, encU_length, encL_length, encD_one, encD_cells, AVone_v, AVone_sl, AVone_agg, AVone_ref, AVone_fn, AVone_ifc, AVcells_v, AVcells_sl, AVcells_agg, AVcells_ref, AVcells_fn, AVcells_ifc, Value.oneCell', allSz]; omega)) ?_
            rw [hbad]; rfl
        have : q = 3 := by omega
        subst this
        have hdq : decide ((4 : Int) < 4) = false := by simp
        have hmore := dec_more hlead (by omega) (fun i hi => hQ i (by omega))
        generalize hr : accN s p (lead 4 (bN s p)) 3 = r at *
        (refine GC_run2 4000 ?_; dsimp only [go_sem, Nat.reduceBEq, Nat.reduceAdd, Nat.reduceMul, Nat.reduceSub, Int.reduceBEq, Int.reduceBNe, Int.reduceAdd, Int.reduceSub, Int.reduceMul, Int.reduceToNat, Int.reduceNeg])
        (repeat (simp only [hdq]; try (dsimp only [go_sem, Nat.reduceBEq, Nat.reduceAdd, Nat.reduceMul, Nat.reduceSub, Int.reduceBEq, Int.reduceBNe, Int.reduceAdd, Int.reduceSub, Int.reduceMul, Int.reduceToNat, Int.reduceNeg])))
        by_cases ho : r < 65536
        · have hod : decide ((r : Int) < 65536) = true := by simp; omega
          have hbad := valid_bad hI (by omega) (by rw [hp]; exact hmore.2 (by unfold runeOK; omega))
          (repeat (simp only [hod]; try (dsimp only [go_sem, Nat.reduceBEq, Nat.reduceAdd, Nat.reduceMul, Nat.reduceSub, Int.reduceBEq, Int.reduceBNe, Int.reduceAdd, Int.reduceSub, Int.reduceMul, Int.reduceToNat, Int.reduceNeg])))
          refine GC.finE (by first | rfl | (simp; done) | (simp [hdOK_encI, allSz_encI, encI_length, hdOK_encU, hdOK_encL, allSz_encU, allSz_encL, encU_length, encL_length, encD_one, encD_cells, AVone_v, AVone_sl, AVone_agg, AVone_ref, AVone_fn, AVone_ifc, AVcells_v, AVcells_sl, AVcells_agg, AVcells_ref, AVcells_fn, AVcells_ifc, Value.oneCell', allSz]; done) | (simp [hdOK_encI, allSz_encI, encI_length, hdOK_encU, hdOK_encL, allSz_encU, allSz_encL, encU_length, encL_length, encD_one, encD_cells, AVone_v, AVone_sl, AVone_agg, AVone_ref, AVone_fn, AVone_ifc, AVcells_v, AVcells_sl, AVcells_agg, AVcells_ref, AVcells_fn, AVcells_ifc, Value.oneCell', allSz]; omega)) ?_
          rw [hbad]; rfl
        have hod : decide ((r : Int) < 65536) = false := by simp; omega
        (repeat (simp only [hod]; try (dsimp only [go_sem, Nat.reduceBEq, Nat.reduceAdd, Nat.reduceMul, Nat.reduceSub, Int.reduceBEq, Int.reduceBNe, Int.reduceAdd, Int.reduceSub, Int.reduceMul, Int.reduceToNat, Int.reduceNeg])))

        have hch := D_rchar (W0 := W0) (κ := κ) (GG := GG) (r : Int)
        by_cases hok : charOK (r : Int) = true
        case neg =>
          have hok : charOK (r : Int) = false := by simpa using hok
          rw [hok] at hch
          have hbad := valid_bad hI (by omega) (by rw [hp]; exact hmore.2 (by unfold runeOK; unfold charOK at hok; simp at hok; omega))
          (refine GC.call (by first | rfl | (simp; done) | (simp [hdOK_encI, allSz_encI, encI_length, hdOK_encU, hdOK_encL, allSz_encU, allSz_encL, encU_length, encL_length, encD_one, encD_cells, AVone_v, AVone_sl, AVone_agg, AVone_ref, AVone_fn, AVone_ifc, AVcells_v, AVcells_sl, AVcells_agg, AVcells_ref, AVcells_fn, AVcells_ifc, Value.oneCell', allSz]; done) | (simp [hdOK_encI, allSz_encI, encI_length, hdOK_encU, hdOK_encL, allSz_encU, allSz_encL, encU_length, encL_length, encD_one, encD_cells, AVone_v, AVone_sl, AVone_agg, AVone_ref, AVone_fn, AVone_ifc, AVcells_v, AVcells_sl, AVcells_agg, AVcells_ref, AVcells_fn, AVcells_ifc, Value.oneCell', allSz]; omega)) (hch) ?_; refine GC_run2 4000 ?_; dsimp only [go_sem, Nat.reduceBEq, Nat.reduceAdd, Nat.reduceMul, Nat.reduceSub, Int.reduceBEq, Int.reduceBNe, Int.reduceAdd, Int.reduceSub, Int.reduceMul, Int.reduceToNat, Int.reduceNeg])
          refine GC.finE (by first | rfl | (simp; done) | (simp [hdOK_encI, allSz_encI, encI_length, hdOK_encU, hdOK_encL, allSz_encU, allSz_encL, encU_length, encL_length, encD_one, encD_cells, AVone_v, AVone_sl, AVone_agg, AVone_ref, AVone_fn, AVone_ifc, AVcells_v, AVcells_sl, AVcells_agg, AVcells_ref, AVcells_fn, AVcells_ifc, Value.oneCell', allSz]; done) | (simp [hdOK_encI, allSz_encI, encI_length, hdOK_encU, hdOK_encL, allSz_encU, allSz_encL, encU_length, encL_length, encD_one, encD_cells, AVone_v, AVone_sl, AVone_agg, AVone_ref, AVone_fn, AVone_ifc, AVcells_v, AVcells_sl, AVcells_agg, AVcells_ref, AVcells_fn, AVcells_ifc, Value.oneCell', allSz]; omega)) ?_
          rw [hbad]; rfl
        rw [hok] at hch
        have hdec := hmore.1 (by unfold runeOK; unfold charOK at hok; simp at hok; omega)
        have hnb : ¬ badAt s p := by
          intro hb
          unfold badAt at hb
          rw [hdec] at hb
          omega

        (refine GC.call (by first | rfl | (simp; done) | (simp [hdOK_encI, allSz_encI, encI_length, hdOK_encU, hdOK_encL, allSz_encU, allSz_encL, encU_length, encL_length, encD_one, encD_cells, AVone_v, AVone_sl, AVone_agg, AVone_ref, AVone_fn, AVone_ifc, AVcells_v, AVcells_sl, AVcells_agg, AVcells_ref, AVcells_fn, AVcells_ifc, Value.oneCell', allSz]; done) | (simp [hdOK_encI, allSz_encI, encI_length, hdOK_encU, hdOK_encL, allSz_encU, allSz_encL, encU_length, encL_length, encD_one, encD_cells, AVone_v, AVone_sl, AVone_agg, AVone_ref, AVone_fn, AVone_ifc, AVcells_v, AVcells_sl, AVcells_agg, AVcells_ref, AVcells_fn, AVcells_ifc, Value.oneCell', allSz]; omega)) (hch) ?_; refine GC_run2 4000 ?_; dsimp only [go_sem, Nat.reduceBEq, Nat.reduceAdd, Nat.reduceMul, Nat.reduceSub, Int.reduceBEq, Int.reduceBNe, Int.reduceAdd, Int.reduceSub, Int.reduceMul, Int.reduceToNat, Int.reduceNeg])
        have hst : runeR s (j + 1) = runeR s j ++ [(r : Int)] := by rw [runeR, hp, hdec]
        have hps : posR s (j + 1) = p + 4 := by rw [posR, hp, hdec]
        have hI2 := okR_succ hI (by omega) (by rw [hp]; exact hnb)
        have wp : IntKind.i64.wrap ((p : Int) + 4) = ((p + 4 : Nat) : Int) := by rw [wrap_i64 (by omega) (by omega)]; omega
        (refine GC.backR ((by first | (simp [hdOK_encU, hdOK_encL, allSz_encU, allSz_encL, encU_length, encL_length, encD_one, encD_cells, AVone_v, AVone_sl, AVone_agg, AVone_ref, AVone_fn, AVone_ifc, AVcells_v, AVcells_sl, AVcells_agg, AVcells_ref, AVcells_fn, AVcells_ifc, Value.oneCell', allSz, allSz_encI, encI_length, hdOK_encI, hrl]; done) | (simp [hdOK_encU, hdOK_encL, allSz_encU, allSz_encL, encU_length, encL_length, encD_one, encD_cells, AVone_v, AVone_sl, AVone_agg, AVone_ref, AVone_fn, AVone_ifc, AVcells_v, AVcells_sl, AVcells_agg, AVcells_ref, AVcells_fn, AVcells_ifc, Value.oneCell', allSz, allSz_encI, encI_length, hdOK_encI, hrl]; omega))) (by omega) (hI2) ?_ ?_ <;> (repeat' (first | exact trivial | refine And.intro ?_ ?_)) <;> (try (dsimp only [go_sem, Nat.reduceBEq, Nat.reduceAdd, Nat.reduceMul, Nat.reduceSub, Int.reduceBEq, Int.reduceBNe, Int.reduceAdd, Int.reduceSub, Int.reduceMul, Int.reduceToNat, Int.reduceNeg])))
        · exact congrArg (fun n => some (TV.row 32 n)) (by simp [encI_length, runeR_length])
        · rw [hps]; exact congrArg (fun n => some (TV.av (.v (.int .i64 n)))) wp
        · (rw [hst, encI_snoc]; try rfl)
      by_cases g4 : 240 ≤ bN s p
      · have d1 : decide ((bN s p : Int) ≥ 240) = true := by simp; omega
        have d2 : decide ((bN s p : Int) < 245) = false := by simp; omega
        (repeat (simp only [d1, d2]; try (dsimp only [go_sem, Nat.reduceBEq, Nat.reduceAdd, Nat.reduceMul, Nat.reduceSub, Int.reduceBEq, Int.reduceBNe, Int.reduceAdd, Int.reduceSub, Int.reduceMul, Int.reduceToNat, Int.reduceNeg])))
        have hbad := valid_bad hI (by omega) (by rw [hp]; exact bad_lead (by omega) (by omega))
        refine GC.finE (by first | rfl | (simp; done) | (simp [hdOK_encI, allSz_encI, encI_length, hdOK_encU, hdOK_encL, allSz_encU, allSz_encL, encU_length, encL_length, encD_one, encD_cells, AVone_v, AVone_sl, AVone_agg, AVone_ref, AVone_fn, AVone_ifc, AVcells_v, AVcells_sl, AVcells_agg, AVcells_ref, AVcells_fn, AVcells_ifc, Value.oneCell', allSz]; done) | (simp [hdOK_encI, allSz_encI, encI_length, hdOK_encU, hdOK_encL, allSz_encU, allSz_encL, encU_length, encL_length, encD_one, encD_cells, AVone_v, AVone_sl, AVone_agg, AVone_ref, AVone_fn, AVone_ifc, AVcells_v, AVcells_sl, AVcells_agg, AVcells_ref, AVcells_fn, AVcells_ifc, Value.oneCell', allSz]; omega)) ?_
        rw [hbad]; rfl
      have d14 : decide ((bN s p : Int) ≥ 240) = false := by simp; omega
      (repeat (simp only [d14]; try (dsimp only [go_sem, Nat.reduceBEq, Nat.reduceAdd, Nat.reduceMul, Nat.reduceSub, Int.reduceBEq, Int.reduceBNe, Int.reduceAdd, Int.reduceSub, Int.reduceMul, Int.reduceToNat, Int.reduceNeg])))
      have hbad := valid_bad hI (by omega) (by rw [hp]; exact bad_lead (by omega) (by omega))
      refine GC.finE (by first | rfl | (simp; done) | (simp [hdOK_encI, allSz_encI, encI_length, hdOK_encU, hdOK_encL, allSz_encU, allSz_encL, encU_length, encL_length, encD_one, encD_cells, AVone_v, AVone_sl, AVone_agg, AVone_ref, AVone_fn, AVone_ifc, AVcells_v, AVcells_sl, AVcells_agg, AVcells_ref, AVcells_fn, AVcells_ifc, Value.oneCell', allSz]; done) | (simp [hdOK_encI, allSz_encI, encI_length, hdOK_encU, hdOK_encL, allSz_encU, allSz_encL, encU_length, encL_length, encD_one, encD_cells, AVone_v, AVone_sl, AVone_agg, AVone_ref, AVone_fn, AVone_ifc, AVcells_v, AVcells_sl, AVcells_agg, AVcells_ref, AVcells_fn, AVcells_ifc, Value.oneCell', allSz]; omega)) ?_
      rw [hbad]; rfl
    have d13 : decide ((bN s p : Int) ≥ 224) = false := by simp; omega
    (repeat (simp only [d13]; try (dsimp only [go_sem, Nat.reduceBEq, Nat.reduceAdd, Nat.reduceMul, Nat.reduceSub, Int.reduceBEq, Int.reduceBNe, Int.reduceAdd, Int.reduceSub, Int.reduceMul, Int.reduceToNat, Int.reduceNeg])))
    have e4 : decide ((bN s p : Int) ≥ 240) = false := by simp; omega
    (repeat (simp only [e4]; try (dsimp only [go_sem, Nat.reduceBEq, Nat.reduceAdd, Nat.reduceMul, Nat.reduceSub, Int.reduceBEq, Int.reduceBNe, Int.reduceAdd, Int.reduceSub, Int.reduceMul, Int.reduceToNat, Int.reduceNeg])))
    have hbad := valid_bad hI (by omega) (by rw [hp]; exact bad_lead (by omega) (by omega))
    refine GC.finE (by first | rfl | (simp; done) | (simp [hdOK_encI, allSz_encI, encI_length, hdOK_encU, hdOK_encL, allSz_encU, allSz_encL, encU_length, encL_length, encD_one, encD_cells, AVone_v, AVone_sl, AVone_agg, AVone_ref, AVone_fn, AVone_ifc, AVcells_v, AVcells_sl, AVcells_agg, AVcells_ref, AVcells_fn, AVcells_ifc, Value.oneCell', allSz]; done) | (simp [hdOK_encI, allSz_encI, encI_length, hdOK_encU, hdOK_encL, allSz_encU, allSz_encL, encU_length, encL_length, encD_one, encD_cells, AVone_v, AVone_sl, AVone_agg, AVone_ref, AVone_fn, AVone_ifc, AVcells_v, AVcells_sl, AVcells_agg, AVcells_ref, AVcells_fn, AVcells_ifc, Value.oneCell', allSz]; omega)) ?_
    rw [hbad]; rfl
  have d12 : decide ((bN s p : Int) ≥ 194) = false := by simp; omega
  (repeat (simp only [d12]; try (dsimp only [go_sem, Nat.reduceBEq, Nat.reduceAdd, Nat.reduceMul, Nat.reduceSub, Int.reduceBEq, Int.reduceBNe, Int.reduceAdd, Int.reduceSub, Int.reduceMul, Int.reduceToNat, Int.reduceNeg])))
  have e3 : decide ((bN s p : Int) ≥ 224) = false := by simp; omega
  have e4 : decide ((bN s p : Int) ≥ 240) = false := by simp; omega
  (repeat (simp only [e3, e4]; try (dsimp only [go_sem, Nat.reduceBEq, Nat.reduceAdd, Nat.reduceMul, Nat.reduceSub, Int.reduceBEq, Int.reduceBNe, Int.reduceAdd, Int.reduceSub, Int.reduceMul, Int.reduceToNat, Int.reduceNeg])))
  have hbad := valid_bad hI (by omega) (by rw [hp]; exact bad_lead (by omega) (by omega))
  refine GC.finE (by first | rfl | (simp; done) | (simp [hdOK_encI, allSz_encI, encI_length, hdOK_encU, hdOK_encL, allSz_encU, allSz_encL, encU_length, encL_length, encD_one, encD_cells, AVone_v, AVone_sl, AVone_agg, AVone_ref, AVone_fn, AVone_ifc, AVcells_v, AVcells_sl, AVcells_agg, AVcells_ref, AVcells_fn, AVcells_ifc, Value.oneCell', allSz]; done) | (simp [hdOK_encI, allSz_encI, encI_length, hdOK_encU, hdOK_encL, allSz_encU, allSz_encL, encU_length, encL_length, encD_one, encD_cells, AVone_v, AVone_sl, AVone_agg, AVone_ref, AVone_fn, AVone_ifc, AVcells_v, AVcells_sl, AVcells_agg, AVcells_ref, AVcells_fn, AVcells_ifc, Value.oneCell', allSz]; omega)) ?_
  rw [hbad]; rfl
end
end Go.Sy

/- Contracts of the program's functions over abstract values. By gen.py. -/
set_option linter.unusedVariables false
set_option linter.unusedSimpArgs false
set_option maxRecDepth 100000
set_option maxHeartbeats 4000000
namespace Go.Sy
open Go.Proofs
attribute [local go_sem] runO_t runO_f band_t band_f bor_t bor_f bnot_t bnot_f gdK_tt gdK_ff gdK_tf gdK_ft brK_t brK_f runE_some runF_some runA_some runG_some runB_some runX_some runR_some run_nil run_skip run_seq run_region run_block run_blk run_exit run_cond run_ret run_loop run_lp run_opsNil run_opsOrd run_opsOp run_opsGuard run_cl run_gd run_br run_fin run_clx run_fst run_callf runY_t runY_f runS_some runV_t runV_f aBuildK_t aBuildK_f Mode.plain run_move run_nilCheck run_assign run_pick run_alloc run_box run_build run_buildSlice run_load run_store run_binOp run_unOp run_convert run_slice run_fieldAddr run_indexAddr run_index run_field run_extract run_makeInterface run_makeFunc run_len run_max run_min run_append St.ev St.evl St.evs St.evo capsOf callOf look drop put putAll toTV_nil toTV_int toTV_bool toTV_str toTV_ptr toTV_ifc toTV_fn toAV_nil toAV_int toAV_bool toAV_str toAV_ptr toAV_ifc toAV_fn aAssign_nil aAssign_tmp aAssign_int aAssign_bool aAssign_str aAssign_ptr aAssign_nilf aAssign_ifc aAssign_func aAssign_glob nilConst_slice nilConst_ptr nilConst_ifc nilConst_tmp plain Option.bind TV.cells TV.one AVone_v AVone_sl AVone_agg AVone_ref AVone_fn AVone_ifc AVone_sent Value.oneCell' oneVs avOf avsOf expo expos expoC exposC TV.isC allC fillsT aBuildT lendR ren renT0 renC renT renO renW xFoot xSt newIds retX retXs isT0 asList List.map St.app setD St.setT ownD trA effFoot callFoot callSt callReq St.fresh freshT freshO allFresh TV.ment TVs.ment SObj.ment fsts mentW noFoot List.contains List.elem aPick aAlloc aBox aBuild aBuildSlice nonNil allSz aUn aConv aField aIndex aByte aPart aExtract aIface aFunc aLen ty1 aMax aApp aAppend aCheck emptyL aSlice okHd hdOK_nil hdOK_cons aLoad aStore aBin aNil sBin sInt_add sInt_sub sInt_mul sInt_eql sInt_neq sInt_lss sInt_leq sInt_gtr sInt_geq sInt_and sInt_or sInt_quo sInt_rem isSh sameSh nilness fills fillAt fillTV putCells intOf? mkInt AVcells_v AVcells_sl AVcells_agg AVcells_ref AVcells_fn AVcells_ifc AVcells_sent St.g0 St.g guardOf guardOff udf argsOf lends lendBox bindRes bindR bindRs flatR flatV boolOf retItems retItems0 retItem rowsOf disjB ownIds resIds nodupB St.init initT popTo cond_true cond_false Option.getD Option.map List.take List.drop List.length List.zip List.zipWith List.range List.range.loop List.append List.foldr List.nil_append List.cons_append List.append_nil List.getElem?_cons_zero List.getElem?_cons_succ GetElem?.getElem? List.get?Internal Int.toNat_natCast cst0 cst1 cst2 cst3 cst4 cst5 cst6 cst7 cst8 cst9 cst10 cst11 toNat0 toNat1 toNat2 toNat3 getD0 getD1 getD2 getD3 run_zero memN keepT dropO St.re leT leO D_q2  D_q3  D_q4  D_q5  D_q9  D_q12  D_q21  D_q22  D_q24  D_q25  D_q27  D_q28  D_q32  D_q46  D_q48  D_q50  D_q52  D_q53  D_q54  D_q56  D_q57  D_q61  D_q70  D_q72  D_q76  D_q77  D_q79  D_q80  D_q83  D_q85  D_q91  D_q93  D_q104  D_q108  D_q115  D_q118  D_q121  D_q134  D_q136  D_q137
section
variable {W0 : World} {κ : Nat → Addr} {GG : Nat → Option AV}

def bareP (p1 p2 p4 p8 : Bool) (d : Dat) : Bool := (p1 || d.c == 0) && ((p2 || (!d.neg && decide (d.mag.length = 0))) && ((p4 || (d.t.toList == (⟨#[]⟩ : ByteArray).toList)) && (p8 || decide (d.l.length = 0))))

theorem D_rbare0 (d : Dat) : Sound (CD W0 κ GG) 77 [encD d, .v (.int .i64 0)] [.av (.v (.bool (bareP false false false false d)))] := by
  obtain ⟨k, c, neg, mag, t, l⟩ := d
  have hll := encL_length l
  have hu := encU_length mag
  have a1 : andK .i64 0 1 = 0 := by decide +kernel
  have a2 : andK .i64 0 2 = 0 := by decide +kernel
  have a4 : andK .i64 0 4 = 0 := by decide +kernel
  have a8 : andK .i64 0 8 = 0 := by decide +kernel
  have e3 : decide (mag.length = 0) = (((encU mag).length : Int) == 0) := by rw [hu]; by_cases h : mag.length = 0 <;> simp [h]
  have e5 : decide (l.length = 0) = (((encL l).length : Int) == 0) := by rw [hll]; by_cases h : l.length = 0 <;> simp [h]
  simp only [bareP, Dat.c, Dat.neg, Dat.mag, Dat.t, Dat.l, e3, e5]
  generalize h1 : (c == 0) = b1 at *
  generalize h3 : (((encU mag).length : Int) == 0) = b3 at *
  generalize h4 : (t.toList == (⟨#[]⟩ : ByteArray).toList) = b4 at *
  generalize h5 : (((encL l).length : Int) == 0) = b5 at *
  cases b1 <;> cases neg <;> cases b3 <;> cases b4 <;> cases b5
  all_goals
    (refine Sound.of_go D_ok D_mix Tryd.func77 rfl (by decide) (by kernel_rfl) (GC.go ?_); refine GC_run2 4000 ?_; dsimp only [Tryd.f77, CD, go_sem, Nat.reduceBEq, Nat.reduceAdd, Nat.reduceMul, Nat.reduceSub, Int.reduceBEq, Int.reduceBNe, Int.reduceAdd, Int.reduceSub, Int.reduceMul, Int.reduceToNat, Int.reduceNeg, encD])
    (repeat (simp only [a1, a2, a4, a8, h1, h3, h4, h5]; try (dsimp only [go_sem, Nat.reduceBEq, Nat.reduceAdd, Nat.reduceMul, Nat.reduceSub, Int.reduceBEq, Int.reduceBNe, Int.reduceAdd, Int.reduceSub, Int.reduceMul, Int.reduceToNat, Int.reduceNeg])))
    refine GC.finE (by first | rfl | (simp; done) | (simp [hdOK_encI, allSz_encI, encI_length, hdOK_encU, hdOK_encL, allSz_encU, allSz_encL, encU_length, encL_length, encD_one, encD_cells, AVone_v, AVone_sl, AVone_agg, AVone_ref, AVone_fn, AVone_ifc, AVcells_v, AVcells_sl, AVcells_agg, AVcells_ref, AVcells_fn, AVcells_ifc, Value.oneCell', allSz]; done) | (simp [hdOK_encI, allSz_encI, encI_length, hdOK_encU, hdOK_encL, allSz_encU, allSz_encL, encU_length, encL_length, encD_one, encD_cells, AVone_v, AVone_sl, AVone_agg, AVone_ref, AVone_fn, AVone_ifc, AVcells_v, AVcells_sl, AVcells_agg, AVcells_ref, AVcells_fn, AVcells_ifc, Value.oneCell', allSz]; omega)) ?_
    first
      | rfl
      | (simp only [decide_eq_true_eq, decide_eq_false_iff_not] at e3 e5; simp [e3, e5])

theorem D_rbare1 (d : Dat) : Sound (CD W0 κ GG) 77 [encD d, .v (.int .i64 1)] [.av (.v (.bool (bareP true false false false d)))] := by
  obtain ⟨k, c, neg, mag, t, l⟩ := d
  have hll := encL_length l
  have hu := encU_length mag
  have a1 : andK .i64 1 1 = 1 := by decide +kernel
  have a2 : andK .i64 1 2 = 0 := by decide +kernel
  have a4 : andK .i64 1 4 = 0 := by decide +kernel
  have a8 : andK .i64 1 8 = 0 := by decide +kernel
  have e3 : decide (mag.length = 0) = (((encU mag).length : Int) == 0) := by rw [hu]; by_cases h : mag.length = 0 <;> simp [h]
  have e5 : decide (l.length = 0) = (((encL l).length : Int) == 0) := by rw [hll]; by_cases h : l.length = 0 <;> simp [h]
  simp only [bareP, Dat.c, Dat.neg, Dat.mag, Dat.t, Dat.l, e3, e5]
  generalize h1 : (c == 0) = b1 at *
  generalize h3 : (((encU mag).length : Int) == 0) = b3 at *
  generalize h4 : (t.toList == (⟨#[]⟩ : ByteArray).toList) = b4 at *
  generalize h5 : (((encL l).length : Int) == 0) = b5 at *
  cases neg <;> cases b3 <;> cases b4 <;> cases b5
  all_goals
    (refine Sound.of_go D_ok D_mix Tryd.func77 rfl (by decide) (by kernel_rfl) (GC.go ?_); refine GC_run2 4000 ?_; dsimp only [Tryd.f77, CD, go_sem, Nat.reduceBEq, Nat.reduceAdd, Nat.reduceMul, Nat.reduceSub, Int.reduceBEq, Int.reduceBNe, Int.reduceAdd, Int.reduceSub, Int.reduceMul, Int.reduceToNat, Int.reduceNeg, encD])
    (repeat (simp only [a1, a2, a4, a8, h1, h3, h4, h5]; try (dsimp only [go_sem, Nat.reduceBEq, Nat.reduceAdd, Nat.reduceMul, Nat.reduceSub, Int.reduceBEq, Int.reduceBNe, Int.reduceAdd, Int.reduceSub, Int.reduceMul, Int.reduceToNat, Int.reduceNeg])))
    refine GC.finE (by first | rfl | (simp; done) | (simp [hdOK_encI, allSz_encI, encI_length, hdOK_encU, hdOK_encL, allSz_encU, allSz_encL, encU_length, encL_length, encD_one, encD_cells, AVone_v, AVone_sl, AVone_agg, AVone_ref, AVone_fn, AVone_ifc, AVcells_v, AVcells_sl, AVcells_agg, AVcells_ref, AVcells_fn, AVcells_ifc, Value.oneCell', allSz]; done) | (simp [hdOK_encI, allSz_encI, encI_length, hdOK_encU, hdOK_encL, allSz_encU, allSz_encL, encU_length, encL_length, encD_one, encD_cells, AVone_v, AVone_sl, AVone_agg, AVone_ref, AVone_fn, AVone_ifc, AVcells_v, AVcells_sl, AVcells_agg, AVcells_ref, AVcells_fn, AVcells_ifc, Value.oneCell', allSz]; omega)) ?_
    first
      | rfl
      | (simp only [decide_eq_true_eq, decide_eq_false_iff_not] at e3 e5; simp [e3, e5])

theorem D_rbare2 (d : Dat) : Sound (CD W0 κ GG) 77 [encD d, .v (.int .i64 2)] [.av (.v (.bool (bareP false true false false d)))] := by
  obtain ⟨k, c, neg, mag, t, l⟩ := d
  have hll := encL_length l
  have hu := encU_length mag
  have a1 : andK .i64 2 1 = 0 := by decide +kernel
  have a2 : andK .i64 2 2 = 2 := by decide +kernel
  have a4 : andK .i64 2 4 = 0 := by decide +kernel
  have a8 : andK .i64 2 8 = 0 := by decide +kernel
  have e3 : decide (mag.length = 0) = (((encU mag).length : Int) == 0) := by rw [hu]; by_cases h : mag.length = 0 <;> simp [h]
  have e5 : decide (l.length = 0) = (((encL l).length : Int) == 0) := by rw [hll]; by_cases h : l.length = 0 <;> simp [h]
  simp only [bareP, Dat.c, Dat.neg, Dat.mag, Dat.t, Dat.l, e3, e5]
  generalize h1 : (c == 0) = b1 at *
  generalize h3 : (((encU mag).length : Int) == 0) = b3 at *
  generalize h4 : (t.toList == (⟨#[]⟩ : ByteArray).toList) = b4 at *
  generalize h5 : (((encL l).length : Int) == 0) = b5 at *
  cases b1 <;> cases b4 <;> cases b5
  all_goals
    (refine Sound.of_go D_ok D_mix Tryd.func77 rfl (by decide) (by kernel_rfl) (GC.go ?_); refine GC_run2 4000 ?_; dsimp only [Tryd.f77, CD, go_sem, Nat.reduceBEq, Nat.reduceAdd, Nat.reduceMul, Nat.reduceSub, Int.reduceBEq, Int.reduceBNe, Int.reduceAdd, Int.reduceSub, Int.reduceMul, Int.reduceToNat, Int.reduceNeg, encD])
    (repeat (simp only [a1, a2, a4, a8, h1, h3, h4, h5]; try (dsimp only [go_sem, Nat.reduceBEq, Nat.reduceAdd, Nat.reduceMul, Nat.reduceSub, Int.reduceBEq, Int.reduceBNe, Int.reduceAdd, Int.reduceSub, Int.reduceMul, Int.reduceToNat, Int.reduceNeg])))
    refine GC.finE (by first | rfl | (simp; done) | (simp [hdOK_encI, allSz_encI, encI_length, hdOK_encU, hdOK_encL, allSz_encU, allSz_encL, encU_length, encL_length, encD_one, encD_cells, AVone_v, AVone_sl, AVone_agg, AVone_ref, AVone_fn, AVone_ifc, AVcells_v, AVcells_sl, AVcells_agg, AVcells_ref, AVcells_fn, AVcells_ifc, Value.oneCell', allSz]; done) | (simp [hdOK_encI, allSz_encI, encI_length, hdOK_encU, hdOK_encL, allSz_encU, allSz_encL, encU_length, encL_length, encD_one, encD_cells, AVone_v, AVone_sl, AVone_agg, AVone_ref, AVone_fn, AVone_ifc, AVcells_v, AVcells_sl, AVcells_agg, AVcells_ref, AVcells_fn, AVcells_ifc, Value.oneCell', allSz]; omega)) ?_
    first
      | rfl
      | (simp only [decide_eq_true_eq, decide_eq_false_iff_not] at e3 e5; simp [e3, e5])

theorem D_rbare4 (d : Dat) : Sound (CD W0 κ GG) 77 [encD d, .v (.int .i64 4)] [.av (.v (.bool (bareP false false true false d)))] := by
  obtain ⟨k, c, neg, mag, t, l⟩ := d
  have hll := encL_length l
  have hu := encU_length mag
  have a1 : andK .i64 4 1 = 0 := by decide +kernel
  have a2 : andK .i64 4 2 = 0 := by decide +kernel
  have a4 : andK .i64 4 4 = 4 := by decide +kernel
  have a8 : andK .i64 4 8 = 0 := by decide +kernel
  have e3 : decide (mag.length = 0) = (((encU mag).length : Int) == 0) := by rw [hu]; by_cases h : mag.length = 0 <;> simp [h]
  have e5 : decide (l.length = 0) = (((encL l).length : Int) == 0) := by rw [hll]; by_cases h : l.length = 0 <;> simp [h]
  simp only [bareP, Dat.c, Dat.neg, Dat.mag, Dat.t, Dat.l, e3, e5]
  generalize h1 : (c == 0) = b1 at *
  generalize h3 : (((encU mag).length : Int) == 0) = b3 at *
  generalize h4 : (t.toList == (⟨#[]⟩ : ByteArray).toList) = b4 at *
  generalize h5 : (((encL l).length : Int) == 0) = b5 at *
  cases b1 <;> cases neg <;> cases b3 <;> cases b5
  all_goals
    (refine Sound.of_go D_ok D_mix Tryd.func77 rfl (by decide) (by kernel_rfl) (GC.go ?_); refine GC_run2 4000 ?_; dsimp only [Tryd.f77, CD, go_sem, Nat.reduceBEq, Nat.reduceAdd, Nat.reduceMul, Nat.reduceSub, Int.reduceBEq, Int.reduceBNe, Int.reduceAdd, Int.reduceSub, Int.reduceMul, Int.reduceToNat, Int.reduceNeg, encD])
    (repeat (simp only [a1, a2, a4, a8, h1, h3, h4, h5]; try (dsimp only [go_sem, Nat.reduceBEq, Nat.reduceAdd, Nat.reduceMul, Nat.reduceSub, Int.reduceBEq, Int.reduceBNe, Int.reduceAdd, Int.reduceSub, Int.reduceMul, Int.reduceToNat, Int.reduceNeg])))
    refine GC.finE (by first | rfl | (simp; done) | (simp [hdOK_encI, allSz_encI, encI_length, hdOK_encU, hdOK_encL, allSz_encU, allSz_encL, encU_length, encL_length, encD_one, encD_cells, AVone_v, AVone_sl, AVone_agg, AVone_ref, AVone_fn, AVone_ifc, AVcells_v, AVcells_sl, AVcells_agg, AVcells_ref, AVcells_fn, AVcells_ifc, Value.oneCell', allSz]; done) | (simp [hdOK_encI, allSz_encI, encI_length, hdOK_encU, hdOK_encL, allSz_encU, allSz_encL, encU_length, encL_length, encD_one, encD_cells, AVone_v, AVone_sl, AVone_agg, AVone_ref, AVone_fn, AVone_ifc, AVcells_v, AVcells_sl, AVcells_agg, AVcells_ref, AVcells_fn, AVcells_ifc, Value.oneCell', allSz]; omega)) ?_
    first
      | rfl
      | (simp only [decide_eq_true_eq, decide_eq_false_iff_not] at e3 e5; simp [e3, e5])

theorem D_rbare8 (d : Dat) : Sound (CD W0 κ GG) 77 [encD d, .v (.int .i64 8)] [.av (.v (.bool (bareP false false false true d)))] := by
  obtain ⟨k, c, neg, mag, t, l⟩ := d
  have hll := encL_length l
  have hu := encU_length mag
  have a1 : andK .i64 8 1 = 0 := by decide +kernel
  have a2 : andK .i64 8 2 = 0 := by decide +kernel
  have a4 : andK .i64 8 4 = 0 := by decide +kernel
  have a8 : andK .i64 8 8 = 8 := by decide +kernel
  have e3 : decide (mag.length = 0) = (((encU mag).length : Int) == 0) := by rw [hu]; by_cases h : mag.length = 0 <;> simp [h]
  have e5 : decide (l.length = 0) = (((encL l).length : Int) == 0) := by rw [hll]; by_cases h : l.length = 0 <;> simp [h]
  simp only [bareP, Dat.c, Dat.neg, Dat.mag, Dat.t, Dat.l, e3, e5]
  generalize h1 : (c == 0) = b1 at *
  generalize h3 : (((encU mag).length : Int) == 0) = b3 at *
  generalize h4 : (t.toList == (⟨#[]⟩ : ByteArray).toList) = b4 at *
  generalize h5 : (((encL l).length : Int) == 0) = b5 at *
  cases b1 <;> cases neg <;> cases b3 <;> cases b4
  all_goals
    (refine Sound.of_go D_ok D_mix Tryd.func77 rfl (by decide) (by kernel_rfl) (GC.go ?_); refine GC_run2 4000 ?_; dsimp only [Tryd.f77, CD, go_sem, Nat.reduceBEq, Nat.reduceAdd, Nat.reduceMul, Nat.reduceSub, Int.reduceBEq, Int.reduceBNe, Int.reduceAdd, Int.reduceSub, Int.reduceMul, Int.reduceToNat, Int.reduceNeg, encD])
    (repeat (simp only [a1, a2, a4, a8, h1, h3, h4, h5]; try (dsimp only [go_sem, Nat.reduceBEq, Nat.reduceAdd, Nat.reduceMul, Nat.reduceSub, Int.reduceBEq, Int.reduceBNe, Int.reduceAdd, Int.reduceSub, Int.reduceMul, Int.reduceToNat, Int.reduceNeg])))
    refine GC.finE (by first | rfl | (simp; done) | (simp [hdOK_encI, allSz_encI, encI_length, hdOK_encU, hdOK_encL, allSz_encU, allSz_encL, encU_length, encL_length, encD_one, encD_cells, AVone_v, AVone_sl, AVone_agg, AVone_ref, AVone_fn, AVone_ifc, AVcells_v, AVcells_sl, AVcells_agg, AVcells_ref, AVcells_fn, AVcells_ifc, Value.oneCell', allSz]; done) | (simp [hdOK_encI, allSz_encI, encI_length, hdOK_encU, hdOK_encL, allSz_encU, allSz_encL, encU_length, encL_length, encD_one, encD_cells, AVone_v, AVone_sl, AVone_agg, AVone_ref, AVone_fn, AVone_ifc, AVcells_v, AVcells_sl, AVcells_agg, AVcells_ref, AVcells_fn, AVcells_ifc, Value.oneCell', allSz]; omega)) ?_
    first
      | rfl
      | (simp only [decide_eq_true_eq, decide_eq_false_iff_not] at e3 e5; simp [e3, e5])
end
end Go.Sy

/- Contracts of the program's functions over abstract values. By gen.py. -/
set_option linter.unusedVariables false
set_option linter.unusedSimpArgs false
set_option maxRecDepth 100000
set_option maxHeartbeats 4000000
namespace Go.Sy
open Go.Proofs
attribute [local go_sem] runO_t runO_f band_t band_f bor_t bor_f bnot_t bnot_f gdK_tt gdK_ff gdK_tf gdK_ft brK_t brK_f runE_some runF_some runA_some runG_some runB_some runX_some runR_some run_nil run_skip run_seq run_region run_block run_blk run_exit run_cond run_ret run_loop run_lp run_opsNil run_opsOrd run_opsOp run_opsGuard run_cl run_gd run_br run_fin run_clx run_fst run_callf runY_t runY_f runS_some runV_t runV_f aBuildK_t aBuildK_f Mode.plain run_move run_nilCheck run_assign run_pick run_alloc run_box run_build run_buildSlice run_load run_store run_binOp run_unOp run_convert run_slice run_fieldAddr run_indexAddr run_index run_field run_extract run_makeInterface run_makeFunc run_len run_max run_min run_append St.ev St.evl St.evs St.evo capsOf callOf look drop put putAll toTV_nil toTV_int toTV_bool toTV_str toTV_ptr toTV_ifc toTV_fn toAV_nil toAV_int toAV_bool toAV_str toAV_ptr toAV_ifc toAV_fn aAssign_nil aAssign_tmp aAssign_int aAssign_bool aAssign_str aAssign_ptr aAssign_nilf aAssign_ifc aAssign_func aAssign_glob nilConst_slice nilConst_ptr nilConst_ifc nilConst_tmp plain Option.bind TV.cells TV.one AVone_v AVone_sl AVone_agg AVone_ref AVone_fn AVone_ifc AVone_sent Value.oneCell' oneVs avOf avsOf expo expos expoC exposC TV.isC allC fillsT aBuildT lendR ren renT0 renC renT renO renW xFoot xSt newIds retX retXs isT0 asList List.map St.app setD St.setT ownD trA effFoot callFoot callSt callReq St.fresh freshT freshO allFresh TV.ment TVs.ment SObj.ment fsts mentW noFoot List.contains List.elem aPick aAlloc aBox aBuild aBuildSlice nonNil allSz aUn aConv aField aIndex aByte aPart aExtract aIface aFunc aLen ty1 aMax aApp aAppend aCheck emptyL aSlice okHd hdOK_nil hdOK_cons aLoad aStore aBin aNil sBin sInt_add sInt_sub sInt_mul sInt_eql sInt_neq sInt_lss sInt_leq sInt_gtr sInt_geq sInt_and sInt_or sInt_quo sInt_rem isSh sameSh nilness fills fillAt fillTV putCells intOf? mkInt AVcells_v AVcells_sl AVcells_agg AVcells_ref AVcells_fn AVcells_ifc AVcells_sent St.g0 St.g guardOf guardOff udf argsOf lends lendBox bindRes bindR bindRs flatR flatV boolOf retItems retItems0 retItem rowsOf disjB ownIds resIds nodupB St.init initT popTo cond_true cond_false Option.getD Option.map List.take List.drop List.length List.zip List.zipWith List.range List.range.loop List.append List.foldr List.nil_append List.cons_append List.append_nil List.getElem?_cons_zero List.getElem?_cons_succ GetElem?.getElem? List.get?Internal Int.toNat_natCast cst0 cst1 cst2 cst3 cst4 cst5 cst6 cst7 cst8 cst9 cst10 cst11 toNat0 toNat1 toNat2 toNat3 getD0 getD1 getD2 getD3 run_zero memN keepT dropO St.re leT leO D_q2  D_q3  D_q4  D_q5  D_q9  D_q12  D_q21  D_q22  D_q24  D_q25  D_q27  D_q28  D_q32  D_q46  D_q48  D_q50  D_q52  D_q53  D_q54  D_q56  D_q57  D_q61  D_q70  D_q72  D_q76  D_q77  D_q79  D_q80  D_q83  D_q85  D_q91  D_q93  D_q104  D_q108  D_q115  D_q118  D_q121  D_q134  D_q136  D_q137
section
variable {W0 : World} {κ : Nat → Addr} {GG : Nat → Option AV}

mutual
/-- Its numbers' limbs are limbs, and not too many. -/
def wfD2 : Dat → Prop
  | .mk _ _ _ mag _ l => mag.length < 1000000 ∧ (∀ x ∈ mag, u32ok x) ∧ wfL2 l
def wfL2 : List Dat → Prop
  | [] => True
  | d :: r => wfD2 d ∧ wfL2 r
end
theorem wfL2_mem : ∀ {l : List Dat}, wfL2 l → ∀ x ∈ l, wfD2 x
  | [], _, x, h => by simp at h
  | y :: r, hl, x, h => by
    rcases List.mem_cons.1 h with rfl | h
    · exact hl.1
    · exact wfL2_mem hl.2 x h
theorem wfD2.sub {k c : Int} {neg : Bool} {mag : List Int} {t : ByteArray} {l : List Dat} (h : wfD2 (.mk k c neg mag t l)) {d : Dat} (hd : d ∈ l) : wfD2 d := wfL2_mem h.2.2 d hd

theorem bareP_flat (k c : Int) (neg : Bool) (mag : List Int) (t : ByteArray) (l : List Dat) :
    flatD (.mk k c neg mag t l) (bareD (.mk k c neg mag t l)) = bareP (k == 3) (k == 4) (k == 5 || k == 6) (k == 7 || k == 8) (.mk k c neg mag t l) := by
  simp only [flatD, bareD, bareP, Dat.c, Dat.neg, Dat.mag, Dat.t, Dat.l]
  by_cases h3 : k = 3
  · subst h3; cases neg <;> cases mag <;> cases l <;> simp
  by_cases h4 : k = 4
  · subst h4; cases neg <;> cases mag <;> cases l <;> simp
  by_cases h5 : k = 5
  · subst h5; cases neg <;> cases mag <;> cases l <;> simp
  by_cases h6 : k = 6
  · subst h6; cases neg <;> cases mag <;> cases l <;> simp
  by_cases h7 : k = 7
  · subst h7; cases neg <;> cases mag <;> cases l <;> simp
  by_cases h8 : k = 8
  · subst h8; cases neg <;> cases mag <;> cases l <;> simp
  have g3 : (k == 3) = false := by simpa using h3
  have g4 : (k == 4) = false := by simpa using h4
  have g5 : (k == 5) = false := by simpa using h5
  have g6 : (k == 6) = false := by simpa using h6
  have g7 : (k == 7) = false := by simpa using h7
  have g8 : (k == 8) = false := by simpa using h8
  simp only [g3, g4, g5, g6, g7, g8, h3, h4, h5, h6, h7, h8, if_false, false_or, Bool.or_false, Bool.false_or]
  cases neg <;> cases mag <;> cases l <;> simp

theorem runes_len {s : ByteArray} (h : Lib.validD s.data.toList = true) : (encI .i32 (runeR s (Lib.runeCount s))).length = Lib.runeCount s := by rw [encI_length, runeR_length]
theorem D_rplain : ∀ (n : Nat) (d : Dat), cnt d ≤ n → fine d → wfD2 d → Sound (CD W0 κ GG) 52 [encD d] [.av (.v (.bool (plainD d)))]
  | 0, d, h, _, _ => absurd h (by have := cnt_pos d; omega)
  | n + 1, .mk k c neg mag t l, hn, hf, hw => by
    have hll := encL_length l
    have hlen := hf.len
    have hm := hw.1
    have hu := hw.2.1
    have ht := hf.txt
    simp only [cnt] at hn
    rw [plainD_eq, bareP_flat]
    by_cases hk0 : k = 0
    · subst hk0
      have hb := D_rbare0 (W0 := W0) (κ := κ) (GG := GG) (.mk 0 c neg mag t l)
      have e : (decide (0 ≤ (0 : Int)) && (decide ((0 : Int) ≤ 10) && (bareP ((0 : Int) == 3) ((0 : Int) == 4) ((0 : Int) == 5 || (0 : Int) == 6) ((0 : Int) == 7 || (0 : Int) == 8) (.mk 0 c neg mag t l) && restD 0 c neg mag t l))) = (bareP false false false false (.mk 0 c neg mag t l) && restD 0 c neg mag t l) := rfl
      rw [e]
      generalize bareP false false false false (.mk 0 c neg mag t l) = b at *
      clear e
      simp only [encD] at hb
      (refine Sound.of_go D_ok D_mix Tryd.func52 rfl (by decide) (by kernel_rfl) (GC.go ?_); refine GC_run2 4000 ?_; dsimp only [Tryd.f52, CD, go_sem, Nat.reduceBEq, Nat.reduceAdd, Nat.reduceMul, Nat.reduceSub, Int.reduceBEq, Int.reduceBNe, Int.reduceAdd, Int.reduceSub, Int.reduceMul, Int.reduceToNat, Int.reduceNeg, encD])
      (refine GC.call (by first | rfl | (simp; done) | (simp [hdOK_encI, allSz_encI, encI_length, hdOK_encU, hdOK_encL, allSz_encU, allSz_encL, encU_length, encL_length, encD_one, encD_cells, AVone_v, AVone_sl, AVone_agg, AVone_ref, AVone_fn, AVone_ifc, AVcells_v, AVcells_sl, AVcells_agg, AVcells_ref, AVcells_fn, AVcells_ifc, Value.oneCell', allSz]; done) | (simp [hdOK_encI, allSz_encI, encI_length, hdOK_encU, hdOK_encL, allSz_encU, allSz_encL, encU_length, encL_length, encD_one, encD_cells, AVone_v, AVone_sl, AVone_agg, AVone_ref, AVone_fn, AVone_ifc, AVcells_v, AVcells_sl, AVcells_agg, AVcells_ref, AVcells_fn, AVcells_ifc, Value.oneCell', allSz]; omega)) (hb) ?_; refine GC_run2 4000 ?_; dsimp only [go_sem, Nat.reduceBEq, Nat.reduceAdd, Nat.reduceMul, Nat.reduceSub, Int.reduceBEq, Int.reduceBNe, Int.reduceAdd, Int.reduceSub, Int.reduceMul, Int.reduceToNat, Int.reduceNeg])
      refine GC.finE (by first | rfl | (simp; done) | (simp [hdOK_encI, allSz_encI, encI_length, hdOK_encU, hdOK_encL, allSz_encU, allSz_encL, encU_length, encL_length, encD_one, encD_cells, AVone_v, AVone_sl, AVone_agg, AVone_ref, AVone_fn, AVone_ifc, AVcells_v, AVcells_sl, AVcells_agg, AVcells_ref, AVcells_fn, AVcells_ifc, Value.oneCell', allSz]; done) | (simp [hdOK_encI, allSz_encI, encI_length, hdOK_encU, hdOK_encL, allSz_encU, allSz_encL, encU_length, encL_length, encD_one, encD_cells, AVone_v, AVone_sl, AVone_agg, AVone_ref, AVone_fn, AVone_ifc, AVcells_v, AVcells_sl, AVcells_agg, AVcells_ref, AVcells_fn, AVcells_ifc, Value.oneCell', allSz]; omega)) ?_
      simp [restD]
    by_cases hk1 : k = 1
    · subst hk1
      have hb := D_rbare0 (W0 := W0) (κ := κ) (GG := GG) (.mk 1 c neg mag t l)
      have e : (decide (0 ≤ (1 : Int)) && (decide ((1 : Int) ≤ 10) && (bareP ((1 : Int) == 3) ((1 : Int) == 4) ((1 : Int) == 5 || (1 : Int) == 6) ((1 : Int) == 7 || (1 : Int) == 8) (.mk 1 c neg mag t l) && restD 1 c neg mag t l))) = (bareP false false false false (.mk 1 c neg mag t l) && restD 1 c neg mag t l) := rfl
      rw [e]
      generalize bareP false false false false (.mk 1 c neg mag t l) = b at *
      clear e
      simp only [encD] at hb
      (refine Sound.of_go D_ok D_mix Tryd.func52 rfl (by decide) (by kernel_rfl) (GC.go ?_); refine GC_run2 4000 ?_; dsimp only [Tryd.f52, CD, go_sem, Nat.reduceBEq, Nat.reduceAdd, Nat.reduceMul, Nat.reduceSub, Int.reduceBEq, Int.reduceBNe, Int.reduceAdd, Int.reduceSub, Int.reduceMul, Int.reduceToNat, Int.reduceNeg, encD])
      (refine GC.call (by first | rfl | (simp; done) | (simp [hdOK_encI, allSz_encI, encI_length, hdOK_encU, hdOK_encL, allSz_encU, allSz_encL, encU_length, encL_length, encD_one, encD_cells, AVone_v, AVone_sl, AVone_agg, AVone_ref, AVone_fn, AVone_ifc, AVcells_v, AVcells_sl, AVcells_agg, AVcells_ref, AVcells_fn, AVcells_ifc, Value.oneCell', allSz]; done) | (simp [hdOK_encI, allSz_encI, encI_length, hdOK_encU, hdOK_encL, allSz_encU, allSz_encL, encU_length, encL_length, encD_one, encD_cells, AVone_v, AVone_sl, AVone_agg, AVone_ref, AVone_fn, AVone_ifc, AVcells_v, AVcells_sl, AVcells_agg, AVcells_ref, AVcells_fn, AVcells_ifc, Value.oneCell', allSz]; omega)) (hb) ?_; refine GC_run2 4000 ?_; dsimp only [go_sem, Nat.reduceBEq, Nat.reduceAdd, Nat.reduceMul, Nat.reduceSub, Int.reduceBEq, Int.reduceBNe, Int.reduceAdd, Int.reduceSub, Int.reduceMul, Int.reduceToNat, Int.reduceNeg])
      refine GC.finE (by first | rfl | (simp; done) | (simp [hdOK_encI, allSz_encI, encI_length, hdOK_encU, hdOK_encL, allSz_encU, allSz_encL, encU_length, encL_length, encD_one, encD_cells, AVone_v, AVone_sl, AVone_agg, AVone_ref, AVone_fn, AVone_ifc, AVcells_v, AVcells_sl, AVcells_agg, AVcells_ref, AVcells_fn, AVcells_ifc, Value.oneCell', allSz]; done) | (simp [hdOK_encI, allSz_encI, encI_length, hdOK_encU, hdOK_encL, allSz_encU, allSz_encL, encU_length, encL_length, encD_one, encD_cells, AVone_v, AVone_sl, AVone_agg, AVone_ref, AVone_fn, AVone_ifc, AVcells_v, AVcells_sl, AVcells_agg, AVcells_ref, AVcells_fn, AVcells_ifc, Value.oneCell', allSz]; omega)) ?_
      simp [restD]
    by_cases hk2 : k = 2
    · subst hk2
      have hb := D_rbare0 (W0 := W0) (κ := κ) (GG := GG) (.mk 2 c neg mag t l)
      have e : (decide (0 ≤ (2 : Int)) && (decide ((2 : Int) ≤ 10) && (bareP ((2 : Int) == 3) ((2 : Int) == 4) ((2 : Int) == 5 || (2 : Int) == 6) ((2 : Int) == 7 || (2 : Int) == 8) (.mk 2 c neg mag t l) && restD 2 c neg mag t l))) = (bareP false false false false (.mk 2 c neg mag t l) && restD 2 c neg mag t l) := rfl
      rw [e]
      generalize bareP false false false false (.mk 2 c neg mag t l) = b at *
      clear e
      simp only [encD] at hb
      (refine Sound.of_go D_ok D_mix Tryd.func52 rfl (by decide) (by kernel_rfl) (GC.go ?_); refine GC_run2 4000 ?_; dsimp only [Tryd.f52, CD, go_sem, Nat.reduceBEq, Nat.reduceAdd, Nat.reduceMul, Nat.reduceSub, Int.reduceBEq, Int.reduceBNe, Int.reduceAdd, Int.reduceSub, Int.reduceMul, Int.reduceToNat, Int.reduceNeg, encD])
      (refine GC.call (by first | rfl | (simp; done) | (simp [hdOK_encI, allSz_encI, encI_length, hdOK_encU, hdOK_encL, allSz_encU, allSz_encL, encU_length, encL_length, encD_one, encD_cells, AVone_v, AVone_sl, AVone_agg, AVone_ref, AVone_fn, AVone_ifc, AVcells_v, AVcells_sl, AVcells_agg, AVcells_ref, AVcells_fn, AVcells_ifc, Value.oneCell', allSz]; done) | (simp [hdOK_encI, allSz_encI, encI_length, hdOK_encU, hdOK_encL, allSz_encU, allSz_encL, encU_length, encL_length, encD_one, encD_cells, AVone_v, AVone_sl, AVone_agg, AVone_ref, AVone_fn, AVone_ifc, AVcells_v, AVcells_sl, AVcells_agg, AVcells_ref, AVcells_fn, AVcells_ifc, Value.oneCell', allSz]; omega)) (hb) ?_; refine GC_run2 4000 ?_; dsimp only [go_sem, Nat.reduceBEq, Nat.reduceAdd, Nat.reduceMul, Nat.reduceSub, Int.reduceBEq, Int.reduceBNe, Int.reduceAdd, Int.reduceSub, Int.reduceMul, Int.reduceToNat, Int.reduceNeg])
      refine GC.finE (by first | rfl | (simp; done) | (simp [hdOK_encI, allSz_encI, encI_length, hdOK_encU, hdOK_encL, allSz_encU, allSz_encL, encU_length, encL_length, encD_one, encD_cells, AVone_v, AVone_sl, AVone_agg, AVone_ref, AVone_fn, AVone_ifc, AVcells_v, AVcells_sl, AVcells_agg, AVcells_ref, AVcells_fn, AVcells_ifc, Value.oneCell', allSz]; done) | (simp [hdOK_encI, allSz_encI, encI_length, hdOK_encU, hdOK_encL, allSz_encU, allSz_encL, encU_length, encL_length, encD_one, encD_cells, AVone_v, AVone_sl, AVone_agg, AVone_ref, AVone_fn, AVone_ifc, AVcells_v, AVcells_sl, AVcells_agg, AVcells_ref, AVcells_fn, AVcells_ifc, Value.oneCell', allSz]; omega)) ?_
      simp [restD]
    by_cases hk9 : k = 9
    · subst hk9
      have hb := D_rbare0 (W0 := W0) (κ := κ) (GG := GG) (.mk 9 c neg mag t l)
      have e : (decide (0 ≤ (9 : Int)) && (decide ((9 : Int) ≤ 10) && (bareP ((9 : Int) == 3) ((9 : Int) == 4) ((9 : Int) == 5 || (9 : Int) == 6) ((9 : Int) == 7 || (9 : Int) == 8) (.mk 9 c neg mag t l) && restD 9 c neg mag t l))) = (bareP false false false false (.mk 9 c neg mag t l) && restD 9 c neg mag t l) := rfl
      rw [e]
      generalize bareP false false false false (.mk 9 c neg mag t l) = b at *
      clear e
      simp only [encD] at hb
      (refine Sound.of_go D_ok D_mix Tryd.func52 rfl (by decide) (by kernel_rfl) (GC.go ?_); refine GC_run2 4000 ?_; dsimp only [Tryd.f52, CD, go_sem, Nat.reduceBEq, Nat.reduceAdd, Nat.reduceMul, Nat.reduceSub, Int.reduceBEq, Int.reduceBNe, Int.reduceAdd, Int.reduceSub, Int.reduceMul, Int.reduceToNat, Int.reduceNeg, encD])
      (refine GC.call (by first | rfl | (simp; done) | (simp [hdOK_encI, allSz_encI, encI_length, hdOK_encU, hdOK_encL, allSz_encU, allSz_encL, encU_length, encL_length, encD_one, encD_cells, AVone_v, AVone_sl, AVone_agg, AVone_ref, AVone_fn, AVone_ifc, AVcells_v, AVcells_sl, AVcells_agg, AVcells_ref, AVcells_fn, AVcells_ifc, Value.oneCell', allSz]; done) | (simp [hdOK_encI, allSz_encI, encI_length, hdOK_encU, hdOK_encL, allSz_encU, allSz_encL, encU_length, encL_length, encD_one, encD_cells, AVone_v, AVone_sl, AVone_agg, AVone_ref, AVone_fn, AVone_ifc, AVcells_v, AVcells_sl, AVcells_agg, AVcells_ref, AVcells_fn, AVcells_ifc, Value.oneCell', allSz]; omega)) (hb) ?_; refine GC_run2 4000 ?_; dsimp only [go_sem, Nat.reduceBEq, Nat.reduceAdd, Nat.reduceMul, Nat.reduceSub, Int.reduceBEq, Int.reduceBNe, Int.reduceAdd, Int.reduceSub, Int.reduceMul, Int.reduceToNat, Int.reduceNeg])
      refine GC.finE (by first | rfl | (simp; done) | (simp [hdOK_encI, allSz_encI, encI_length, hdOK_encU, hdOK_encL, allSz_encU, allSz_encL, encU_length, encL_length, encD_one, encD_cells, AVone_v, AVone_sl, AVone_agg, AVone_ref, AVone_fn, AVone_ifc, AVcells_v, AVcells_sl, AVcells_agg, AVcells_ref, AVcells_fn, AVcells_ifc, Value.oneCell', allSz]; done) | (simp [hdOK_encI, allSz_encI, encI_length, hdOK_encU, hdOK_encL, allSz_encU, allSz_encL, encU_length, encL_length, encD_one, encD_cells, AVone_v, AVone_sl, AVone_agg, AVone_ref, AVone_fn, AVone_ifc, AVcells_v, AVcells_sl, AVcells_agg, AVcells_ref, AVcells_fn, AVcells_ifc, Value.oneCell', allSz]; omega)) ?_
      simp [restD]
    by_cases hk10 : k = 10
    · subst hk10
      have hb := D_rbare0 (W0 := W0) (κ := κ) (GG := GG) (.mk 10 c neg mag t l)
      have e : (decide (0 ≤ (10 : Int)) && (decide ((10 : Int) ≤ 10) && (bareP ((10 : Int) == 3) ((10 : Int) == 4) ((10 : Int) == 5 || (10 : Int) == 6) ((10 : Int) == 7 || (10 : Int) == 8) (.mk 10 c neg mag t l) && restD 10 c neg mag t l))) = (bareP false false false false (.mk 10 c neg mag t l) && restD 10 c neg mag t l) := rfl
      rw [e]
      generalize bareP false false false false (.mk 10 c neg mag t l) = b at *
      clear e
      simp only [encD] at hb
      (refine Sound.of_go D_ok D_mix Tryd.func52 rfl (by decide) (by kernel_rfl) (GC.go ?_); refine GC_run2 4000 ?_; dsimp only [Tryd.f52, CD, go_sem, Nat.reduceBEq, Nat.reduceAdd, Nat.reduceMul, Nat.reduceSub, Int.reduceBEq, Int.reduceBNe, Int.reduceAdd, Int.reduceSub, Int.reduceMul, Int.reduceToNat, Int.reduceNeg, encD])
      (refine GC.call (by first | rfl | (simp; done) | (simp [hdOK_encI, allSz_encI, encI_length, hdOK_encU, hdOK_encL, allSz_encU, allSz_encL, encU_length, encL_length, encD_one, encD_cells, AVone_v, AVone_sl, AVone_agg, AVone_ref, AVone_fn, AVone_ifc, AVcells_v, AVcells_sl, AVcells_agg, AVcells_ref, AVcells_fn, AVcells_ifc, Value.oneCell', allSz]; done) | (simp [hdOK_encI, allSz_encI, encI_length, hdOK_encU, hdOK_encL, allSz_encU, allSz_encL, encU_length, encL_length, encD_one, encD_cells, AVone_v, AVone_sl, AVone_agg, AVone_ref, AVone_fn, AVone_ifc, AVcells_v, AVcells_sl, AVcells_agg, AVcells_ref, AVcells_fn, AVcells_ifc, Value.oneCell', allSz]; omega)) (hb) ?_; refine GC_run2 4000 ?_; dsimp only [go_sem, Nat.reduceBEq, Nat.reduceAdd, Nat.reduceMul, Nat.reduceSub, Int.reduceBEq, Int.reduceBNe, Int.reduceAdd, Int.reduceSub, Int.reduceMul, Int.reduceToNat, Int.reduceNeg])
      refine GC.finE (by first | rfl | (simp; done) | (simp [hdOK_encI, allSz_encI, encI_length, hdOK_encU, hdOK_encL, allSz_encU, allSz_encL, encU_length, encL_length, encD_one, encD_cells, AVone_v, AVone_sl, AVone_agg, AVone_ref, AVone_fn, AVone_ifc, AVcells_v, AVcells_sl, AVcells_agg, AVcells_ref, AVcells_fn, AVcells_ifc, Value.oneCell', allSz]; done) | (simp [hdOK_encI, allSz_encI, encI_length, hdOK_encU, hdOK_encL, allSz_encU, allSz_encL, encU_length, encL_length, encD_one, encD_cells, AVone_v, AVone_sl, AVone_agg, AVone_ref, AVone_fn, AVone_ifc, AVcells_v, AVcells_sl, AVcells_agg, AVcells_ref, AVcells_fn, AVcells_ifc, Value.oneCell', allSz]; omega)) ?_
      simp [restD]
    by_cases hk3 : k = 3
    · subst hk3
      have hb := D_rbare1 (W0 := W0) (κ := κ) (GG := GG) (.mk 3 c neg mag t l)
      have e : (decide (0 ≤ (3 : Int)) && (decide ((3 : Int) ≤ 10) && (bareP ((3 : Int) == 3) ((3 : Int) == 4) ((3 : Int) == 5 || (3 : Int) == 6) ((3 : Int) == 7 || (3 : Int) == 8) (.mk 3 c neg mag t l) && restD 3 c neg mag t l))) = (bareP true false false false (.mk 3 c neg mag t l) && restD 3 c neg mag t l) := rfl
      rw [e]
      generalize bareP true false false false (.mk 3 c neg mag t l) = b at *
      clear e
      simp only [encD] at hb
      have h3 := D_rchar (W0 := W0) (κ := κ) (GG := GG) c
      cases b with
      | false =>
        (refine Sound.of_go D_ok D_mix Tryd.func52 rfl (by decide) (by kernel_rfl) (GC.go ?_); refine GC_run2 4000 ?_; dsimp only [Tryd.f52, CD, go_sem, Nat.reduceBEq, Nat.reduceAdd, Nat.reduceMul, Nat.reduceSub, Int.reduceBEq, Int.reduceBNe, Int.reduceAdd, Int.reduceSub, Int.reduceMul, Int.reduceToNat, Int.reduceNeg, encD])
        (refine GC.call (by first | rfl | (simp; done) | (simp [hdOK_encI, allSz_encI, encI_length, hdOK_encU, hdOK_encL, allSz_encU, allSz_encL, encU_length, encL_length, encD_one, encD_cells, AVone_v, AVone_sl, AVone_agg, AVone_ref, AVone_fn, AVone_ifc, AVcells_v, AVcells_sl, AVcells_agg, AVcells_ref, AVcells_fn, AVcells_ifc, Value.oneCell', allSz]; done) | (simp [hdOK_encI, allSz_encI, encI_length, hdOK_encU, hdOK_encL, allSz_encU, allSz_encL, encU_length, encL_length, encD_one, encD_cells, AVone_v, AVone_sl, AVone_agg, AVone_ref, AVone_fn, AVone_ifc, AVcells_v, AVcells_sl, AVcells_agg, AVcells_ref, AVcells_fn, AVcells_ifc, Value.oneCell', allSz]; omega)) (hb) ?_; refine GC_run2 4000 ?_; dsimp only [go_sem, Nat.reduceBEq, Nat.reduceAdd, Nat.reduceMul, Nat.reduceSub, Int.reduceBEq, Int.reduceBNe, Int.reduceAdd, Int.reduceSub, Int.reduceMul, Int.reduceToNat, Int.reduceNeg])
        refine GC.finE (by first | rfl | (simp; done) | (simp [hdOK_encI, allSz_encI, encI_length, hdOK_encU, hdOK_encL, allSz_encU, allSz_encL, encU_length, encL_length, encD_one, encD_cells, AVone_v, AVone_sl, AVone_agg, AVone_ref, AVone_fn, AVone_ifc, AVcells_v, AVcells_sl, AVcells_agg, AVcells_ref, AVcells_fn, AVcells_ifc, Value.oneCell', allSz]; done) | (simp [hdOK_encI, allSz_encI, encI_length, hdOK_encU, hdOK_encL, allSz_encU, allSz_encL, encU_length, encL_length, encD_one, encD_cells, AVone_v, AVone_sl, AVone_agg, AVone_ref, AVone_fn, AVone_ifc, AVcells_v, AVcells_sl, AVcells_agg, AVcells_ref, AVcells_fn, AVcells_ifc, Value.oneCell', allSz]; omega)) ?_
        rfl
      | true =>
        (refine Sound.of_go D_ok D_mix Tryd.func52 rfl (by decide) (by kernel_rfl) (GC.go ?_); refine GC_run2 4000 ?_; dsimp only [Tryd.f52, CD, go_sem, Nat.reduceBEq, Nat.reduceAdd, Nat.reduceMul, Nat.reduceSub, Int.reduceBEq, Int.reduceBNe, Int.reduceAdd, Int.reduceSub, Int.reduceMul, Int.reduceToNat, Int.reduceNeg, encD])
        (refine GC.call (by first | rfl | (simp; done) | (simp [hdOK_encI, allSz_encI, encI_length, hdOK_encU, hdOK_encL, allSz_encU, allSz_encL, encU_length, encL_length, encD_one, encD_cells, AVone_v, AVone_sl, AVone_agg, AVone_ref, AVone_fn, AVone_ifc, AVcells_v, AVcells_sl, AVcells_agg, AVcells_ref, AVcells_fn, AVcells_ifc, Value.oneCell', allSz]; done) | (simp [hdOK_encI, allSz_encI, encI_length, hdOK_encU, hdOK_encL, allSz_encU, allSz_encL, encU_length, encL_length, encD_one, encD_cells, AVone_v, AVone_sl, AVone_agg, AVone_ref, AVone_fn, AVone_ifc, AVcells_v, AVcells_sl, AVcells_agg, AVcells_ref, AVcells_fn, AVcells_ifc, Value.oneCell', allSz]; omega)) (hb) ?_; refine GC_run2 4000 ?_; dsimp only [go_sem, Nat.reduceBEq, Nat.reduceAdd, Nat.reduceMul, Nat.reduceSub, Int.reduceBEq, Int.reduceBNe, Int.reduceAdd, Int.reduceSub, Int.reduceMul, Int.reduceToNat, Int.reduceNeg])
        (refine GC.call (by first | rfl | (simp; done) | (simp [hdOK_encI, allSz_encI, encI_length, hdOK_encU, hdOK_encL, allSz_encU, allSz_encL, encU_length, encL_length, encD_one, encD_cells, AVone_v, AVone_sl, AVone_agg, AVone_ref, AVone_fn, AVone_ifc, AVcells_v, AVcells_sl, AVcells_agg, AVcells_ref, AVcells_fn, AVcells_ifc, Value.oneCell', allSz]; done) | (simp [hdOK_encI, allSz_encI, encI_length, hdOK_encU, hdOK_encL, allSz_encU, allSz_encL, encU_length, encL_length, encD_one, encD_cells, AVone_v, AVone_sl, AVone_agg, AVone_ref, AVone_fn, AVone_ifc, AVcells_v, AVcells_sl, AVcells_agg, AVcells_ref, AVcells_fn, AVcells_ifc, Value.oneCell', allSz]; omega)) (h3) ?_; refine GC_run2 4000 ?_; dsimp only [go_sem, Nat.reduceBEq, Nat.reduceAdd, Nat.reduceMul, Nat.reduceSub, Int.reduceBEq, Int.reduceBNe, Int.reduceAdd, Int.reduceSub, Int.reduceMul, Int.reduceToNat, Int.reduceNeg])
        refine GC.finE (by first | rfl | (simp; done) | (simp [hdOK_encI, allSz_encI, encI_length, hdOK_encU, hdOK_encL, allSz_encU, allSz_encL, encU_length, encL_length, encD_one, encD_cells, AVone_v, AVone_sl, AVone_agg, AVone_ref, AVone_fn, AVone_ifc, AVcells_v, AVcells_sl, AVcells_agg, AVcells_ref, AVcells_fn, AVcells_ifc, Value.oneCell', allSz]; done) | (simp [hdOK_encI, allSz_encI, encI_length, hdOK_encU, hdOK_encL, allSz_encU, allSz_encL, encU_length, encL_length, encD_one, encD_cells, AVone_v, AVone_sl, AVone_agg, AVone_ref, AVone_fn, AVone_ifc, AVcells_v, AVcells_sl, AVcells_agg, AVcells_ref, AVcells_fn, AVcells_ifc, Value.oneCell', allSz]; omega)) ?_
        rfl
    by_cases hk4 : k = 4
    · subst hk4
      have hb := D_rbare2 (W0 := W0) (κ := κ) (GG := GG) (.mk 4 c neg mag t l)
      have e : (decide (0 ≤ (4 : Int)) && (decide ((4 : Int) ≤ 10) && (bareP ((4 : Int) == 3) ((4 : Int) == 4) ((4 : Int) == 5 || (4 : Int) == 6) ((4 : Int) == 7 || (4 : Int) == 8) (.mk 4 c neg mag t l) && restD 4 c neg mag t l))) = (bareP false true false false (.mk 4 c neg mag t l) && restD 4 c neg mag t l) := rfl
      rw [e]
      generalize bareP false true false false (.mk 4 c neg mag t l) = b at *
      clear e
      simp only [encD] at hb
      have h3 := D_rnmay (W0 := W0) (κ := κ) (GG := GG) neg mag hm hu
      cases b with
      | false =>
        (refine Sound.of_go D_ok D_mix Tryd.func52 rfl (by decide) (by kernel_rfl) (GC.go ?_); refine GC_run2 4000 ?_; dsimp only [Tryd.f52, CD, go_sem, Nat.reduceBEq, Nat.reduceAdd, Nat.reduceMul, Nat.reduceSub, Int.reduceBEq, Int.reduceBNe, Int.reduceAdd, Int.reduceSub, Int.reduceMul, Int.reduceToNat, Int.reduceNeg, encD])
        (refine GC.call (by first | rfl | (simp; done) | (simp [hdOK_encI, allSz_encI, encI_length, hdOK_encU, hdOK_encL, allSz_encU, allSz_encL, encU_length, encL_length, encD_one, encD_cells, AVone_v, AVone_sl, AVone_agg, AVone_ref, AVone_fn, AVone_ifc, AVcells_v, AVcells_sl, AVcells_agg, AVcells_ref, AVcells_fn, AVcells_ifc, Value.oneCell', allSz]; done) | (simp [hdOK_encI, allSz_encI, encI_length, hdOK_encU, hdOK_encL, allSz_encU, allSz_encL, encU_length, encL_length, encD_one, encD_cells, AVone_v, AVone_sl, AVone_agg, AVone_ref, AVone_fn, AVone_ifc, AVcells_v, AVcells_sl, AVcells_agg, AVcells_ref, AVcells_fn, AVcells_ifc, Value.oneCell', allSz]; omega)) (hb) ?_; refine GC_run2 4000 ?_; dsimp only [go_sem, Nat.reduceBEq, Nat.reduceAdd, Nat.reduceMul, Nat.reduceSub, Int.reduceBEq, Int.reduceBNe, Int.reduceAdd, Int.reduceSub, Int.reduceMul, Int.reduceToNat, Int.reduceNeg])
        refine GC.finE (by first | rfl | (simp; done) | (simp [hdOK_encI, allSz_encI, encI_length, hdOK_encU, hdOK_encL, allSz_encU, allSz_encL, encU_length, encL_length, encD_one, encD_cells, AVone_v, AVone_sl, AVone_agg, AVone_ref, AVone_fn, AVone_ifc, AVcells_v, AVcells_sl, AVcells_agg, AVcells_ref, AVcells_fn, AVcells_ifc, Value.oneCell', allSz]; done) | (simp [hdOK_encI, allSz_encI, encI_length, hdOK_encU, hdOK_encL, allSz_encU, allSz_encL, encU_length, encL_length, encD_one, encD_cells, AVone_v, AVone_sl, AVone_agg, AVone_ref, AVone_fn, AVone_ifc, AVcells_v, AVcells_sl, AVcells_agg, AVcells_ref, AVcells_fn, AVcells_ifc, Value.oneCell', allSz]; omega)) ?_
        rfl
      | true =>
        (refine Sound.of_go D_ok D_mix Tryd.func52 rfl (by decide) (by kernel_rfl) (GC.go ?_); refine GC_run2 4000 ?_; dsimp only [Tryd.f52, CD, go_sem, Nat.reduceBEq, Nat.reduceAdd, Nat.reduceMul, Nat.reduceSub, Int.reduceBEq, Int.reduceBNe, Int.reduceAdd, Int.reduceSub, Int.reduceMul, Int.reduceToNat, Int.reduceNeg, encD])
        (refine GC.call (by first | rfl | (simp; done) | (simp [hdOK_encI, allSz_encI, encI_length, hdOK_encU, hdOK_encL, allSz_encU, allSz_encL, encU_length, encL_length, encD_one, encD_cells, AVone_v, AVone_sl, AVone_agg, AVone_ref, AVone_fn, AVone_ifc, AVcells_v, AVcells_sl, AVcells_agg, AVcells_ref, AVcells_fn, AVcells_ifc, Value.oneCell', allSz]; done) | (simp [hdOK_encI, allSz_encI, encI_length, hdOK_encU, hdOK_encL, allSz_encU, allSz_encL, encU_length, encL_length, encD_one, encD_cells, AVone_v, AVone_sl, AVone_agg, AVone_ref, AVone_fn, AVone_ifc, AVcells_v, AVcells_sl, AVcells_agg, AVcells_ref, AVcells_fn, AVcells_ifc, Value.oneCell', allSz]; omega)) (hb) ?_; refine GC_run2 4000 ?_; dsimp only [go_sem, Nat.reduceBEq, Nat.reduceAdd, Nat.reduceMul, Nat.reduceSub, Int.reduceBEq, Int.reduceBNe, Int.reduceAdd, Int.reduceSub, Int.reduceMul, Int.reduceToNat, Int.reduceNeg])
        (refine GC.call (by first | rfl | (simp; done) | (simp [hdOK_encI, allSz_encI, encI_length, hdOK_encU, hdOK_encL, allSz_encU, allSz_encL, encU_length, encL_length, encD_one, encD_cells, AVone_v, AVone_sl, AVone_agg, AVone_ref, AVone_fn, AVone_ifc, AVcells_v, AVcells_sl, AVcells_agg, AVcells_ref, AVcells_fn, AVcells_ifc, Value.oneCell', allSz]; done) | (simp [hdOK_encI, allSz_encI, encI_length, hdOK_encU, hdOK_encL, allSz_encU, allSz_encL, encU_length, encL_length, encD_one, encD_cells, AVone_v, AVone_sl, AVone_agg, AVone_ref, AVone_fn, AVone_ifc, AVcells_v, AVcells_sl, AVcells_agg, AVcells_ref, AVcells_fn, AVcells_ifc, Value.oneCell', allSz]; omega)) (h3) ?_; refine GC_run2 4000 ?_; dsimp only [go_sem, Nat.reduceBEq, Nat.reduceAdd, Nat.reduceMul, Nat.reduceSub, Int.reduceBEq, Int.reduceBNe, Int.reduceAdd, Int.reduceSub, Int.reduceMul, Int.reduceToNat, Int.reduceNeg])
        refine GC.finE (by first | rfl | (simp; done) | (simp [hdOK_encI, allSz_encI, encI_length, hdOK_encU, hdOK_encL, allSz_encU, allSz_encL, encU_length, encL_length, encD_one, encD_cells, AVone_v, AVone_sl, AVone_agg, AVone_ref, AVone_fn, AVone_ifc, AVcells_v, AVcells_sl, AVcells_agg, AVcells_ref, AVcells_fn, AVcells_ifc, Value.oneCell', allSz]; done) | (simp [hdOK_encI, allSz_encI, encI_length, hdOK_encU, hdOK_encL, allSz_encU, allSz_encL, encU_length, encL_length, encD_one, encD_cells, AVone_v, AVone_sl, AVone_agg, AVone_ref, AVone_fn, AVone_ifc, AVcells_v, AVcells_sl, AVcells_agg, AVcells_ref, AVcells_fn, AVcells_ifc, Value.oneCell', allSz]; omega)) ?_
        rfl
    by_cases hk5 : k = 5
    · subst hk5
      have hb := D_rbare4 (W0 := W0) (κ := κ) (GG := GG) (.mk 5 c neg mag t l)
      have e : (decide (0 ≤ (5 : Int)) && (decide ((5 : Int) ≤ 10) && (bareP ((5 : Int) == 3) ((5 : Int) == 4) ((5 : Int) == 5 || (5 : Int) == 6) ((5 : Int) == 7 || (5 : Int) == 8) (.mk 5 c neg mag t l) && restD 5 c neg mag t l))) = (bareP false false true false (.mk 5 c neg mag t l) && restD 5 c neg mag t l) := rfl
      rw [e]
      generalize bareP false false true false (.mk 5 c neg mag t l) = b at *
      clear e
      simp only [encD] at hb
      have hr := D_runes (W0 := W0) (κ := κ) (GG := GG) t ht
      have hrl := runes_len (s := t)
      have e2 : restD 5 c neg mag t l = textOK t 0 := rfl
      rw [e2]
      unfold textOK
      generalize Lib.validD t.data.toList = v at *
      generalize encI .i32 (runeR t (Lib.runeCount t)) = rs at *
      generalize Lib.runeCount t = rc at *
      cases v with
      | false =>
        simp only [Bool.false_eq_true, if_false] at hr
        cases b with
        | false =>
          (refine Sound.of_go D_ok D_mix Tryd.func52 rfl (by decide) (by kernel_rfl) (GC.go ?_); refine GC_run2 4000 ?_; dsimp only [Tryd.f52, CD, go_sem, Nat.reduceBEq, Nat.reduceAdd, Nat.reduceMul, Nat.reduceSub, Int.reduceBEq, Int.reduceBNe, Int.reduceAdd, Int.reduceSub, Int.reduceMul, Int.reduceToNat, Int.reduceNeg, encD])
          (refine GC.call (by first | rfl | (simp; done) | (simp [hdOK_encI, allSz_encI, encI_length, hdOK_encU, hdOK_encL, allSz_encU, allSz_encL, encU_length, encL_length, encD_one, encD_cells, AVone_v, AVone_sl, AVone_agg, AVone_ref, AVone_fn, AVone_ifc, AVcells_v, AVcells_sl, AVcells_agg, AVcells_ref, AVcells_fn, AVcells_ifc, Value.oneCell', allSz]; done) | (simp [hdOK_encI, allSz_encI, encI_length, hdOK_encU, hdOK_encL, allSz_encU, allSz_encL, encU_length, encL_length, encD_one, encD_cells, AVone_v, AVone_sl, AVone_agg, AVone_ref, AVone_fn, AVone_ifc, AVcells_v, AVcells_sl, AVcells_agg, AVcells_ref, AVcells_fn, AVcells_ifc, Value.oneCell', allSz]; omega)) (hr) ?_; refine GC_run2 4000 ?_; dsimp only [go_sem, Nat.reduceBEq, Nat.reduceAdd, Nat.reduceMul, Nat.reduceSub, Int.reduceBEq, Int.reduceBNe, Int.reduceAdd, Int.reduceSub, Int.reduceMul, Int.reduceToNat, Int.reduceNeg])
          (refine GC.call (by first | rfl | (simp; done) | (simp [hdOK_encI, allSz_encI, encI_length, hdOK_encU, hdOK_encL, allSz_encU, allSz_encL, encU_length, encL_length, encD_one, encD_cells, AVone_v, AVone_sl, AVone_agg, AVone_ref, AVone_fn, AVone_ifc, AVcells_v, AVcells_sl, AVcells_agg, AVcells_ref, AVcells_fn, AVcells_ifc, Value.oneCell', allSz]; done) | (simp [hdOK_encI, allSz_encI, encI_length, hdOK_encU, hdOK_encL, allSz_encU, allSz_encL, encU_length, encL_length, encD_one, encD_cells, AVone_v, AVone_sl, AVone_agg, AVone_ref, AVone_fn, AVone_ifc, AVcells_v, AVcells_sl, AVcells_agg, AVcells_ref, AVcells_fn, AVcells_ifc, Value.oneCell', allSz]; omega)) (hb) ?_; refine GC_run2 4000 ?_; dsimp only [go_sem, Nat.reduceBEq, Nat.reduceAdd, Nat.reduceMul, Nat.reduceSub, Int.reduceBEq, Int.reduceBNe, Int.reduceAdd, Int.reduceSub, Int.reduceMul, Int.reduceToNat, Int.reduceNeg])
          refine GC.finE (by first | rfl | (simp; done) | (simp [hdOK_encI, allSz_encI, encI_length, hdOK_encU, hdOK_encL, allSz_encU, allSz_encL, encU_length, encL_length, encD_one, encD_cells, AVone_v, AVone_sl, AVone_agg, AVone_ref, AVone_fn, AVone_ifc, AVcells_v, AVcells_sl, AVcells_agg, AVcells_ref, AVcells_fn, AVcells_ifc, Value.oneCell', allSz]; done) | (simp [hdOK_encI, allSz_encI, encI_length, hdOK_encU, hdOK_encL, allSz_encU, allSz_encL, encU_length, encL_length, encD_one, encD_cells, AVone_v, AVone_sl, AVone_agg, AVone_ref, AVone_fn, AVone_ifc, AVcells_v, AVcells_sl, AVcells_agg, AVcells_ref, AVcells_fn, AVcells_ifc, Value.oneCell', allSz]; omega)) ?_
          rfl
        | true =>
          (refine Sound.of_go D_ok D_mix Tryd.func52 rfl (by decide) (by kernel_rfl) (GC.go ?_); refine GC_run2 4000 ?_; dsimp only [Tryd.f52, CD, go_sem, Nat.reduceBEq, Nat.reduceAdd, Nat.reduceMul, Nat.reduceSub, Int.reduceBEq, Int.reduceBNe, Int.reduceAdd, Int.reduceSub, Int.reduceMul, Int.reduceToNat, Int.reduceNeg, encD])
          (refine GC.call (by first | rfl | (simp; done) | (simp [hdOK_encI, allSz_encI, encI_length, hdOK_encU, hdOK_encL, allSz_encU, allSz_encL, encU_length, encL_length, encD_one, encD_cells, AVone_v, AVone_sl, AVone_agg, AVone_ref, AVone_fn, AVone_ifc, AVcells_v, AVcells_sl, AVcells_agg, AVcells_ref, AVcells_fn, AVcells_ifc, Value.oneCell', allSz]; done) | (simp [hdOK_encI, allSz_encI, encI_length, hdOK_encU, hdOK_encL, allSz_encU, allSz_encL, encU_length, encL_length, encD_one, encD_cells, AVone_v, AVone_sl, AVone_agg, AVone_ref, AVone_fn, AVone_ifc, AVcells_v, AVcells_sl, AVcells_agg, AVcells_ref, AVcells_fn, AVcells_ifc, Value.oneCell', allSz]; omega)) (hr) ?_; refine GC_run2 4000 ?_; dsimp only [go_sem, Nat.reduceBEq, Nat.reduceAdd, Nat.reduceMul, Nat.reduceSub, Int.reduceBEq, Int.reduceBNe, Int.reduceAdd, Int.reduceSub, Int.reduceMul, Int.reduceToNat, Int.reduceNeg])
          (refine GC.call (by first | rfl | (simp; done) | (simp [hdOK_encI, allSz_encI, encI_length, hdOK_encU, hdOK_encL, allSz_encU, allSz_encL, encU_length, encL_length, encD_one, encD_cells, AVone_v, AVone_sl, AVone_agg, AVone_ref, AVone_fn, AVone_ifc, AVcells_v, AVcells_sl, AVcells_agg, AVcells_ref, AVcells_fn, AVcells_ifc, Value.oneCell', allSz]; done) | (simp [hdOK_encI, allSz_encI, encI_length, hdOK_encU, hdOK_encL, allSz_encU, allSz_encL, encU_length, encL_length, encD_one, encD_cells, AVone_v, AVone_sl, AVone_agg, AVone_ref, AVone_fn, AVone_ifc, AVcells_v, AVcells_sl, AVcells_agg, AVcells_ref, AVcells_fn, AVcells_ifc, Value.oneCell', allSz]; omega)) (hb) ?_; refine GC_run2 4000 ?_; dsimp only [go_sem, Nat.reduceBEq, Nat.reduceAdd, Nat.reduceMul, Nat.reduceSub, Int.reduceBEq, Int.reduceBNe, Int.reduceAdd, Int.reduceSub, Int.reduceMul, Int.reduceToNat, Int.reduceNeg])
          refine GC.finE (by first | rfl | (simp; done) | (simp [hdOK_encI, allSz_encI, encI_length, hdOK_encU, hdOK_encL, allSz_encU, allSz_encL, encU_length, encL_length, encD_one, encD_cells, AVone_v, AVone_sl, AVone_agg, AVone_ref, AVone_fn, AVone_ifc, AVcells_v, AVcells_sl, AVcells_agg, AVcells_ref, AVcells_fn, AVcells_ifc, Value.oneCell', allSz]; done) | (simp [hdOK_encI, allSz_encI, encI_length, hdOK_encU, hdOK_encL, allSz_encU, allSz_encL, encU_length, encL_length, encD_one, encD_cells, AVone_v, AVone_sl, AVone_agg, AVone_ref, AVone_fn, AVone_ifc, AVcells_v, AVcells_sl, AVcells_agg, AVcells_ref, AVcells_fn, AVcells_ifc, Value.oneCell', allSz]; omega)) ?_
          rfl
      | true =>
        simp only [if_true] at hr
        have hrl := hrl rfl
        cases b with
        | false =>
          (refine Sound.of_go D_ok D_mix Tryd.func52 rfl (by decide) (by kernel_rfl) (GC.go ?_); refine GC_run2 4000 ?_; dsimp only [Tryd.f52, CD, go_sem, Nat.reduceBEq, Nat.reduceAdd, Nat.reduceMul, Nat.reduceSub, Int.reduceBEq, Int.reduceBNe, Int.reduceAdd, Int.reduceSub, Int.reduceMul, Int.reduceToNat, Int.reduceNeg, encD])
          (refine GC.call (by first | rfl | (simp; done) | (simp [hdOK_encI, allSz_encI, encI_length, hdOK_encU, hdOK_encL, allSz_encU, allSz_encL, encU_length, encL_length, encD_one, encD_cells, AVone_v, AVone_sl, AVone_agg, AVone_ref, AVone_fn, AVone_ifc, AVcells_v, AVcells_sl, AVcells_agg, AVcells_ref, AVcells_fn, AVcells_ifc, Value.oneCell', allSz]; done) | (simp [hdOK_encI, allSz_encI, encI_length, hdOK_encU, hdOK_encL, allSz_encU, allSz_encL, encU_length, encL_length, encD_one, encD_cells, AVone_v, AVone_sl, AVone_agg, AVone_ref, AVone_fn, AVone_ifc, AVcells_v, AVcells_sl, AVcells_agg, AVcells_ref, AVcells_fn, AVcells_ifc, Value.oneCell', allSz]; omega)) (hr) ?_; refine GC_run2 4000 ?_; dsimp only [go_sem, Nat.reduceBEq, Nat.reduceAdd, Nat.reduceMul, Nat.reduceSub, Int.reduceBEq, Int.reduceBNe, Int.reduceAdd, Int.reduceSub, Int.reduceMul, Int.reduceToNat, Int.reduceNeg])
          (refine GC.call (by first | rfl | (simp; done) | (simp [hdOK_encI, allSz_encI, encI_length, hdOK_encU, hdOK_encL, allSz_encU, allSz_encL, encU_length, encL_length, encD_one, encD_cells, AVone_v, AVone_sl, AVone_agg, AVone_ref, AVone_fn, AVone_ifc, AVcells_v, AVcells_sl, AVcells_agg, AVcells_ref, AVcells_fn, AVcells_ifc, Value.oneCell', allSz]; done) | (simp [hdOK_encI, allSz_encI, encI_length, hdOK_encU, hdOK_encL, allSz_encU, allSz_encL, encU_length, encL_length, encD_one, encD_cells, AVone_v, AVone_sl, AVone_agg, AVone_ref, AVone_fn, AVone_ifc, AVcells_v, AVcells_sl, AVcells_agg, AVcells_ref, AVcells_fn, AVcells_ifc, Value.oneCell', allSz]; omega)) (hb) ?_; refine GC_run2 4000 ?_; dsimp only [go_sem, Nat.reduceBEq, Nat.reduceAdd, Nat.reduceMul, Nat.reduceSub, Int.reduceBEq, Int.reduceBNe, Int.reduceAdd, Int.reduceSub, Int.reduceMul, Int.reduceToNat, Int.reduceNeg])
          refine GC.finE (by first | rfl | (simp; done) | (simp [hdOK_encI, allSz_encI, encI_length, hdOK_encU, hdOK_encL, allSz_encU, allSz_encL, encU_length, encL_length, encD_one, encD_cells, AVone_v, AVone_sl, AVone_agg, AVone_ref, AVone_fn, AVone_ifc, AVcells_v, AVcells_sl, AVcells_agg, AVcells_ref, AVcells_fn, AVcells_ifc, Value.oneCell', allSz]; done) | (simp [hdOK_encI, allSz_encI, encI_length, hdOK_encU, hdOK_encL, allSz_encU, allSz_encL, encU_length, encL_length, encD_one, encD_cells, AVone_v, AVone_sl, AVone_agg, AVone_ref, AVone_fn, AVone_ifc, AVcells_v, AVcells_sl, AVcells_agg, AVcells_ref, AVcells_fn, AVcells_ifc, Value.oneCell', allSz]; omega)) ?_
          rfl
        | true =>
          by_cases h62 : rc ≤ 62
          · have d1 : decide (((rs.length : Nat) : Int) ≤ 62) = true := by simp; omega
            have d3 : decide ((rc : Int) ≤ 62) = true := by simp; omega
            rw [d3]
            have d4 : decide ((0 : Int) ≤ (rc : Int)) = true := by simp
            rw [d4]
            (refine Sound.of_go D_ok D_mix Tryd.func52 rfl (by decide) (by kernel_rfl) (GC.go ?_); refine GC_run2 4000 ?_; dsimp only [Tryd.f52, CD, go_sem, Nat.reduceBEq, Nat.reduceAdd, Nat.reduceMul, Nat.reduceSub, Int.reduceBEq, Int.reduceBNe, Int.reduceAdd, Int.reduceSub, Int.reduceMul, Int.reduceToNat, Int.reduceNeg, encD])
            (refine GC.call (by first | rfl | (simp; done) | (simp [hdOK_encI, allSz_encI, encI_length, hdOK_encU, hdOK_encL, allSz_encU, allSz_encL, encU_length, encL_length, encD_one, encD_cells, AVone_v, AVone_sl, AVone_agg, AVone_ref, AVone_fn, AVone_ifc, AVcells_v, AVcells_sl, AVcells_agg, AVcells_ref, AVcells_fn, AVcells_ifc, Value.oneCell', allSz]; done) | (simp [hdOK_encI, allSz_encI, encI_length, hdOK_encU, hdOK_encL, allSz_encU, allSz_encL, encU_length, encL_length, encD_one, encD_cells, AVone_v, AVone_sl, AVone_agg, AVone_ref, AVone_fn, AVone_ifc, AVcells_v, AVcells_sl, AVcells_agg, AVcells_ref, AVcells_fn, AVcells_ifc, Value.oneCell', allSz]; omega)) (hr) ?_; refine GC_run2 4000 ?_; dsimp only [go_sem, Nat.reduceBEq, Nat.reduceAdd, Nat.reduceMul, Nat.reduceSub, Int.reduceBEq, Int.reduceBNe, Int.reduceAdd, Int.reduceSub, Int.reduceMul, Int.reduceToNat, Int.reduceNeg])
            (refine GC.call (by first | rfl | (simp; done) | (simp [hdOK_encI, allSz_encI, encI_length, hdOK_encU, hdOK_encL, allSz_encU, allSz_encL, encU_length, encL_length, encD_one, encD_cells, AVone_v, AVone_sl, AVone_agg, AVone_ref, AVone_fn, AVone_ifc, AVcells_v, AVcells_sl, AVcells_agg, AVcells_ref, AVcells_fn, AVcells_ifc, Value.oneCell', allSz]; done) | (simp [hdOK_encI, allSz_encI, encI_length, hdOK_encU, hdOK_encL, allSz_encU, allSz_encL, encU_length, encL_length, encD_one, encD_cells, AVone_v, AVone_sl, AVone_agg, AVone_ref, AVone_fn, AVone_ifc, AVcells_v, AVcells_sl, AVcells_agg, AVcells_ref, AVcells_fn, AVcells_ifc, Value.oneCell', allSz]; omega)) (hb) ?_; refine GC_run2 4000 ?_; dsimp only [go_sem, Nat.reduceBEq, Nat.reduceAdd, Nat.reduceMul, Nat.reduceSub, Int.reduceBEq, Int.reduceBNe, Int.reduceAdd, Int.reduceSub, Int.reduceMul, Int.reduceToNat, Int.reduceNeg])
            (repeat (simp only [d1]; try (dsimp only [go_sem, Nat.reduceBEq, Nat.reduceAdd, Nat.reduceMul, Nat.reduceSub, Int.reduceBEq, Int.reduceBNe, Int.reduceAdd, Int.reduceSub, Int.reduceMul, Int.reduceToNat, Int.reduceNeg])))
            refine GC.finE (by first | rfl | (simp; done) | (simp [hdOK_encI, allSz_encI, encI_length, hdOK_encU, hdOK_encL, allSz_encU, allSz_encL, encU_length, encL_length, encD_one, encD_cells, AVone_v, AVone_sl, AVone_agg, AVone_ref, AVone_fn, AVone_ifc, AVcells_v, AVcells_sl, AVcells_agg, AVcells_ref, AVcells_fn, AVcells_ifc, Value.oneCell', allSz]; done) | (simp [hdOK_encI, allSz_encI, encI_length, hdOK_encU, hdOK_encL, allSz_encU, allSz_encL, encU_length, encL_length, encD_one, encD_cells, AVone_v, AVone_sl, AVone_agg, AVone_ref, AVone_fn, AVone_ifc, AVcells_v, AVcells_sl, AVcells_agg, AVcells_ref, AVcells_fn, AVcells_ifc, Value.oneCell', allSz]; omega)) ?_
            rfl
          · have d1 : decide (((rs.length : Nat) : Int) ≤ 62) = false := by simp; omega
            have d3 : decide ((rc : Int) ≤ 62) = false := by simp; omega
            rw [d3]
            (refine Sound.of_go D_ok D_mix Tryd.func52 rfl (by decide) (by kernel_rfl) (GC.go ?_); refine GC_run2 4000 ?_; dsimp only [Tryd.f52, CD, go_sem, Nat.reduceBEq, Nat.reduceAdd, Nat.reduceMul, Nat.reduceSub, Int.reduceBEq, Int.reduceBNe, Int.reduceAdd, Int.reduceSub, Int.reduceMul, Int.reduceToNat, Int.reduceNeg, encD])
            (refine GC.call (by first | rfl | (simp; done) | (simp [hdOK_encI, allSz_encI, encI_length, hdOK_encU, hdOK_encL, allSz_encU, allSz_encL, encU_length, encL_length, encD_one, encD_cells, AVone_v, AVone_sl, AVone_agg, AVone_ref, AVone_fn, AVone_ifc, AVcells_v, AVcells_sl, AVcells_agg, AVcells_ref, AVcells_fn, AVcells_ifc, Value.oneCell', allSz]; done) | (simp [hdOK_encI, allSz_encI, encI_length, hdOK_encU, hdOK_encL, allSz_encU, allSz_encL, encU_length, encL_length, encD_one, encD_cells, AVone_v, AVone_sl, AVone_agg, AVone_ref, AVone_fn, AVone_ifc, AVcells_v, AVcells_sl, AVcells_agg, AVcells_ref, AVcells_fn, AVcells_ifc, Value.oneCell', allSz]; omega)) (hr) ?_; refine GC_run2 4000 ?_; dsimp only [go_sem, Nat.reduceBEq, Nat.reduceAdd, Nat.reduceMul, Nat.reduceSub, Int.reduceBEq, Int.reduceBNe, Int.reduceAdd, Int.reduceSub, Int.reduceMul, Int.reduceToNat, Int.reduceNeg])
            (refine GC.call (by first | rfl | (simp; done) | (simp [hdOK_encI, allSz_encI, encI_length, hdOK_encU, hdOK_encL, allSz_encU, allSz_encL, encU_length, encL_length, encD_one, encD_cells, AVone_v, AVone_sl, AVone_agg, AVone_ref, AVone_fn, AVone_ifc, AVcells_v, AVcells_sl, AVcells_agg, AVcells_ref, AVcells_fn, AVcells_ifc, Value.oneCell', allSz]; done) | (simp [hdOK_encI, allSz_encI, encI_length, hdOK_encU, hdOK_encL, allSz_encU, allSz_encL, encU_length, encL_length, encD_one, encD_cells, AVone_v, AVone_sl, AVone_agg, AVone_ref, AVone_fn, AVone_ifc, AVcells_v, AVcells_sl, AVcells_agg, AVcells_ref, AVcells_fn, AVcells_ifc, Value.oneCell', allSz]; omega)) (hb) ?_; refine GC_run2 4000 ?_; dsimp only [go_sem, Nat.reduceBEq, Nat.reduceAdd, Nat.reduceMul, Nat.reduceSub, Int.reduceBEq, Int.reduceBNe, Int.reduceAdd, Int.reduceSub, Int.reduceMul, Int.reduceToNat, Int.reduceNeg])
            (repeat (simp only [d1]; try (dsimp only [go_sem, Nat.reduceBEq, Nat.reduceAdd, Nat.reduceMul, Nat.reduceSub, Int.reduceBEq, Int.reduceBNe, Int.reduceAdd, Int.reduceSub, Int.reduceMul, Int.reduceToNat, Int.reduceNeg])))
            refine GC.finE (by first | rfl | (simp; done) | (simp [hdOK_encI, allSz_encI, encI_length, hdOK_encU, hdOK_encL, allSz_encU, allSz_encL, encU_length, encL_length, encD_one, encD_cells, AVone_v, AVone_sl, AVone_agg, AVone_ref, AVone_fn, AVone_ifc, AVcells_v, AVcells_sl, AVcells_agg, AVcells_ref, AVcells_fn, AVcells_ifc, Value.oneCell', allSz]; done) | (simp [hdOK_encI, allSz_encI, encI_length, hdOK_encU, hdOK_encL, allSz_encU, allSz_encL, encU_length, encL_length, encD_one, encD_cells, AVone_v, AVone_sl, AVone_agg, AVone_ref, AVone_fn, AVone_ifc, AVcells_v, AVcells_sl, AVcells_agg, AVcells_ref, AVcells_fn, AVcells_ifc, Value.oneCell', allSz]; omega)) ?_
            simp
    by_cases hk6 : k = 6
    · subst hk6
      have hb := D_rbare4 (W0 := W0) (κ := κ) (GG := GG) (.mk 6 c neg mag t l)
      have e : (decide (0 ≤ (6 : Int)) && (decide ((6 : Int) ≤ 10) && (bareP ((6 : Int) == 3) ((6 : Int) == 4) ((6 : Int) == 5 || (6 : Int) == 6) ((6 : Int) == 7 || (6 : Int) == 8) (.mk 6 c neg mag t l) && restD 6 c neg mag t l))) = (bareP false false true false (.mk 6 c neg mag t l) && restD 6 c neg mag t l) := rfl
      rw [e]
      generalize bareP false false true false (.mk 6 c neg mag t l) = b at *
      clear e
      simp only [encD] at hb
      have hr := D_runes (W0 := W0) (κ := κ) (GG := GG) t ht
      have hrl := runes_len (s := t)
      have e2 : restD 6 c neg mag t l = textOK t 1 := rfl
      rw [e2]
      unfold textOK
      generalize Lib.validD t.data.toList = v at *
      generalize encI .i32 (runeR t (Lib.runeCount t)) = rs at *
      generalize Lib.runeCount t = rc at *
      cases v with
      | false =>
        simp only [Bool.false_eq_true, if_false] at hr
        cases b with
        | false =>
          (refine Sound.of_go D_ok D_mix Tryd.func52 rfl (by decide) (by kernel_rfl) (GC.go ?_); refine GC_run2 4000 ?_; dsimp only [Tryd.f52, CD, go_sem, Nat.reduceBEq, Nat.reduceAdd, Nat.reduceMul, Nat.reduceSub, Int.reduceBEq, Int.reduceBNe, Int.reduceAdd, Int.reduceSub, Int.reduceMul, Int.reduceToNat, Int.reduceNeg, encD])
          (refine GC.call (by first | rfl | (simp; done) | (simp [hdOK_encI, allSz_encI, encI_length, hdOK_encU, hdOK_encL, allSz_encU, allSz_encL, encU_length, encL_length, encD_one, encD_cells, AVone_v, AVone_sl, AVone_agg, AVone_ref, AVone_fn, AVone_ifc, AVcells_v, AVcells_sl, AVcells_agg, AVcells_ref, AVcells_fn, AVcells_ifc, Value.oneCell', allSz]; done) | (simp [hdOK_encI, allSz_encI, encI_length, hdOK_encU, hdOK_encL, allSz_encU, allSz_encL, encU_length, encL_length, encD_one, encD_cells, AVone_v, AVone_sl, AVone_agg, AVone_ref, AVone_fn, AVone_ifc, AVcells_v, AVcells_sl, AVcells_agg, AVcells_ref, AVcells_fn, AVcells_ifc, Value.oneCell', allSz]; omega)) (hr) ?_; refine GC_run2 4000 ?_; dsimp only [go_sem, Nat.reduceBEq, Nat.reduceAdd, Nat.reduceMul, Nat.reduceSub, Int.reduceBEq, Int.reduceBNe, Int.reduceAdd, Int.reduceSub, Int.reduceMul, Int.reduceToNat, Int.reduceNeg])
          (refine GC.call (by first | rfl | (simp; done) | (simp [hdOK_encI, allSz_encI, encI_length, hdOK_encU, hdOK_encL, allSz_encU, allSz_encL, encU_length, encL_length, encD_one, encD_cells, AVone_v, AVone_sl, AVone_agg, AVone_ref, AVone_fn, AVone_ifc, AVcells_v, AVcells_sl, AVcells_agg, AVcells_ref, AVcells_fn, AVcells_ifc, Value.oneCell', allSz]; done) | (simp [hdOK_encI, allSz_encI, encI_length, hdOK_encU, hdOK_encL, allSz_encU, allSz_encL, encU_length, encL_length, encD_one, encD_cells, AVone_v, AVone_sl, AVone_agg, AVone_ref, AVone_fn, AVone_ifc, AVcells_v, AVcells_sl, AVcells_agg, AVcells_ref, AVcells_fn, AVcells_ifc, Value.oneCell', allSz]; omega)) (hb) ?_; refine GC_run2 4000 ?_; dsimp only [go_sem, Nat.reduceBEq, Nat.reduceAdd, Nat.reduceMul, Nat.reduceSub, Int.reduceBEq, Int.reduceBNe, Int.reduceAdd, Int.reduceSub, Int.reduceMul, Int.reduceToNat, Int.reduceNeg])
          refine GC.finE (by first | rfl | (simp; done) | (simp [hdOK_encI, allSz_encI, encI_length, hdOK_encU, hdOK_encL, allSz_encU, allSz_encL, encU_length, encL_length, encD_one, encD_cells, AVone_v, AVone_sl, AVone_agg, AVone_ref, AVone_fn, AVone_ifc, AVcells_v, AVcells_sl, AVcells_agg, AVcells_ref, AVcells_fn, AVcells_ifc, Value.oneCell', allSz]; done) | (simp [hdOK_encI, allSz_encI, encI_length, hdOK_encU, hdOK_encL, allSz_encU, allSz_encL, encU_length, encL_length, encD_one, encD_cells, AVone_v, AVone_sl, AVone_agg, AVone_ref, AVone_fn, AVone_ifc, AVcells_v, AVcells_sl, AVcells_agg, AVcells_ref, AVcells_fn, AVcells_ifc, Value.oneCell', allSz]; omega)) ?_
          rfl
        | true =>
          (refine Sound.of_go D_ok D_mix Tryd.func52 rfl (by decide) (by kernel_rfl) (GC.go ?_); refine GC_run2 4000 ?_; dsimp only [Tryd.f52, CD, go_sem, Nat.reduceBEq, Nat.reduceAdd, Nat.reduceMul, Nat.reduceSub, Int.reduceBEq, Int.reduceBNe, Int.reduceAdd, Int.reduceSub, Int.reduceMul, Int.reduceToNat, Int.reduceNeg, encD])
          (refine GC.call (by first | rfl | (simp; done) | (simp [hdOK_encI, allSz_encI, encI_length, hdOK_encU, hdOK_encL, allSz_encU, allSz_encL, encU_length, encL_length, encD_one, encD_cells, AVone_v, AVone_sl, AVone_agg, AVone_ref, AVone_fn, AVone_ifc, AVcells_v, AVcells_sl, AVcells_agg, AVcells_ref, AVcells_fn, AVcells_ifc, Value.oneCell', allSz]; done) | (simp [hdOK_encI, allSz_encI, encI_length, hdOK_encU, hdOK_encL, allSz_encU, allSz_encL, encU_length, encL_length, encD_one, encD_cells, AVone_v, AVone_sl, AVone_agg, AVone_ref, AVone_fn, AVone_ifc, AVcells_v, AVcells_sl, AVcells_agg, AVcells_ref, AVcells_fn, AVcells_ifc, Value.oneCell', allSz]; omega)) (hr) ?_; refine GC_run2 4000 ?_; dsimp only [go_sem, Nat.reduceBEq, Nat.reduceAdd, Nat.reduceMul, Nat.reduceSub, Int.reduceBEq, Int.reduceBNe, Int.reduceAdd, Int.reduceSub, Int.reduceMul, Int.reduceToNat, Int.reduceNeg])
          (refine GC.call (by first | rfl | (simp; done) | (simp [hdOK_encI, allSz_encI, encI_length, hdOK_encU, hdOK_encL, allSz_encU, allSz_encL, encU_length, encL_length, encD_one, encD_cells, AVone_v, AVone_sl, AVone_agg, AVone_ref, AVone_fn, AVone_ifc, AVcells_v, AVcells_sl, AVcells_agg, AVcells_ref, AVcells_fn, AVcells_ifc, Value.oneCell', allSz]; done) | (simp [hdOK_encI, allSz_encI, encI_length, hdOK_encU, hdOK_encL, allSz_encU, allSz_encL, encU_length, encL_length, encD_one, encD_cells, AVone_v, AVone_sl, AVone_agg, AVone_ref, AVone_fn, AVone_ifc, AVcells_v, AVcells_sl, AVcells_agg, AVcells_ref, AVcells_fn, AVcells_ifc, Value.oneCell', allSz]; omega)) (hb) ?_; refine GC_run2 4000 ?_; dsimp only [go_sem, Nat.reduceBEq, Nat.reduceAdd, Nat.reduceMul, Nat.reduceSub, Int.reduceBEq, Int.reduceBNe, Int.reduceAdd, Int.reduceSub, Int.reduceMul, Int.reduceToNat, Int.reduceNeg])
          refine GC.finE (by first | rfl | (simp; done) | (simp [hdOK_encI, allSz_encI, encI_length, hdOK_encU, hdOK_encL, allSz_encU, allSz_encL, encU_length, encL_length, encD_one, encD_cells, AVone_v, AVone_sl, AVone_agg, AVone_ref, AVone_fn, AVone_ifc, AVcells_v, AVcells_sl, AVcells_agg, AVcells_ref, AVcells_fn, AVcells_ifc, Value.oneCell', allSz]; done) | (simp [hdOK_encI, allSz_encI, encI_length, hdOK_encU, hdOK_encL, allSz_encU, allSz_encL, encU_length, encL_length, encD_one, encD_cells, AVone_v, AVone_sl, AVone_agg, AVone_ref, AVone_fn, AVone_ifc, AVcells_v, AVcells_sl, AVcells_agg, AVcells_ref, AVcells_fn, AVcells_ifc, Value.oneCell', allSz]; omega)) ?_
          rfl
      | true =>
        simp only [if_true] at hr
        have hrl := hrl rfl
        cases b with
        | false =>
          (refine Sound.of_go D_ok D_mix Tryd.func52 rfl (by decide) (by kernel_rfl) (GC.go ?_); refine GC_run2 4000 ?_; dsimp only [Tryd.f52, CD, go_sem, Nat.reduceBEq, Nat.reduceAdd, Nat.reduceMul, Nat.reduceSub, Int.reduceBEq, Int.reduceBNe, Int.reduceAdd, Int.reduceSub, Int.reduceMul, Int.reduceToNat, Int.reduceNeg, encD])
          (refine GC.call (by first | rfl | (simp; done) | (simp [hdOK_encI, allSz_encI, encI_length, hdOK_encU, hdOK_encL, allSz_encU, allSz_encL, encU_length, encL_length, encD_one, encD_cells, AVone_v, AVone_sl, AVone_agg, AVone_ref, AVone_fn, AVone_ifc, AVcells_v, AVcells_sl, AVcells_agg, AVcells_ref, AVcells_fn, AVcells_ifc, Value.oneCell', allSz]; done) | (simp [hdOK_encI, allSz_encI, encI_length, hdOK_encU, hdOK_encL, allSz_encU, allSz_encL, encU_length, encL_length, encD_one, encD_cells, AVone_v, AVone_sl, AVone_agg, AVone_ref, AVone_fn, AVone_ifc, AVcells_v, AVcells_sl, AVcells_agg, AVcells_ref, AVcells_fn, AVcells_ifc, Value.oneCell', allSz]; omega)) (hr) ?_; refine GC_run2 4000 ?_; dsimp only [go_sem, Nat.reduceBEq, Nat.reduceAdd, Nat.reduceMul, Nat.reduceSub, Int.reduceBEq, Int.reduceBNe, Int.reduceAdd, Int.reduceSub, Int.reduceMul, Int.reduceToNat, Int.reduceNeg])
          (refine GC.call (by first | rfl | (simp; done) | (simp [hdOK_encI, allSz_encI, encI_length, hdOK_encU, hdOK_encL, allSz_encU, allSz_encL, encU_length, encL_length, encD_one, encD_cells, AVone_v, AVone_sl, AVone_agg, AVone_ref, AVone_fn, AVone_ifc, AVcells_v, AVcells_sl, AVcells_agg, AVcells_ref, AVcells_fn, AVcells_ifc, Value.oneCell', allSz]; done) | (simp [hdOK_encI, allSz_encI, encI_length, hdOK_encU, hdOK_encL, allSz_encU, allSz_encL, encU_length, encL_length, encD_one, encD_cells, AVone_v, AVone_sl, AVone_agg, AVone_ref, AVone_fn, AVone_ifc, AVcells_v, AVcells_sl, AVcells_agg, AVcells_ref, AVcells_fn, AVcells_ifc, Value.oneCell', allSz]; omega)) (hb) ?_; refine GC_run2 4000 ?_; dsimp only [go_sem, Nat.reduceBEq, Nat.reduceAdd, Nat.reduceMul, Nat.reduceSub, Int.reduceBEq, Int.reduceBNe, Int.reduceAdd, Int.reduceSub, Int.reduceMul, Int.reduceToNat, Int.reduceNeg])
          refine GC.finE (by first | rfl | (simp; done) | (simp [hdOK_encI, allSz_encI, encI_length, hdOK_encU, hdOK_encL, allSz_encU, allSz_encL, encU_length, encL_length, encD_one, encD_cells, AVone_v, AVone_sl, AVone_agg, AVone_ref, AVone_fn, AVone_ifc, AVcells_v, AVcells_sl, AVcells_agg, AVcells_ref, AVcells_fn, AVcells_ifc, Value.oneCell', allSz]; done) | (simp [hdOK_encI, allSz_encI, encI_length, hdOK_encU, hdOK_encL, allSz_encU, allSz_encL, encU_length, encL_length, encD_one, encD_cells, AVone_v, AVone_sl, AVone_agg, AVone_ref, AVone_fn, AVone_ifc, AVcells_v, AVcells_sl, AVcells_agg, AVcells_ref, AVcells_fn, AVcells_ifc, Value.oneCell', allSz]; omega)) ?_
          rfl
        | true =>
          by_cases h62 : rc ≤ 62
          · have d1 : decide (((rs.length : Nat) : Int) ≤ 62) = true := by simp; omega
            have d3 : decide ((rc : Int) ≤ 62) = true := by simp; omega
            rw [d3]
            have d4 : decide (((rs.length : Nat) : Int) > 0) = decide ((1 : Int) ≤ (rc : Int)) := by rw [decide_eq_decide]; omega
            (refine Sound.of_go D_ok D_mix Tryd.func52 rfl (by decide) (by kernel_rfl) (GC.go ?_); refine GC_run2 4000 ?_; dsimp only [Tryd.f52, CD, go_sem, Nat.reduceBEq, Nat.reduceAdd, Nat.reduceMul, Nat.reduceSub, Int.reduceBEq, Int.reduceBNe, Int.reduceAdd, Int.reduceSub, Int.reduceMul, Int.reduceToNat, Int.reduceNeg, encD])
            (refine GC.call (by first | rfl | (simp; done) | (simp [hdOK_encI, allSz_encI, encI_length, hdOK_encU, hdOK_encL, allSz_encU, allSz_encL, encU_length, encL_length, encD_one, encD_cells, AVone_v, AVone_sl, AVone_agg, AVone_ref, AVone_fn, AVone_ifc, AVcells_v, AVcells_sl, AVcells_agg, AVcells_ref, AVcells_fn, AVcells_ifc, Value.oneCell', allSz]; done) | (simp [hdOK_encI, allSz_encI, encI_length, hdOK_encU, hdOK_encL, allSz_encU, allSz_encL, encU_length, encL_length, encD_one, encD_cells, AVone_v, AVone_sl, AVone_agg, AVone_ref, AVone_fn, AVone_ifc, AVcells_v, AVcells_sl, AVcells_agg, AVcells_ref, AVcells_fn, AVcells_ifc, Value.oneCell', allSz]; omega)) (hr) ?_; refine GC_run2 4000 ?_; dsimp only [go_sem, Nat.reduceBEq, Nat.reduceAdd, Nat.reduceMul, Nat.reduceSub, Int.reduceBEq, Int.reduceBNe, Int.reduceAdd, Int.reduceSub, Int.reduceMul, Int.reduceToNat, Int.reduceNeg])
            (refine GC.call (by first | rfl | (simp; done) | (simp [hdOK_encI, allSz_encI, encI_length, hdOK_encU, hdOK_encL, allSz_encU, allSz_encL, encU_length, encL_length, encD_one, encD_cells, AVone_v, AVone_sl, AVone_agg, AVone_ref, AVone_fn, AVone_ifc, AVcells_v, AVcells_sl, AVcells_agg, AVcells_ref, AVcells_fn, AVcells_ifc, Value.oneCell', allSz]; done) | (simp [hdOK_encI, allSz_encI, encI_length, hdOK_encU, hdOK_encL, allSz_encU, allSz_encL, encU_length, encL_length, encD_one, encD_cells, AVone_v, AVone_sl, AVone_agg, AVone_ref, AVone_fn, AVone_ifc, AVcells_v, AVcells_sl, AVcells_agg, AVcells_ref, AVcells_fn, AVcells_ifc, Value.oneCell', allSz]; omega)) (hb) ?_; refine GC_run2 4000 ?_; dsimp only [go_sem, Nat.reduceBEq, Nat.reduceAdd, Nat.reduceMul, Nat.reduceSub, Int.reduceBEq, Int.reduceBNe, Int.reduceAdd, Int.reduceSub, Int.reduceMul, Int.reduceToNat, Int.reduceNeg])
            (repeat (simp only [d1]; try (dsimp only [go_sem, Nat.reduceBEq, Nat.reduceAdd, Nat.reduceMul, Nat.reduceSub, Int.reduceBEq, Int.reduceBNe, Int.reduceAdd, Int.reduceSub, Int.reduceMul, Int.reduceToNat, Int.reduceNeg])))
            refine GC.finE (by first | rfl | (simp; done) | (simp [hdOK_encI, allSz_encI, encI_length, hdOK_encU, hdOK_encL, allSz_encU, allSz_encL, encU_length, encL_length, encD_one, encD_cells, AVone_v, AVone_sl, AVone_agg, AVone_ref, AVone_fn, AVone_ifc, AVcells_v, AVcells_sl, AVcells_agg, AVcells_ref, AVcells_fn, AVcells_ifc, Value.oneCell', allSz]; done) | (simp [hdOK_encI, allSz_encI, encI_length, hdOK_encU, hdOK_encL, allSz_encU, allSz_encL, encU_length, encL_length, encD_one, encD_cells, AVone_v, AVone_sl, AVone_agg, AVone_ref, AVone_fn, AVone_ifc, AVcells_v, AVcells_sl, AVcells_agg, AVcells_ref, AVcells_fn, AVcells_ifc, Value.oneCell', allSz]; omega)) ?_
            simp
            omega
          · have d1 : decide (((rs.length : Nat) : Int) ≤ 62) = false := by simp; omega
            have d3 : decide ((rc : Int) ≤ 62) = false := by simp; omega
            rw [d3]
            (refine Sound.of_go D_ok D_mix Tryd.func52 rfl (by decide) (by kernel_rfl) (GC.go ?_); refine GC_run2 4000 ?_; dsimp only [Tryd.f52, CD, go_sem, Nat.reduceBEq, Nat.reduceAdd, Nat.reduceMul, Nat.reduceSub, Int.reduceBEq, Int.reduceBNe, Int.reduceAdd, Int.reduceSub, Int.reduceMul, Int.reduceToNat, Int.reduceNeg, encD])
            (refine GC.call (by first | rfl | (simp; done) | (simp [hdOK_encI, allSz_encI, encI_length, hdOK_encU, hdOK_encL, allSz_encU, allSz_encL, encU_length, encL_length, encD_one, encD_cells, AVone_v, AVone_sl, AVone_agg, AVone_ref, AVone_fn, AVone_ifc, AVcells_v, AVcells_sl, AVcells_agg, AVcells_ref, AVcells_fn, AVcells_ifc, Value.oneCell', allSz]; done) | (simp [hdOK_encI, allSz_encI, encI_length, hdOK_encU, hdOK_encL, allSz_encU, allSz_encL, encU_length, encL_length, encD_one, encD_cells, AVone_v, AVone_sl, AVone_agg, AVone_ref, AVone_fn, AVone_ifc, AVcells_v, AVcells_sl, AVcells_agg, AVcells_ref, AVcells_fn, AVcells_ifc, Value.oneCell', allSz]; omega)) (hr) ?_; refine GC_run2 4000 ?_; dsimp only [go_sem, Nat.reduceBEq, Nat.reduceAdd, Nat.reduceMul, Nat.reduceSub, Int.reduceBEq, Int.reduceBNe, Int.reduceAdd, Int.reduceSub, Int.reduceMul, Int.reduceToNat, Int.reduceNeg])
            (refine GC.call (by first | rfl | (simp; done) | (simp [hdOK_encI, allSz_encI, encI_length, hdOK_encU, hdOK_encL, allSz_encU, allSz_encL, encU_length, encL_length, encD_one, encD_cells, AVone_v, AVone_sl, AVone_agg, AVone_ref, AVone_fn, AVone_ifc, AVcells_v, AVcells_sl, AVcells_agg, AVcells_ref, AVcells_fn, AVcells_ifc, Value.oneCell', allSz]; done) | (simp [hdOK_encI, allSz_encI, encI_length, hdOK_encU, hdOK_encL, allSz_encU, allSz_encL, encU_length, encL_length, encD_one, encD_cells, AVone_v, AVone_sl, AVone_agg, AVone_ref, AVone_fn, AVone_ifc, AVcells_v, AVcells_sl, AVcells_agg, AVcells_ref, AVcells_fn, AVcells_ifc, Value.oneCell', allSz]; omega)) (hb) ?_; refine GC_run2 4000 ?_; dsimp only [go_sem, Nat.reduceBEq, Nat.reduceAdd, Nat.reduceMul, Nat.reduceSub, Int.reduceBEq, Int.reduceBNe, Int.reduceAdd, Int.reduceSub, Int.reduceMul, Int.reduceToNat, Int.reduceNeg])
            (repeat (simp only [d1]; try (dsimp only [go_sem, Nat.reduceBEq, Nat.reduceAdd, Nat.reduceMul, Nat.reduceSub, Int.reduceBEq, Int.reduceBNe, Int.reduceAdd, Int.reduceSub, Int.reduceMul, Int.reduceToNat, Int.reduceNeg])))
            refine GC.finE (by first | rfl | (simp; done) | (simp [hdOK_encI, allSz_encI, encI_length, hdOK_encU, hdOK_encL, allSz_encU, allSz_encL, encU_length, encL_length, encD_one, encD_cells, AVone_v, AVone_sl, AVone_agg, AVone_ref, AVone_fn, AVone_ifc, AVcells_v, AVcells_sl, AVcells_agg, AVcells_ref, AVcells_fn, AVcells_ifc, Value.oneCell', allSz]; done) | (simp [hdOK_encI, allSz_encI, encI_length, hdOK_encU, hdOK_encL, allSz_encU, allSz_encL, encU_length, encL_length, encD_one, encD_cells, AVone_v, AVone_sl, AVone_agg, AVone_ref, AVone_fn, AVone_ifc, AVcells_v, AVcells_sl, AVcells_agg, AVcells_ref, AVcells_fn, AVcells_ifc, Value.oneCell', allSz]; omega)) ?_
            simp
    by_cases hk7 : k = 7
    · subst hk7
      have hb := D_rbare8 (W0 := W0) (κ := κ) (GG := GG) (.mk 7 c neg mag t l)
      have e : (decide (0 ≤ (7 : Int)) && (decide ((7 : Int) ≤ 10) && (bareP ((7 : Int) == 3) ((7 : Int) == 4) ((7 : Int) == 5 || (7 : Int) == 6) ((7 : Int) == 7 || (7 : Int) == 8) (.mk 7 c neg mag t l) && restD 7 c neg mag t l))) = (bareP false false false true (.mk 7 c neg mag t l) && restD 7 c neg mag t l) := rfl
      rw [e]
      generalize bareP false false false true (.mk 7 c neg mag t l) = b at *
      clear e
      simp only [encD] at hb
      have e2 : restD 7 c neg mag t l = (decide (l.length = 2) && plainL l) := rfl
      rw [e2]
      cases b with
      | false =>
        (refine Sound.of_go D_ok D_mix Tryd.func52 rfl (by decide) (by kernel_rfl) (GC.go ?_); refine GC_run2 4000 ?_; dsimp only [Tryd.f52, CD, go_sem, Nat.reduceBEq, Nat.reduceAdd, Nat.reduceMul, Nat.reduceSub, Int.reduceBEq, Int.reduceBNe, Int.reduceAdd, Int.reduceSub, Int.reduceMul, Int.reduceToNat, Int.reduceNeg, encD])
        (refine GC.call (by first | rfl | (simp; done) | (simp [hdOK_encI, allSz_encI, encI_length, hdOK_encU, hdOK_encL, allSz_encU, allSz_encL, encU_length, encL_length, encD_one, encD_cells, AVone_v, AVone_sl, AVone_agg, AVone_ref, AVone_fn, AVone_ifc, AVcells_v, AVcells_sl, AVcells_agg, AVcells_ref, AVcells_fn, AVcells_ifc, Value.oneCell', allSz]; done) | (simp [hdOK_encI, allSz_encI, encI_length, hdOK_encU, hdOK_encL, allSz_encU, allSz_encL, encU_length, encL_length, encD_one, encD_cells, AVone_v, AVone_sl, AVone_agg, AVone_ref, AVone_fn, AVone_ifc, AVcells_v, AVcells_sl, AVcells_agg, AVcells_ref, AVcells_fn, AVcells_ifc, Value.oneCell', allSz]; omega)) (hb) ?_; refine GC_run2 4000 ?_; dsimp only [go_sem, Nat.reduceBEq, Nat.reduceAdd, Nat.reduceMul, Nat.reduceSub, Int.reduceBEq, Int.reduceBNe, Int.reduceAdd, Int.reduceSub, Int.reduceMul, Int.reduceToNat, Int.reduceNeg])
        refine GC.finE (by first | rfl | (simp; done) | (simp [hdOK_encI, allSz_encI, encI_length, hdOK_encU, hdOK_encL, allSz_encU, allSz_encL, encU_length, encL_length, encD_one, encD_cells, AVone_v, AVone_sl, AVone_agg, AVone_ref, AVone_fn, AVone_ifc, AVcells_v, AVcells_sl, AVcells_agg, AVcells_ref, AVcells_fn, AVcells_ifc, Value.oneCell', allSz]; done) | (simp [hdOK_encI, allSz_encI, encI_length, hdOK_encU, hdOK_encL, allSz_encU, allSz_encL, encU_length, encL_length, encD_one, encD_cells, AVone_v, AVone_sl, AVone_agg, AVone_ref, AVone_fn, AVone_ifc, AVcells_v, AVcells_sl, AVcells_agg, AVcells_ref, AVcells_fn, AVcells_ifc, Value.oneCell', allSz]; omega)) ?_
        rfl
      | true =>
        by_cases hl2 : l.length = 2
        · have d1 : (((encL l).length : Int) != 2) = false := by rw [hll, hl2]; rfl
          have d2 : decide (((encL l).length : Int) > 62) = false := by rw [hll, hl2]; rfl
          have d3 : decide (l.length = 2) = true := by simp [hl2]
          rw [d3]
          (refine Sound.of_go D_ok D_mix Tryd.func52 rfl (by decide) (by kernel_rfl) (GC.go ?_); refine GC_run2 4000 ?_; dsimp only [Tryd.f52, CD, go_sem, Nat.reduceBEq, Nat.reduceAdd, Nat.reduceMul, Nat.reduceSub, Int.reduceBEq, Int.reduceBNe, Int.reduceAdd, Int.reduceSub, Int.reduceMul, Int.reduceToNat, Int.reduceNeg, encD])
          (refine GC.call (by first | rfl | (simp; done) | (simp [hdOK_encI, allSz_encI, encI_length, hdOK_encU, hdOK_encL, allSz_encU, allSz_encL, encU_length, encL_length, encD_one, encD_cells, AVone_v, AVone_sl, AVone_agg, AVone_ref, AVone_fn, AVone_ifc, AVcells_v, AVcells_sl, AVcells_agg, AVcells_ref, AVcells_fn, AVcells_ifc, Value.oneCell', allSz]; done) | (simp [hdOK_encI, allSz_encI, encI_length, hdOK_encU, hdOK_encL, allSz_encU, allSz_encL, encU_length, encL_length, encD_one, encD_cells, AVone_v, AVone_sl, AVone_agg, AVone_ref, AVone_fn, AVone_ifc, AVcells_v, AVcells_sl, AVcells_agg, AVcells_ref, AVcells_fn, AVcells_ifc, Value.oneCell', allSz]; omega)) (hb) ?_; refine GC_run2 4000 ?_; dsimp only [go_sem, Nat.reduceBEq, Nat.reduceAdd, Nat.reduceMul, Nat.reduceSub, Int.reduceBEq, Int.reduceBNe, Int.reduceAdd, Int.reduceSub, Int.reduceMul, Int.reduceToNat, Int.reduceNeg])
          (repeat (simp only [d1, d2]; try (dsimp only [go_sem, Nat.reduceBEq, Nat.reduceAdd, Nat.reduceMul, Nat.reduceSub, Int.reduceBEq, Int.reduceBNe, Int.reduceAdd, Int.reduceSub, Int.reduceMul, Int.reduceToNat, Int.reduceNeg])))
          refine GC.loopR (by first | (simp [hdOK_encU, hdOK_encL, allSz_encU, allSz_encL, encU_length, encL_length, encD_one, encD_cells, AVone_v, AVone_sl, AVone_agg, AVone_ref, AVone_fn, AVone_ifc, AVcells_v, AVcells_sl, AVcells_agg, AVcells_ref, AVcells_fn, AVcells_ifc, Value.oneCell', allSz, allSz_encI, encI_length, hdOK_encI, hll]; done) | (simp [hdOK_encU, hdOK_encL, allSz_encU, allSz_encL, encU_length, encL_length, encD_one, encD_cells, AVone_v, AVone_sl, AVone_agg, AVone_ref, AVone_fn, AVone_ifc, AVcells_v, AVcells_sl, AVcells_agg, AVcells_ref, AVcells_fn, AVcells_ifc, Value.oneCell', allSz, allSz_encI, encI_length, hdOK_encI, hll]; omega)) l.length [1] (fun j => [(5, .av (.v (.int .i64 j)))]) (fun j => []) (fun j => plainL (l.take j) = true) ⟨rfl, trivial⟩ trivial rfl (fun j hj hI => ?_)
          rcases Nat.lt_or_ge j l.length with hlt | hge
          · have hd := dec_lt (show j < (encL l).length by omega)
            have hx : (encL l).getD j dflt = _ := encL_get hlt
            have hmem : l[j] ∈ l := List.getElem_mem hlt
            have hc := cntL_get hmem
            have hs := D_rplain n l[j] (by omega) (hf.sub hmem) (hw.sub hmem)
            have htk : l.take (j + 1) = l.take j ++ [l[j]] := List.take_succ_eq_append_getElem hlt
            have hst : plainL (l.take (j + 1)) = plainD l[j] := by rw [htk, plainL_all, List.all_append, ← plainL_all, hI]; simp
            have hbadl : plainD l[j] = false → plainL l = false := fun h => by
              rw [plainL_all]
              refine Bool.eq_false_iff.2 fun e => ?_
              rw [List.all_eq_true.1 e _ hmem] at h
              cases h
            generalize plainD l[j] = px at *
            generalize l[j] = x at *
            obtain ⟨xk, xc, xneg, xmag, xt, xl⟩ := x
            simp only [encD] at hx hs
            cases px with
            | false =>
              (refine GC_run2 4000 ?_; dsimp only [go_sem, Nat.reduceBEq, Nat.reduceAdd, Nat.reduceMul, Nat.reduceSub, Int.reduceBEq, Int.reduceBNe, Int.reduceAdd, Int.reduceSub, Int.reduceMul, Int.reduceToNat, Int.reduceNeg])
              (repeat (simp only [hd, hx]; try (dsimp only [go_sem, Nat.reduceBEq, Nat.reduceAdd, Nat.reduceMul, Nat.reduceSub, Int.reduceBEq, Int.reduceBNe, Int.reduceAdd, Int.reduceSub, Int.reduceMul, Int.reduceToNat, Int.reduceNeg])))
              (refine GC.call (by first | rfl | (simp; done) | (simp [hdOK_encI, allSz_encI, encI_length, hdOK_encU, hdOK_encL, allSz_encU, allSz_encL, encU_length, encL_length, encD_one, encD_cells, AVone_v, AVone_sl, AVone_agg, AVone_ref, AVone_fn, AVone_ifc, AVcells_v, AVcells_sl, AVcells_agg, AVcells_ref, AVcells_fn, AVcells_ifc, Value.oneCell', allSz]; done) | (simp [hdOK_encI, allSz_encI, encI_length, hdOK_encU, hdOK_encL, allSz_encU, allSz_encL, encU_length, encL_length, encD_one, encD_cells, AVone_v, AVone_sl, AVone_agg, AVone_ref, AVone_fn, AVone_ifc, AVcells_v, AVcells_sl, AVcells_agg, AVcells_ref, AVcells_fn, AVcells_ifc, Value.oneCell', allSz]; omega)) (hs) ?_; refine GC_run2 4000 ?_; dsimp only [go_sem, Nat.reduceBEq, Nat.reduceAdd, Nat.reduceMul, Nat.reduceSub, Int.reduceBEq, Int.reduceBNe, Int.reduceAdd, Int.reduceSub, Int.reduceMul, Int.reduceToNat, Int.reduceNeg])
              refine GC.finE (by first | rfl | (simp; done) | (simp [hdOK_encI, allSz_encI, encI_length, hdOK_encU, hdOK_encL, allSz_encU, allSz_encL, encU_length, encL_length, encD_one, encD_cells, AVone_v, AVone_sl, AVone_agg, AVone_ref, AVone_fn, AVone_ifc, AVcells_v, AVcells_sl, AVcells_agg, AVcells_ref, AVcells_fn, AVcells_ifc, Value.oneCell', allSz]; done) | (simp [hdOK_encI, allSz_encI, encI_length, hdOK_encU, hdOK_encL, allSz_encU, allSz_encL, encU_length, encL_length, encD_one, encD_cells, AVone_v, AVone_sl, AVone_agg, AVone_ref, AVone_fn, AVone_ifc, AVcells_v, AVcells_sl, AVcells_agg, AVcells_ref, AVcells_fn, AVcells_ifc, Value.oneCell', allSz]; omega)) ?_
              (rw [hbadl rfl]; try simp)
            | true =>
              (refine GC_run2 4000 ?_; dsimp only [go_sem, Nat.reduceBEq, Nat.reduceAdd, Nat.reduceMul, Nat.reduceSub, Int.reduceBEq, Int.reduceBNe, Int.reduceAdd, Int.reduceSub, Int.reduceMul, Int.reduceToNat, Int.reduceNeg])
              (repeat (simp only [hd, hx]; try (dsimp only [go_sem, Nat.reduceBEq, Nat.reduceAdd, Nat.reduceMul, Nat.reduceSub, Int.reduceBEq, Int.reduceBNe, Int.reduceAdd, Int.reduceSub, Int.reduceMul, Int.reduceToNat, Int.reduceNeg])))
              (refine GC.call (by first | rfl | (simp; done) | (simp [hdOK_encI, allSz_encI, encI_length, hdOK_encU, hdOK_encL, allSz_encU, allSz_encL, encU_length, encL_length, encD_one, encD_cells, AVone_v, AVone_sl, AVone_agg, AVone_ref, AVone_fn, AVone_ifc, AVcells_v, AVcells_sl, AVcells_agg, AVcells_ref, AVcells_fn, AVcells_ifc, Value.oneCell', allSz]; done) | (simp [hdOK_encI, allSz_encI, encI_length, hdOK_encU, hdOK_encL, allSz_encU, allSz_encL, encU_length, encL_length, encD_one, encD_cells, AVone_v, AVone_sl, AVone_agg, AVone_ref, AVone_fn, AVone_ifc, AVcells_v, AVcells_sl, AVcells_agg, AVcells_ref, AVcells_fn, AVcells_ifc, Value.oneCell', allSz]; omega)) (hs) ?_; refine GC_run2 4000 ?_; dsimp only [go_sem, Nat.reduceBEq, Nat.reduceAdd, Nat.reduceMul, Nat.reduceSub, Int.reduceBEq, Int.reduceBNe, Int.reduceAdd, Int.reduceSub, Int.reduceMul, Int.reduceToNat, Int.reduceNeg])
              (refine GC.backR ((by first | (simp [hdOK_encU, hdOK_encL, allSz_encU, allSz_encL, encU_length, encL_length, encD_one, encD_cells, AVone_v, AVone_sl, AVone_agg, AVone_ref, AVone_fn, AVone_ifc, AVcells_v, AVcells_sl, AVcells_agg, AVcells_ref, AVcells_fn, AVcells_ifc, Value.oneCell', allSz, allSz_encI, encI_length, hdOK_encI, hll]; done) | (simp [hdOK_encU, hdOK_encL, allSz_encU, allSz_encL, encU_length, encL_length, encD_one, encD_cells, AVone_v, AVone_sl, AVone_agg, AVone_ref, AVone_fn, AVone_ifc, AVcells_v, AVcells_sl, AVcells_agg, AVcells_ref, AVcells_fn, AVcells_ifc, Value.oneCell', allSz, allSz_encI, encI_length, hdOK_encI, hll]; omega))) (by omega) (hst) ?_ ?_ <;> (repeat' (first | exact trivial | refine And.intro ?_ ?_)) <;> (try (dsimp only [go_sem, Nat.reduceBEq, Nat.reduceAdd, Nat.reduceMul, Nat.reduceSub, Int.reduceBEq, Int.reduceBNe, Int.reduceAdd, Int.reduceSub, Int.reduceMul, Int.reduceToNat, Int.reduceNeg])))
              exact congrArg (fun n => some (TV.av (.v (.int .i64 n)))) (wrap_nat j (by omega))
          · have : j = l.length := by omega
            subst this
            have hd := dec_ge (show (encL l).length ≤ l.length by omega)
            rw [List.take_length] at hI
            (refine GC_run2 4000 ?_; dsimp only [go_sem, Nat.reduceBEq, Nat.reduceAdd, Nat.reduceMul, Nat.reduceSub, Int.reduceBEq, Int.reduceBNe, Int.reduceAdd, Int.reduceSub, Int.reduceMul, Int.reduceToNat, Int.reduceNeg])
            (repeat (simp only [hd]; try (dsimp only [go_sem, Nat.reduceBEq, Nat.reduceAdd, Nat.reduceMul, Nat.reduceSub, Int.reduceBEq, Int.reduceBNe, Int.reduceAdd, Int.reduceSub, Int.reduceMul, Int.reduceToNat, Int.reduceNeg])))
            refine GC.finE (by first | rfl | (simp; done) | (simp [hdOK_encI, allSz_encI, encI_length, hdOK_encU, hdOK_encL, allSz_encU, allSz_encL, encU_length, encL_length, encD_one, encD_cells, AVone_v, AVone_sl, AVone_agg, AVone_ref, AVone_fn, AVone_ifc, AVcells_v, AVcells_sl, AVcells_agg, AVcells_ref, AVcells_fn, AVcells_ifc, Value.oneCell', allSz]; done) | (simp [hdOK_encI, allSz_encI, encI_length, hdOK_encU, hdOK_encL, allSz_encU, allSz_encL, encU_length, encL_length, encD_one, encD_cells, AVone_v, AVone_sl, AVone_agg, AVone_ref, AVone_fn, AVone_ifc, AVcells_v, AVcells_sl, AVcells_agg, AVcells_ref, AVcells_fn, AVcells_ifc, Value.oneCell', allSz]; omega)) ?_
            (rw [hI]; try rfl)
        · have d1 : (((encL l).length : Int) != 2) = true := by rw [hll]; simp; omega
          have d3 : decide (l.length = 2) = false := by simp [hl2]
          rw [d3]
          (refine Sound.of_go D_ok D_mix Tryd.func52 rfl (by decide) (by kernel_rfl) (GC.go ?_); refine GC_run2 4000 ?_; dsimp only [Tryd.f52, CD, go_sem, Nat.reduceBEq, Nat.reduceAdd, Nat.reduceMul, Nat.reduceSub, Int.reduceBEq, Int.reduceBNe, Int.reduceAdd, Int.reduceSub, Int.reduceMul, Int.reduceToNat, Int.reduceNeg, encD])
          (refine GC.call (by first | rfl | (simp; done) | (simp [hdOK_encI, allSz_encI, encI_length, hdOK_encU, hdOK_encL, allSz_encU, allSz_encL, encU_length, encL_length, encD_one, encD_cells, AVone_v, AVone_sl, AVone_agg, AVone_ref, AVone_fn, AVone_ifc, AVcells_v, AVcells_sl, AVcells_agg, AVcells_ref, AVcells_fn, AVcells_ifc, Value.oneCell', allSz]; done) | (simp [hdOK_encI, allSz_encI, encI_length, hdOK_encU, hdOK_encL, allSz_encU, allSz_encL, encU_length, encL_length, encD_one, encD_cells, AVone_v, AVone_sl, AVone_agg, AVone_ref, AVone_fn, AVone_ifc, AVcells_v, AVcells_sl, AVcells_agg, AVcells_ref, AVcells_fn, AVcells_ifc, Value.oneCell', allSz]; omega)) (hb) ?_; refine GC_run2 4000 ?_; dsimp only [go_sem, Nat.reduceBEq, Nat.reduceAdd, Nat.reduceMul, Nat.reduceSub, Int.reduceBEq, Int.reduceBNe, Int.reduceAdd, Int.reduceSub, Int.reduceMul, Int.reduceToNat, Int.reduceNeg])
          (repeat (simp only [d1]; try (dsimp only [go_sem, Nat.reduceBEq, Nat.reduceAdd, Nat.reduceMul, Nat.reduceSub, Int.reduceBEq, Int.reduceBNe, Int.reduceAdd, Int.reduceSub, Int.reduceMul, Int.reduceToNat, Int.reduceNeg])))
          refine GC.finE (by first | rfl | (simp; done) | (simp [hdOK_encI, allSz_encI, encI_length, hdOK_encU, hdOK_encL, allSz_encU, allSz_encL, encU_length, encL_length, encD_one, encD_cells, AVone_v, AVone_sl, AVone_agg, AVone_ref, AVone_fn, AVone_ifc, AVcells_v, AVcells_sl, AVcells_agg, AVcells_ref, AVcells_fn, AVcells_ifc, Value.oneCell', allSz]; done) | (simp [hdOK_encI, allSz_encI, encI_length, hdOK_encU, hdOK_encL, allSz_encU, allSz_encL, encU_length, encL_length, encD_one, encD_cells, AVone_v, AVone_sl, AVone_agg, AVone_ref, AVone_fn, AVone_ifc, AVcells_v, AVcells_sl, AVcells_agg, AVcells_ref, AVcells_fn, AVcells_ifc, Value.oneCell', allSz]; omega)) ?_
          simp
    by_cases hk8 : k = 8
    · subst hk8
      have hb := D_rbare8 (W0 := W0) (κ := κ) (GG := GG) (.mk 8 c neg mag t l)
      have e : (decide (0 ≤ (8 : Int)) && (decide ((8 : Int) ≤ 10) && (bareP ((8 : Int) == 3) ((8 : Int) == 4) ((8 : Int) == 5 || (8 : Int) == 6) ((8 : Int) == 7 || (8 : Int) == 8) (.mk 8 c neg mag t l) && restD 8 c neg mag t l))) = (bareP false false false true (.mk 8 c neg mag t l) && restD 8 c neg mag t l) := rfl
      rw [e]
      generalize bareP false false false true (.mk 8 c neg mag t l) = b at *
      clear e
      simp only [encD] at hb
      have e2 : restD 8 c neg mag t l = (decide (l.length ≤ 62) && plainL l) := rfl
      rw [e2]
      cases b with
      | false =>
        (refine Sound.of_go D_ok D_mix Tryd.func52 rfl (by decide) (by kernel_rfl) (GC.go ?_); refine GC_run2 4000 ?_; dsimp only [Tryd.f52, CD, go_sem, Nat.reduceBEq, Nat.reduceAdd, Nat.reduceMul, Nat.reduceSub, Int.reduceBEq, Int.reduceBNe, Int.reduceAdd, Int.reduceSub, Int.reduceMul, Int.reduceToNat, Int.reduceNeg, encD])
        (refine GC.call (by first | rfl | (simp; done) | (simp [hdOK_encI, allSz_encI, encI_length, hdOK_encU, hdOK_encL, allSz_encU, allSz_encL, encU_length, encL_length, encD_one, encD_cells, AVone_v, AVone_sl, AVone_agg, AVone_ref, AVone_fn, AVone_ifc, AVcells_v, AVcells_sl, AVcells_agg, AVcells_ref, AVcells_fn, AVcells_ifc, Value.oneCell', allSz]; done) | (simp [hdOK_encI, allSz_encI, encI_length, hdOK_encU, hdOK_encL, allSz_encU, allSz_encL, encU_length, encL_length, encD_one, encD_cells, AVone_v, AVone_sl, AVone_agg, AVone_ref, AVone_fn, AVone_ifc, AVcells_v, AVcells_sl, AVcells_agg, AVcells_ref, AVcells_fn, AVcells_ifc, Value.oneCell', allSz]; omega)) (hb) ?_; refine GC_run2 4000 ?_; dsimp only [go_sem, Nat.reduceBEq, Nat.reduceAdd, Nat.reduceMul, Nat.reduceSub, Int.reduceBEq, Int.reduceBNe, Int.reduceAdd, Int.reduceSub, Int.reduceMul, Int.reduceToNat, Int.reduceNeg])
        refine GC.finE (by first | rfl | (simp; done) | (simp [hdOK_encI, allSz_encI, encI_length, hdOK_encU, hdOK_encL, allSz_encU, allSz_encL, encU_length, encL_length, encD_one, encD_cells, AVone_v, AVone_sl, AVone_agg, AVone_ref, AVone_fn, AVone_ifc, AVcells_v, AVcells_sl, AVcells_agg, AVcells_ref, AVcells_fn, AVcells_ifc, Value.oneCell', allSz]; done) | (simp [hdOK_encI, allSz_encI, encI_length, hdOK_encU, hdOK_encL, allSz_encU, allSz_encL, encU_length, encL_length, encD_one, encD_cells, AVone_v, AVone_sl, AVone_agg, AVone_ref, AVone_fn, AVone_ifc, AVcells_v, AVcells_sl, AVcells_agg, AVcells_ref, AVcells_fn, AVcells_ifc, Value.oneCell', allSz]; omega)) ?_
        rfl
      | true =>
        by_cases hl2 : l.length ≤ 62
        · have d2 : decide (((encL l).length : Int) > 62) = false := by rw [hll]; simp; omega
          have d3 : decide (l.length ≤ 62) = true := by simp [hl2]
          rw [d3]
          (refine Sound.of_go D_ok D_mix Tryd.func52 rfl (by decide) (by kernel_rfl) (GC.go ?_); refine GC_run2 4000 ?_; dsimp only [Tryd.f52, CD, go_sem, Nat.reduceBEq, Nat.reduceAdd, Nat.reduceMul, Nat.reduceSub, Int.reduceBEq, Int.reduceBNe, Int.reduceAdd, Int.reduceSub, Int.reduceMul, Int.reduceToNat, Int.reduceNeg, encD])
          (refine GC.call (by first | rfl | (simp; done) | (simp [hdOK_encI, allSz_encI, encI_length, hdOK_encU, hdOK_encL, allSz_encU, allSz_encL, encU_length, encL_length, encD_one, encD_cells, AVone_v, AVone_sl, AVone_agg, AVone_ref, AVone_fn, AVone_ifc, AVcells_v, AVcells_sl, AVcells_agg, AVcells_ref, AVcells_fn, AVcells_ifc, Value.oneCell', allSz]; done) | (simp [hdOK_encI, allSz_encI, encI_length, hdOK_encU, hdOK_encL, allSz_encU, allSz_encL, encU_length, encL_length, encD_one, encD_cells, AVone_v, AVone_sl, AVone_agg, AVone_ref, AVone_fn, AVone_ifc, AVcells_v, AVcells_sl, AVcells_agg, AVcells_ref, AVcells_fn, AVcells_ifc, Value.oneCell', allSz]; omega)) (hb) ?_; refine GC_run2 4000 ?_; dsimp only [go_sem, Nat.reduceBEq, Nat.reduceAdd, Nat.reduceMul, Nat.reduceSub, Int.reduceBEq, Int.reduceBNe, Int.reduceAdd, Int.reduceSub, Int.reduceMul, Int.reduceToNat, Int.reduceNeg])
          (repeat (simp only [d2]; try (dsimp only [go_sem, Nat.reduceBEq, Nat.reduceAdd, Nat.reduceMul, Nat.reduceSub, Int.reduceBEq, Int.reduceBNe, Int.reduceAdd, Int.reduceSub, Int.reduceMul, Int.reduceToNat, Int.reduceNeg])))
          refine GC.loopR (by first | (simp [hdOK_encU, hdOK_encL, allSz_encU, allSz_encL, encU_length, encL_length, encD_one, encD_cells, AVone_v, AVone_sl, AVone_agg, AVone_ref, AVone_fn, AVone_ifc, AVcells_v, AVcells_sl, AVcells_agg, AVcells_ref, AVcells_fn, AVcells_ifc, Value.oneCell', allSz, allSz_encI, encI_length, hdOK_encI, hll]; done) | (simp [hdOK_encU, hdOK_encL, allSz_encU, allSz_encL, encU_length, encL_length, encD_one, encD_cells, AVone_v, AVone_sl, AVone_agg, AVone_ref, AVone_fn, AVone_ifc, AVcells_v, AVcells_sl, AVcells_agg, AVcells_ref, AVcells_fn, AVcells_ifc, Value.oneCell', allSz, allSz_encI, encI_length, hdOK_encI, hll]; omega)) l.length [1] (fun j => [(5, .av (.v (.int .i64 j)))]) (fun j => []) (fun j => plainL (l.take j) = true) ⟨rfl, trivial⟩ trivial rfl (fun j hj hI => ?_)
          rcases Nat.lt_or_ge j l.length with hlt | hge
          · have hd := dec_lt (show j < (encL l).length by omega)
            have hx : (encL l).getD j dflt = _ := encL_get hlt
            have hmem : l[j] ∈ l := List.getElem_mem hlt
            have hc := cntL_get hmem
            have hs := D_rplain n l[j] (by omega) (hf.sub hmem) (hw.sub hmem)
            have htk : l.take (j + 1) = l.take j ++ [l[j]] := List.take_succ_eq_append_getElem hlt
            have hst : plainL (l.take (j + 1)) = plainD l[j] := by rw [htk, plainL_all, List.all_append, ← plainL_all, hI]; simp
            have hbadl : plainD l[j] = false → plainL l = false := fun h => by
              rw [plainL_all]
              refine Bool.eq_false_iff.2 fun e => ?_
              rw [List.all_eq_true.1 e _ hmem] at h
              cases h
            generalize plainD l[j] = px at *
            generalize l[j] = x at *
            obtain ⟨xk, xc, xneg, xmag, xt, xl⟩ := x
            simp only [encD] at hx hs
            cases px with
            | false =>
              (refine GC_run2 4000 ?_; dsimp only [go_sem, Nat.reduceBEq, Nat.reduceAdd, Nat.reduceMul, Nat.reduceSub, Int.reduceBEq, Int.reduceBNe, Int.reduceAdd, Int.reduceSub, Int.reduceMul, Int.reduceToNat, Int.reduceNeg])
              (repeat (simp only [hd, hx]; try (dsimp only [go_sem, Nat.reduceBEq, Nat.reduceAdd, Nat.reduceMul, Nat.reduceSub, Int.reduceBEq, Int.reduceBNe, Int.reduceAdd, Int.reduceSub, Int.reduceMul, Int.reduceToNat, Int.reduceNeg])))
              (refine GC.call (by first | rfl | (simp; done) | (simp [hdOK_encI, allSz_encI, encI_length, hdOK_encU, hdOK_encL, allSz_encU, allSz_encL, encU_length, encL_length, encD_one, encD_cells, AVone_v, AVone_sl, AVone_agg, AVone_ref, AVone_fn, AVone_ifc, AVcells_v, AVcells_sl, AVcells_agg, AVcells_ref, AVcells_fn, AVcells_ifc, Value.oneCell', allSz]; done) | (simp [hdOK_encI, allSz_encI, encI_length, hdOK_encU, hdOK_encL, allSz_encU, allSz_encL, encU_length, encL_length, encD_one, encD_cells, AVone_v, AVone_sl, AVone_agg, AVone_ref, AVone_fn, AVone_ifc, AVcells_v, AVcells_sl, AVcells_agg, AVcells_ref, AVcells_fn, AVcells_ifc, Value.oneCell', allSz]; omega)) (hs) ?_; refine GC_run2 4000 ?_; dsimp only [go_sem, Nat.reduceBEq, Nat.reduceAdd, Nat.reduceMul, Nat.reduceSub, Int.reduceBEq, Int.reduceBNe, Int.reduceAdd, Int.reduceSub, Int.reduceMul, Int.reduceToNat, Int.reduceNeg])
              refine GC.finE (by first | rfl | (simp; done) | (simp [hdOK_encI, allSz_encI, encI_length, hdOK_encU, hdOK_encL, allSz_encU, allSz_encL, encU_length, encL_length, encD_one, encD_cells, AVone_v, AVone_sl, AVone_agg, AVone_ref, AVone_fn, AVone_ifc, AVcells_v, AVcells_sl, AVcells_agg, AVcells_ref, AVcells_fn, AVcells_ifc, Value.oneCell', allSz]; done) | (simp [hdOK_encI, allSz_encI, encI_length, hdOK_encU, hdOK_encL, allSz_encU, allSz_encL, encU_length, encL_length, encD_one, encD_cells, AVone_v, AVone_sl, AVone_agg, AVone_ref, AVone_fn, AVone_ifc, AVcells_v, AVcells_sl, AVcells_agg, AVcells_ref, AVcells_fn, AVcells_ifc, Value.oneCell', allSz]; omega)) ?_
              (rw [hbadl rfl]; try simp)
            | true =>
              (refine GC_run2 4000 ?_; dsimp only [go_sem, Nat.reduceBEq, Nat.reduceAdd, Nat.reduceMul, Nat.reduceSub, Int.reduceBEq, Int.reduceBNe, Int.reduceAdd, Int.reduceSub, Int.reduceMul, Int.reduceToNat, Int.reduceNeg])
              (repeat (simp only [hd, hx]; try (dsimp only [go_sem, Nat.reduceBEq, Nat.reduceAdd, Nat.reduceMul, Nat.reduceSub, Int.reduceBEq, Int.reduceBNe, Int.reduceAdd, Int.reduceSub, Int.reduceMul, Int.reduceToNat, Int.reduceNeg])))
              (refine GC.call (by first | rfl | (simp; done) | (simp [hdOK_encI, allSz_encI, encI_length, hdOK_encU, hdOK_encL, allSz_encU, allSz_encL, encU_length, encL_length, encD_one, encD_cells, AVone_v, AVone_sl, AVone_agg, AVone_ref, AVone_fn, AVone_ifc, AVcells_v, AVcells_sl, AVcells_agg, AVcells_ref, AVcells_fn, AVcells_ifc, Value.oneCell', allSz]; done) | (simp [hdOK_encI, allSz_encI, encI_length, hdOK_encU, hdOK_encL, allSz_encU, allSz_encL, encU_length, encL_length, encD_one, encD_cells, AVone_v, AVone_sl, AVone_agg, AVone_ref, AVone_fn, AVone_ifc, AVcells_v, AVcells_sl, AVcells_agg, AVcells_ref, AVcells_fn, AVcells_ifc, Value.oneCell', allSz]; omega)) (hs) ?_; refine GC_run2 4000 ?_; dsimp only [go_sem, Nat.reduceBEq, Nat.reduceAdd, Nat.reduceMul, Nat.reduceSub, Int.reduceBEq, Int.reduceBNe, Int.reduceAdd, Int.reduceSub, Int.reduceMul, Int.reduceToNat, Int.reduceNeg])
              (refine GC.backR ((by first | (simp [hdOK_encU, hdOK_encL, allSz_encU, allSz_encL, encU_length, encL_length, encD_one, encD_cells, AVone_v, AVone_sl, AVone_agg, AVone_ref, AVone_fn, AVone_ifc, AVcells_v, AVcells_sl, AVcells_agg, AVcells_ref, AVcells_fn, AVcells_ifc, Value.oneCell', allSz, allSz_encI, encI_length, hdOK_encI, hll]; done) | (simp [hdOK_encU, hdOK_encL, allSz_encU, allSz_encL, encU_length, encL_length, encD_one, encD_cells, AVone_v, AVone_sl, AVone_agg, AVone_ref, AVone_fn, AVone_ifc, AVcells_v, AVcells_sl, AVcells_agg, AVcells_ref, AVcells_fn, AVcells_ifc, Value.oneCell', allSz, allSz_encI, encI_length, hdOK_encI, hll]; omega))) (by omega) (hst) ?_ ?_ <;> (repeat' (first | exact trivial | refine And.intro ?_ ?_)) <;> (try (dsimp only [go_sem, Nat.reduceBEq, Nat.reduceAdd, Nat.reduceMul, Nat.reduceSub, Int.reduceBEq, Int.reduceBNe, Int.reduceAdd, Int.reduceSub, Int.reduceMul, Int.reduceToNat, Int.reduceNeg])))
              exact congrArg (fun n => some (TV.av (.v (.int .i64 n)))) (wrap_nat j (by omega))
          · have : j = l.length := by omega
            subst this
            have hd := dec_ge (show (encL l).length ≤ l.length by omega)
            rw [List.take_length] at hI
            (refine GC_run2 4000 ?_; dsimp only [go_sem, Nat.reduceBEq, Nat.reduceAdd, Nat.reduceMul, Nat.reduceSub, Int.reduceBEq, Int.reduceBNe, Int.reduceAdd, Int.reduceSub, Int.reduceMul, Int.reduceToNat, Int.reduceNeg])
            (repeat (simp only [hd]; try (dsimp only [go_sem, Nat.reduceBEq, Nat.reduceAdd, Nat.reduceMul, Nat.reduceSub, Int.reduceBEq, Int.reduceBNe, Int.reduceAdd, Int.reduceSub, Int.reduceMul, Int.reduceToNat, Int.reduceNeg])))
            refine GC.finE (by first | rfl | (simp; done) | (simp [hdOK_encI, allSz_encI, encI_length, hdOK_encU, hdOK_encL, allSz_encU, allSz_encL, encU_length, encL_length, encD_one, encD_cells, AVone_v, AVone_sl, AVone_agg, AVone_ref, AVone_fn, AVone_ifc, AVcells_v, AVcells_sl, AVcells_agg, AVcells_ref, AVcells_fn, AVcells_ifc, Value.oneCell', allSz]; done) | (simp [hdOK_encI, allSz_encI, encI_length, hdOK_encU, hdOK_encL, allSz_encU, allSz_encL, encU_length, encL_length, encD_one, encD_cells, AVone_v, AVone_sl, AVone_agg, AVone_ref, AVone_fn, AVone_ifc, AVcells_v, AVcells_sl, AVcells_agg, AVcells_ref, AVcells_fn, AVcells_ifc, Value.oneCell', allSz]; omega)) ?_
            (rw [hI]; try rfl)
        · have d2 : decide (((encL l).length : Int) > 62) = true := by rw [hll]; simp; omega
          have d3 : decide (l.length ≤ 62) = false := by simp [hl2]
          rw [d3]
          (refine Sound.of_go D_ok D_mix Tryd.func52 rfl (by decide) (by kernel_rfl) (GC.go ?_); refine GC_run2 4000 ?_; dsimp only [Tryd.f52, CD, go_sem, Nat.reduceBEq, Nat.reduceAdd, Nat.reduceMul, Nat.reduceSub, Int.reduceBEq, Int.reduceBNe, Int.reduceAdd, Int.reduceSub, Int.reduceMul, Int.reduceToNat, Int.reduceNeg, encD])
          (refine GC.call (by first | rfl | (simp; done) | (simp [hdOK_encI, allSz_encI, encI_length, hdOK_encU, hdOK_encL, allSz_encU, allSz_encL, encU_length, encL_length, encD_one, encD_cells, AVone_v, AVone_sl, AVone_agg, AVone_ref, AVone_fn, AVone_ifc, AVcells_v, AVcells_sl, AVcells_agg, AVcells_ref, AVcells_fn, AVcells_ifc, Value.oneCell', allSz]; done) | (simp [hdOK_encI, allSz_encI, encI_length, hdOK_encU, hdOK_encL, allSz_encU, allSz_encL, encU_length, encL_length, encD_one, encD_cells, AVone_v, AVone_sl, AVone_agg, AVone_ref, AVone_fn, AVone_ifc, AVcells_v, AVcells_sl, AVcells_agg, AVcells_ref, AVcells_fn, AVcells_ifc, Value.oneCell', allSz]; omega)) (hb) ?_; refine GC_run2 4000 ?_; dsimp only [go_sem, Nat.reduceBEq, Nat.reduceAdd, Nat.reduceMul, Nat.reduceSub, Int.reduceBEq, Int.reduceBNe, Int.reduceAdd, Int.reduceSub, Int.reduceMul, Int.reduceToNat, Int.reduceNeg])
          (repeat (simp only [d2]; try (dsimp only [go_sem, Nat.reduceBEq, Nat.reduceAdd, Nat.reduceMul, Nat.reduceSub, Int.reduceBEq, Int.reduceBNe, Int.reduceAdd, Int.reduceSub, Int.reduceMul, Int.reduceToNat, Int.reduceNeg])))
          refine GC.finE (by first | rfl | (simp; done) | (simp [hdOK_encI, allSz_encI, encI_length, hdOK_encU, hdOK_encL, allSz_encU, allSz_encL, encU_length, encL_length, encD_one, encD_cells, AVone_v, AVone_sl, AVone_agg, AVone_ref, AVone_fn, AVone_ifc, AVcells_v, AVcells_sl, AVcells_agg, AVcells_ref, AVcells_fn, AVcells_ifc, Value.oneCell', allSz]; done) | (simp [hdOK_encI, allSz_encI, encI_length, hdOK_encU, hdOK_encL, allSz_encU, allSz_encL, encU_length, encL_length, encD_one, encD_cells, AVone_v, AVone_sl, AVone_agg, AVone_ref, AVone_fn, AVone_ifc, AVcells_v, AVcells_sl, AVcells_agg, AVcells_ref, AVcells_fn, AVcells_ifc, Value.oneCell', allSz]; omega)) ?_
          simp
    have q0 : (k == 0) = false := by simpa using hk0
    have q1 : (k == 1) = false := by simpa using hk1
    have q2 : (k == 2) = false := by simpa using hk2
    have q3 : (k == 3) = false := by simpa using hk3
    have q4 : (k == 4) = false := by simpa using hk4
    have q5 : (k == 5) = false := by simpa using hk5
    have q6 : (k == 6) = false := by simpa using hk6
    have q7 : (k == 7) = false := by simpa using hk7
    have q8 : (k == 8) = false := by simpa using hk8
    have q9 : (k == 9) = false := by simpa using hk9
    have q10 : (k == 10) = false := by simpa using hk10
    have e : (decide (0 ≤ k) && decide (k ≤ 10)) = false := by
      refine Bool.eq_false_iff.2 fun h => ?_
      simp only [Bool.and_eq_true, decide_eq_true_eq] at h
      omega
    rw [← Bool.and_assoc, e]
    (refine Sound.of_go D_ok D_mix Tryd.func52 rfl (by decide) (by kernel_rfl) (GC.go ?_); refine GC_run2 4000 ?_; dsimp only [Tryd.f52, CD, go_sem, Nat.reduceBEq, Nat.reduceAdd, Nat.reduceMul, Nat.reduceSub, Int.reduceBEq, Int.reduceBNe, Int.reduceAdd, Int.reduceSub, Int.reduceMul, Int.reduceToNat, Int.reduceNeg, encD])
    (repeat (simp only [q0, q1, q2, q3, q4, q5, q6, q7, q8, q9, q10]; try (dsimp only [go_sem, Nat.reduceBEq, Nat.reduceAdd, Nat.reduceMul, Nat.reduceSub, Int.reduceBEq, Int.reduceBNe, Int.reduceAdd, Int.reduceSub, Int.reduceMul, Int.reduceToNat, Int.reduceNeg])))
    refine GC.finE (by first | rfl | (simp; done) | (simp [hdOK_encI, allSz_encI, encI_length, hdOK_encU, hdOK_encL, allSz_encU, allSz_encL, encU_length, encL_length, encD_one, encD_cells, AVone_v, AVone_sl, AVone_agg, AVone_ref, AVone_fn, AVone_ifc, AVcells_v, AVcells_sl, AVcells_agg, AVcells_ref, AVcells_fn, AVcells_ifc, Value.oneCell', allSz]; done) | (simp [hdOK_encI, allSz_encI, encI_length, hdOK_encU, hdOK_encL, allSz_encU, allSz_encL, encU_length, encL_length, encD_one, encD_cells, AVone_v, AVone_sl, AVone_agg, AVone_ref, AVone_fn, AVone_ifc, AVcells_v, AVcells_sl, AVcells_agg, AVcells_ref, AVcells_fn, AVcells_ifc, Value.oneCell', allSz]; omega)) ?_
    rfl

theorem D_rmay (d : Dat) (hf : fine d) (hw : wfD2 d) : Sound (CD W0 κ GG) 19 [encD d] [.av (.v (.bool (mayD d)))] := by
  have h1 := D_rplain (W0 := W0) (κ := κ) (GG := GG) _ d (Nat.le_refl _) hf hw
  have h2 := D_rdepth (W0 := W0) (κ := κ) (GG := GG) _ d (Nat.le_refl _) hf
  unfold mayD
  generalize plainD d = b at *
  have e : decide (depthD d ≤ 64) = decide ((depthD d : Int) ≤ 64) := by rw [decide_eq_decide]; omega
  rw [e]
  generalize depthD d = dd at *
  obtain ⟨k, c, neg, mag, t, l⟩ := d
  simp only [encD] at h1 h2
  cases b with
  | false =>
    (refine Sound.of_go D_ok D_mix Tryd.func19 rfl (by decide) (by kernel_rfl) (GC.go ?_); refine GC_run2 4000 ?_; dsimp only [Tryd.f19, CD, go_sem, Nat.reduceBEq, Nat.reduceAdd, Nat.reduceMul, Nat.reduceSub, Int.reduceBEq, Int.reduceBNe, Int.reduceAdd, Int.reduceSub, Int.reduceMul, Int.reduceToNat, Int.reduceNeg, encD])
    (refine GC.call (by first | rfl | (simp; done) | (simp [hdOK_encI, allSz_encI, encI_length, hdOK_encU, hdOK_encL, allSz_encU, allSz_encL, encU_length, encL_length, encD_one, encD_cells, AVone_v, AVone_sl, AVone_agg, AVone_ref, AVone_fn, AVone_ifc, AVcells_v, AVcells_sl, AVcells_agg, AVcells_ref, AVcells_fn, AVcells_ifc, Value.oneCell', allSz]; done) | (simp [hdOK_encI, allSz_encI, encI_length, hdOK_encU, hdOK_encL, allSz_encU, allSz_encL, encU_length, encL_length, encD_one, encD_cells, AVone_v, AVone_sl, AVone_agg, AVone_ref, AVone_fn, AVone_ifc, AVcells_v, AVcells_sl, AVcells_agg, AVcells_ref, AVcells_fn, AVcells_ifc, Value.oneCell', allSz]; omega)) (h1) ?_; refine GC_run2 4000 ?_; dsimp only [go_sem, Nat.reduceBEq, Nat.reduceAdd, Nat.reduceMul, Nat.reduceSub, Int.reduceBEq, Int.reduceBNe, Int.reduceAdd, Int.reduceSub, Int.reduceMul, Int.reduceToNat, Int.reduceNeg])
    refine GC.finE (by first | rfl | (simp; done) | (simp [hdOK_encI, allSz_encI, encI_length, hdOK_encU, hdOK_encL, allSz_encU, allSz_encL, encU_length, encL_length, encD_one, encD_cells, AVone_v, AVone_sl, AVone_agg, AVone_ref, AVone_fn, AVone_ifc, AVcells_v, AVcells_sl, AVcells_agg, AVcells_ref, AVcells_fn, AVcells_ifc, Value.oneCell', allSz]; done) | (simp [hdOK_encI, allSz_encI, encI_length, hdOK_encU, hdOK_encL, allSz_encU, allSz_encL, encU_length, encL_length, encD_one, encD_cells, AVone_v, AVone_sl, AVone_agg, AVone_ref, AVone_fn, AVone_ifc, AVcells_v, AVcells_sl, AVcells_agg, AVcells_ref, AVcells_fn, AVcells_ifc, Value.oneCell', allSz]; omega)) ?_
    rfl
  | true =>
    (refine Sound.of_go D_ok D_mix Tryd.func19 rfl (by decide) (by kernel_rfl) (GC.go ?_); refine GC_run2 4000 ?_; dsimp only [Tryd.f19, CD, go_sem, Nat.reduceBEq, Nat.reduceAdd, Nat.reduceMul, Nat.reduceSub, Int.reduceBEq, Int.reduceBNe, Int.reduceAdd, Int.reduceSub, Int.reduceMul, Int.reduceToNat, Int.reduceNeg, encD])
    (refine GC.call (by first | rfl | (simp; done) | (simp [hdOK_encI, allSz_encI, encI_length, hdOK_encU, hdOK_encL, allSz_encU, allSz_encL, encU_length, encL_length, encD_one, encD_cells, AVone_v, AVone_sl, AVone_agg, AVone_ref, AVone_fn, AVone_ifc, AVcells_v, AVcells_sl, AVcells_agg, AVcells_ref, AVcells_fn, AVcells_ifc, Value.oneCell', allSz]; done) | (simp [hdOK_encI, allSz_encI, encI_length, hdOK_encU, hdOK_encL, allSz_encU, allSz_encL, encU_length, encL_length, encD_one, encD_cells, AVone_v, AVone_sl, AVone_agg, AVone_ref, AVone_fn, AVone_ifc, AVcells_v, AVcells_sl, AVcells_agg, AVcells_ref, AVcells_fn, AVcells_ifc, Value.oneCell', allSz]; omega)) (h1) ?_; refine GC_run2 4000 ?_; dsimp only [go_sem, Nat.reduceBEq, Nat.reduceAdd, Nat.reduceMul, Nat.reduceSub, Int.reduceBEq, Int.reduceBNe, Int.reduceAdd, Int.reduceSub, Int.reduceMul, Int.reduceToNat, Int.reduceNeg])
    (refine GC.call (by first | rfl | (simp; done) | (simp [hdOK_encI, allSz_encI, encI_length, hdOK_encU, hdOK_encL, allSz_encU, allSz_encL, encU_length, encL_length, encD_one, encD_cells, AVone_v, AVone_sl, AVone_agg, AVone_ref, AVone_fn, AVone_ifc, AVcells_v, AVcells_sl, AVcells_agg, AVcells_ref, AVcells_fn, AVcells_ifc, Value.oneCell', allSz]; done) | (simp [hdOK_encI, allSz_encI, encI_length, hdOK_encU, hdOK_encL, allSz_encU, allSz_encL, encU_length, encL_length, encD_one, encD_cells, AVone_v, AVone_sl, AVone_agg, AVone_ref, AVone_fn, AVone_ifc, AVcells_v, AVcells_sl, AVcells_agg, AVcells_ref, AVcells_fn, AVcells_ifc, Value.oneCell', allSz]; omega)) (h2) ?_; refine GC_run2 4000 ?_; dsimp only [go_sem, Nat.reduceBEq, Nat.reduceAdd, Nat.reduceMul, Nat.reduceSub, Int.reduceBEq, Int.reduceBNe, Int.reduceAdd, Int.reduceSub, Int.reduceMul, Int.reduceToNat, Int.reduceNeg])
    refine GC.finE (by first | rfl | (simp; done) | (simp [hdOK_encI, allSz_encI, encI_length, hdOK_encU, hdOK_encL, allSz_encU, allSz_encL, encU_length, encL_length, encD_one, encD_cells, AVone_v, AVone_sl, AVone_agg, AVone_ref, AVone_fn, AVone_ifc, AVcells_v, AVcells_sl, AVcells_agg, AVcells_ref, AVcells_fn, AVcells_ifc, Value.oneCell', allSz]; done) | (simp [hdOK_encI, allSz_encI, encI_length, hdOK_encU, hdOK_encL, allSz_encU, allSz_encL, encU_length, encL_length, encD_one, encD_cells, AVone_v, AVone_sl, AVone_agg, AVone_ref, AVone_fn, AVone_ifc, AVcells_v, AVcells_sl, AVcells_agg, AVcells_ref, AVcells_fn, AVcells_ifc, Value.oneCell', allSz]; omega)) ?_
    simp
end
end Go.Sy
