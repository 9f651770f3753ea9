/- The executor is sound. -/
import Derived.Test.YthipfoebefcgpaaDoorEx1
import Derived.Great.BuildSlice
import Derived.Deep.Upon
set_option linter.unusedVariables false
set_option linter.unusedSimpArgs false
/- Soundness, part 10: new variables, built values. -/
set_option linter.unusedVariables false
namespace Go.Sy
open Go.RowKit

section
variable {κ : Nat → Addr} {m : Mem} {γ : Ga} {g : Gs} {w w0 : World} {Ow : Nat → Prop} {m0 : Mem} {P : Program}

theorem toTV_ment (c : Value) : (toTV c).ment = [] := by unfold toTV; split <;> rfl
theorem zero_ment : ∀ (l : List Value), TVs.ment (l.map toTV) = []
  | [] => rfl
  | c :: l => by simp [TVs.ment, toTV_ment, zero_ment l]
theorem oneVs_mem : ∀ {l : List Value}, oneVs l = true → ∀ v ∈ l, v.oneCell' = true
  | [], _, v, hv => by simp at hv
  | x :: l, h, v, hv => by
    simp only [oneVs, Bool.and_eq_true] at h
    rcases List.mem_cons.1 hv with rfl | hv
    · exact h.1
    · exact oneVs_mem h.2 v hv

theorem aAlloc_ok {C : Ctx} (hT : ∀ t i, C.T t = some i → tyOf C.P t = some i) {t : TypeId} {own : Nat} {e : Eff} (he : aAlloc C.T own t = some e) (hr : e.req = true)
    (h : Hp κ Ow m0 w0 g m γ w) (hf : ∀ i ∈ e.nw, Fresh g i) : Res κ Ow m0 w0 g m γ w ((do pure (.value (← Instr.alloc t true (.tuple #[]))) : Sem Next).run C.P w) e := by
  unfold aAlloc at he
  cases ht : C.T t with
  | none => simp [ht] at he
  | some ty =>
    simp [ht] at he
    subst he
    obtain ⟨ti, d, z, h1, h2, h3, h4, h5, h6, h7, _⟩ := tyOf_spec (hT _ _ ht)
    have hz := oneVs_mem hr
    rw [h7] at hz
    have hn := h.newBox (id := own) (cs := ty.zero.map toTV) (arr := z.cells) (e := t) (hf own (by simp)) (by simp [h7]) (by rw [zero_ment]; simp) (fun j c hj => by
      rw [List.getElem?_map, h7] at hj
      cases hc : z.cells.toList[j]? with
      | none => simp [hc] at hj
      | some v =>
        simp [hc] at hj
        subst hj
        exact ⟨v, by simpa using hc, hz v (List.mem_of_getElem? hc), toTV_ok v⟩)
    refine ⟨.pointer (some ⟨w.heap.size, 0, none⟩), _, m, _, .inl ?_, hn, ?_⟩
    · simp [Instr.alloc, zeroValue, typeInfo, h1, h3, newVar, newRow]
    · refine ⟨⟨_, rfl⟩, fun o ho hb => ⟨w.heap.size, updA_same _ _ _, rfl⟩⟩

theorem RepT0.toT {x : TV} {u : Value} (h : RepT0 κ m γ g x u) : RepT κ m γ g x u := by cases x <;> first | exact h | exact h.elim
theorem TVs.ment_mem : ∀ {cs : List TV} {id : Nat}, id ∈ TVs.ment cs → ∃ c ∈ cs, id ∈ c.ment
  | [], id, h => by simp [TVs.ment] at h
  | c :: cs, id, h => by
    simp only [TVs.ment, List.mem_append] at h
    rcases h with h | h
    · exact ⟨c, by simp, h⟩
    · obtain ⟨d, h1, h2⟩ := TVs.ment_mem h
      exact ⟨d, List.mem_cons_of_mem _ h1, h2⟩
/-- The cells of a value. -/
theorem TVcells_ok {x : TV} {cs : List TV} {u : Value} (hc : TV.cells x = some cs) (ho : x.one = true) (hx : RepT κ m γ g x u) :
    u.cells.size = cs.length ∧ (∀ (j : Nat) (c : TV), cs[j]? = some c → ∃ v, u.cells[j]? = some v ∧ v.oneCell' = true ∧ RepT κ m γ g c v) ∧ ∀ id ∈ TVs.ment cs, id ∈ x.ment := by
  have single : ∀ {c : TV}, u.cells = #[u] → u.oneCell' = true → RepT κ m γ g c u → c.ment = x.ment → cs = [c] →
      u.cells.size = cs.length ∧ (∀ (j : Nat) (c : TV), cs[j]? = some c → ∃ v, u.cells[j]? = some v ∧ v.oneCell' = true ∧ RepT κ m γ g c v) ∧ ∀ id ∈ TVs.ment cs, id ∈ x.ment := by
    intro c h1 h2 h3 h4 h5
    subst h5
    rw [h1]
    refine ⟨rfl, fun j c' hj => ?_, fun id hid => by simpa [TVs.ment, h4] using hid⟩
    cases j with
    | zero => simp at hj; subst hj; exact ⟨u, rfl, h2, h3⟩
    | succ j => simp at hj
  have m1 : ∀ l : List AV, TVs.ment (l.map .av) = [] := by
    intro l
    induction l with
    | nil => rfl
    | cons y l ih => simp [TVs.ment, TV.ment, ih]
  cases x with
  | av y =>
    have hx' := hx
    cases y with
    | agg cs' =>
      cases hc
      simp only [RepT, RepT0, RepV] at hx
      obtain ⟨vs, rfl, hL⟩ := hx
      refine ⟨by have := hL.length; simpa [Value.cells] using this, fun j c hj => ?_, by rw [m1]; simp⟩
      rw [List.getElem?_map] at hj
      cases hc : cs'[j]? with
      | none => simp [hc] at hj
      | some y =>
        simp [hc] at hj
        subst hj
        obtain ⟨v, hv, h1, h2⟩ := hL.get hc
        exact ⟨v, by simpa [Value.cells] using hv, h1, h2⟩
    | v y =>
      cases hc
      have : u = y := hx
      subst this
      have hc : u.cells = #[u] := by cases u <;> first | rfl | (simp [TV.one, AV.one, Value.oneCell'] at ho)
      exact single hc ho hx rfl rfl
    | sl xs => cases hc; simp only [RepT, RepT0, RepV] at hx'; obtain ⟨a, c, rfl, _⟩ := hx'; exact single rfl rfl hx rfl rfl
    | ref xs => cases hc; simp only [RepT, RepT0, RepV] at hx'; obtain ⟨a, c, rfl, _⟩ := hx'; exact single rfl rfl hx rfl rfl
    | fn f xs => cases hc; simp only [RepT, RepT0, RepV] at hx'; obtain ⟨a, rfl, _⟩ := hx'; exact single rfl rfl hx rfl rfl
    | ifc f xs => cases hc; simp only [RepT, RepT0, RepV] at hx'; obtain ⟨a, rfl, _⟩ := hx'; exact single rfl rfl hx rfl rfl
    | sent f => cases hc; simp only [RepT, RepT0, RepV] at hx'; subst hx'; exact single rfl rfl hx rfl rfl
  | full xs => cases hc; obtain ⟨⟨a, rfl⟩, _⟩ := id hx; exact single rfl rfl hx rfl rfl
  | row i n => cases hc; obtain ⟨⟨a, c, rfl⟩, _⟩ := id hx; exact single rfl rfl hx rfl rfl
  | box i n => cases hc; obtain ⟨⟨a, rfl⟩, _⟩ := id hx; exact single rfl rfl hx rfl rfl
  | elem i n => cases hc; obtain ⟨⟨a, rfl⟩, _⟩ := id hx; exact single rfl rfl hx rfl rfl
  | clo f caps => cases hc; obtain ⟨vs, rfl, _⟩ := id hx; exact single rfl rfl hx rfl rfl
  | tup xs => cases hc
  | dead => cases hc
  | ag xs =>
    cases hc
    obtain ⟨us, rfl, h1, h2⟩ := hx
    refine ⟨by simpa [Value.cells] using h1, fun j c hj => ?_, fun id hid => ?_⟩
    · obtain ⟨v, hv, ho, h3⟩ := h2 j c hj
      exact ⟨v, by simpa [Value.cells] using hv, ho, h3.toT⟩
    · obtain ⟨c, hc, hid⟩ := TVs.ment_mem hid
      obtain ⟨j, hj⟩ := List.mem_iff_getElem?.1 hc
      obtain ⟨v, _, _, h3⟩ := h2 j c hj
      refine ment_tup (κ := κ) (m := m) (γ := γ) (g := g) hc id (fun _ _ => trivial) ?_ hid
      cases c <;> first | trivial | exact h3

theorem aBox_ok {own : Nat} {t : TypeId} {x : TV} {u : Value} {e : Eff} (he : aBox own (some x) = some e) (hr : e.req = true)
    (h : Hp κ Ow m0 w0 g m γ w) (hf : ∀ i ∈ e.nw, Fresh g i ∧ i ∉ x.ment) (hx : RepT κ m γ g x u) : Res κ Ow m0 w0 g m γ w ((do pure (.value (← Instr.box t u)) : Sem Next).run P w) e := by
  unfold aBox at he
  cases hc : TV.cells x with
  | none => simp [hc] at he
  | some cs =>
    simp [hc] at he
    subst he
    obtain ⟨k1, k2, k3⟩ := TVcells_ok hc hr hx
    have hn := h.newBox (id := own) (cs := cs) (arr := u.cells) (e := t) (hf own (by simp)).1 k1 (fun hm => (hf own (by simp)).2 (k3 _ hm)) k2
    refine ⟨.pointer (some ⟨w.heap.size, 0, none⟩), _, m, _, .inl ?_, hn, ?_⟩
    · simp [Instr.box, newVar, newRow]
    · refine ⟨⟨_, rfl⟩, fun o ho hb => ⟨w.heap.size, updA_same _ _ _, rfl⟩⟩

theorem RepV.ones {x : AV} {u : Value} (h : RepV κ m x u) (ho : x.one = true) : ∀ v ∈ u.cells, v.oneCell' = true := by
  cases x with
  | v y =>
    have : u = y := h
    subst this
    cases u <;> first | (intro v hv; simp [Value.cells] at hv; subst hv; exact ho) | (simp [AV.one, Value.oneCell'] at ho)
  | agg cs => simp only [RepV] at h; obtain ⟨vs, rfl, hL⟩ := h; intro v hv; exact hL.one v (by simpa [Value.cells] using hv)
  | sl xs => simp only [RepV] at h; obtain ⟨a, c, rfl, _⟩ := h; intro v hv; simp [Value.cells] at hv; subst hv; rfl
  | ref xs => simp only [RepV] at h; obtain ⟨a, c, rfl, _⟩ := h; intro v hv; simp [Value.cells] at hv; subst hv; rfl
  | fn f xs => simp only [RepV] at h; obtain ⟨a, rfl, _⟩ := h; intro v hv; simp [Value.cells] at hv; subst hv; rfl
  | ifc f xs => simp only [RepV] at h; obtain ⟨a, rfl, _⟩ := h; intro v hv; simp [Value.cells] at hv; subst hv; rfl
  | sent f => simp only [RepV] at h; subst h; intro v hv; simp [Value.cells] at hv; subst hv; rfl

theorem fillAt_ok {cs : List AV} {cells : Array Value} {off : Nat} {x : AV} {u : Value} (hL : RepL κ m cs cells.toList) (hV : RepV κ m x u) (ho : x.one = true) (hle : off + x.cells.length ≤ cs.length) :
    RepL κ m (fillAt cs off x.cells) ((u.cells.toList.zipIdx 0).foldl (fun cs (x : Value × Nat) => cs.setIfInBounds (off + x.2) x.1) cells).toList := by
  have hX := hV.cells' ho (hV.ones ho)
  have hXl := hX.length
  have hcl := hL.length
  obtain ⟨k1, k2⟩ := Great.foldl_set off u.cells.toList 0 cells
  refine RepL.mk (by simp [fillAt, k1]; simp at hcl; omega) fun j y hy => ?_
  simp only [Array.getElem?_toList, k2, Nat.add_zero]
  simp only [fillAt, List.append_assoc] at hy
  by_cases h1 : j < off
  · rw [List.getElem?_append_left (by simp; omega), List.getElem?_take, if_pos h1] at hy
    obtain ⟨v, hv, h3⟩ := hL.get hy
    refine ⟨v, ?_, h3⟩
    rw [if_neg (by omega)]
    simpa using hv
  · rw [List.getElem?_append_right (by simp; omega)] at hy
    by_cases h2 : j < off + x.cells.length
    · rw [List.getElem?_append_left (by simp; omega)] at hy
      obtain ⟨v, hv, h3⟩ := hX.get hy
      refine ⟨v, ?_, h3⟩
      simp at hcl
      rw [if_pos ⟨by omega, by omega, by omega⟩]
      have hj : j - (List.take off cs).length = j - off := by simp; omega
      rw [hj] at hv
      simpa using hv
    · rw [List.getElem?_append_right (by simp; omega), List.getElem?_drop] at hy
      obtain ⟨v, hv, h3⟩ := hL.get hy
      refine ⟨v, ?_, h3⟩
      rw [if_neg (by omega)]
      have hj : off + x.cells.length + (j - (List.take off cs).length - x.cells.length) = j := by simp; omega
      rw [hj] at hv
      simpa using hv

theorem fills_ok {fs : List (Nat × Nat × Bool)} {pl : Nat → Option (Nat × Nat)} (hpl : ∀ i off size a, fs[i]? = some (off, size, a) → pl i = some (off, size)) :
    ∀ {idx : List Nat} {as : List AV} {us : List Value} {rq : Bool} {cs : List AV} {cells : Array Value} {r : Bool × List AV}, RepA κ m as us → RepL κ m cs cells.toList → fills fs rq cs (idx.zip as) = some r → r.1 = true →
      rq = true ∧ ∃ cells', Instr.fill pl cells (idx.zip us) = some cells' ∧ RepL κ m r.2 cells'.toList
  | [], as, us, rq, cs, cells, r, hA, hL, hf, hr => by
    simp only [List.zip_nil_left, fills, Option.some.injEq] at hf
    subst hf
    exact ⟨hr, cells, rfl, hL⟩
  | i :: idx, [], us, rq, cs, cells, r, hA, hL, hf, hr => by
    simp only [RepA] at hA
    subst hA
    simp only [List.zip_nil_right, fills, Option.some.injEq] at hf
    subst hf
    exact ⟨hr, cells, rfl, hL⟩
  | i :: idx, x :: as, us, rq, cs, cells, r, hA, hL, hf, hr => by
    simp only [RepA] at hA
    obtain ⟨u, us', rfl, hV, hA'⟩ := hA
    simp only [List.zip_cons_cons, fills] at hf
    split at hf
    · rename_i off size a hi
      have hcl := hL.length
      have hone : ∀ h : x.one = true, off + x.cells.length ≤ cs.length → RepL κ m (fillAt cs off x.cells) ((u.cells.toList.zipIdx 0).foldl (fun cs (x : Value × Nat) => cs.setIfInBounds (off + x.2) x.1) cells).toList := fun h hl => fillAt_ok hL hV h hl
      by_cases hc : x.one = true ∧ off + x.cells.length ≤ cs.length
      · obtain ⟨k1, cells', k2, k3⟩ := fills_ok hpl hA' (hone hc.1 hc.2) hf hr
        simp only [Bool.and_eq_true, decide_eq_true_eq] at k1
        refine ⟨k1.1.1.1, cells', ?_, k3⟩
        have hX := (hV.cells' hc.1 (hV.ones hc.1)).length
        simp only [List.zip_cons_cons, Instr.fill, hpl _ _ _ _ hi]
        have hsz : u.cells.size = size := by simp at hX; omega
        simp at hcl
        rw [if_neg (by simp [hsz]; omega), ← k2]
        congr 1
        simp only [← Array.foldl_toList, Array.toList_zipIdx]
      · exfalso
        -- the condition fails: then the whole is false
        have : ∀ (l : List (Nat × AV)) (cs : List AV) (r : Bool × List AV), fills fs false cs l = some r → r.1 = false := by
          intro l
          induction l with
          | nil => intro cs r h; simp only [fills, Option.some.injEq] at h; subst h; rfl
          | cons y l ih =>
            intro cs r h
            obtain ⟨j, y⟩ := y
            simp only [fills] at h
            split at h
            · exact ih _ _ (by simpa using h)
            · cases h
        have hb : (rq && x.one && decide (x.cells.length = size) && decide (off + size ≤ cs.length)) = false := by
          apply Bool.eq_false_iff.2
          intro hb
          simp only [Bool.and_eq_true, decide_eq_true_eq] at hb
          exact hc ⟨hb.1.1.2, by omega⟩
        rw [hb] at hf
        have := this _ _ _ hf
        rw [hr] at this
        cases this
    · cases hf

theorem RepCs.length : ∀ {xs : List TV} {us : List Value}, RepCs κ m γ g xs us → us.length = xs.length
  | [], us, h => by simp only [RepCs] at h; simp [h]
  | x :: xs, us, h => by
    obtain ⟨u, us', h1, _, _, h3⟩ := h
    simp [h1, RepCs.length h3]
theorem RepCs.get : ∀ {xs : List TV} {us : List Value}, RepCs κ m γ g xs us → ∀ {j : Nat} {x : TV}, xs[j]? = some x → ∃ u, us[j]? = some u ∧ u.oneCell' = true ∧ RepT0 κ m γ g x u
  | [], us, h, j, x, hx => by simp at hx
  | y :: xs, us, h, j, x, hx => by
    obtain ⟨u, us', h1, h2, h3, h4⟩ := h
    subst h1
    cases j with
    | zero => simp at hx; subst hx; exact ⟨u, by simp, h2, h3⟩
    | succ j => simp at hx; simpa using RepCs.get h4 hx
theorem fillTV_ok {cs new : List TV} {cells : Array Value} {off : Nat} {u : Value} (hL : RepCs κ m γ g cs cells.toList) (hX : RepCs κ m γ g new u.cells.toList) (hle : off + new.length ≤ cs.length) :
    RepCs κ m γ g (fillTV cs off new) ((u.cells.toList.zipIdx 0).foldl (fun cs (x : Value × Nat) => cs.setIfInBounds (off + x.2) x.1) cells).toList := by
  have hXl := hX.length
  have hcl := hL.length
  obtain ⟨k1, k2⟩ := Great.foldl_set off u.cells.toList 0 cells
  refine RepCs.mk (by simp [fillTV, k1]; simp at hcl; omega) fun j y hy => ?_
  simp only [Array.getElem?_toList, k2, Nat.add_zero]
  simp only [fillTV, List.append_assoc] at hy
  by_cases h1 : j < off
  · rw [List.getElem?_append_left (by simp; omega), List.getElem?_take, if_pos h1] at hy
    obtain ⟨v, hv, h3⟩ := hL.get hy
    refine ⟨v, ?_, h3⟩
    rw [if_neg (by omega)]
    simpa using hv
  · rw [List.getElem?_append_right (by simp; omega)] at hy
    by_cases h2 : j < off + new.length
    · rw [List.getElem?_append_left (by simp; omega)] at hy
      obtain ⟨v, hv, h3⟩ := hX.get hy
      refine ⟨v, ?_, h3⟩
      simp at hcl
      rw [if_pos ⟨by omega, by omega, by omega⟩]
      have hj : j - (List.take off cs).length = j - off := by simp; omega
      rw [hj] at hv
      simpa using hv
    · rw [List.getElem?_append_right (by simp; omega), List.getElem?_drop] at hy
      obtain ⟨v, hv, h3⟩ := hL.get hy
      refine ⟨v, ?_, h3⟩
      rw [if_neg (by omega)]
      have hj : off + new.length + (j - (List.take off cs).length - new.length) = j := by simp; omega
      rw [hj] at hv
      simpa using hv
theorem fillsT_false {fs : List (Nat × Nat × Bool)} : ∀ (l : List (Nat × TV)) (cs : List TV) (r : Bool × List TV), fillsT fs false cs l = some r → r.1 = false := by
  intro l
  induction l with
  | nil => intro cs r h; simp only [fillsT, Option.some.injEq] at h; subst h; rfl
  | cons y l ih =>
    intro cs r h
    obtain ⟨j, y⟩ := y
    simp only [fillsT] at h
    split at h
    · exact ih _ _ (by simpa using h)
    · cases h
theorem fillsT_ok {fs : List (Nat × Nat × Bool)} {pl : Nat → Option (Nat × Nat)} (hpl : ∀ i off size a, fs[i]? = some (off, size, a) → pl i = some (off, size)) :
    ∀ {idx : List Nat} {as : List TV} {us : List Value} {rq : Bool} {cs : List TV} {cells : Array Value} {r : Bool × List TV}, RepTs κ m γ g as us → RepCs κ m γ g cs cells.toList → fillsT fs rq cs (idx.zip as) = some r → r.1 = true →
      rq = true ∧ ∃ cells', Instr.fill pl cells (idx.zip us) = some cells' ∧ RepCs κ m γ g r.2 cells'.toList
  | [], as, us, rq, cs, cells, r, hA, hL, hf, hr => by
    simp only [List.zip_nil_left, fillsT, Option.some.injEq] at hf
    subst hf
    exact ⟨hr, cells, rfl, hL⟩
  | i :: idx, [], us, rq, cs, cells, r, hA, hL, hf, hr => by
    simp only [RepTs] at hA
    subst hA
    simp only [List.zip_nil_right, fillsT, Option.some.injEq] at hf
    subst hf
    exact ⟨hr, cells, rfl, hL⟩
  | i :: idx, x :: as, us, rq, cs, cells, r, hA, hL, hf, hr => by
    obtain ⟨u, us', rfl, hV, hA'⟩ := hA
    simp only [List.zip_cons_cons, fillsT] at hf
    split at hf
    · rename_i off size a new hi hcn
      have hcl := hL.length
      by_cases hc : x.one = true ∧ allC new = true ∧ new.length = size ∧ off + size ≤ cs.length
      · obtain ⟨hc1, hc2, hc3, hc4⟩ := hc
        obtain ⟨c1, c2, _⟩ := TVcells_ok hcn hc1 hV
        have hX : RepCs κ m γ g new u.cells.toList := RepCs.mk (by simpa using c1) fun j y hy => by
          obtain ⟨v, hv, ho, h3⟩ := c2 j y hy
          exact ⟨v, by simpa using hv, ho, h3.isC (allC_mem hc2 y (List.mem_of_getElem? hy))⟩
        obtain ⟨k1, cells', k2, k3⟩ := fillsT_ok hpl hA' (fillTV_ok hL hX (by omega)) hf hr
        simp only [Bool.and_eq_true, decide_eq_true_eq] at k1
        refine ⟨k1.1.1.1.1, cells', ?_, k3⟩
        simp only [List.zip_cons_cons, Instr.fill, hpl _ _ _ _ hi]
        have hsz : u.cells.size = size := by omega
        simp at hcl
        rw [if_neg (by simp [hsz]; omega), ← k2]
        congr 1
        simp only [← Array.foldl_toList, Array.toList_zipIdx]
      · exfalso
        have hb : (rq && x.one && allC new && decide (new.length = size) && decide (off + size ≤ cs.length)) = false := by
          apply Bool.eq_false_iff.2
          intro hb
          simp only [Bool.and_eq_true, decide_eq_true_eq] at hb
          exact hc ⟨hb.1.1.1.2, hb.1.1.2, hb.1.2, hb.2⟩
        rw [hb] at hf
        have := fillsT_false _ _ _ hf
        rw [hr] at this
        cases this
    · cases hf
end
end Go.Sy

/- Soundness, part 11: built values and slices, stores into variables. -/
set_option linter.unusedVariables false
namespace Go.Sy
open Go.RowKit

section
variable {κ : Nat → Addr} {m : Mem} {γ : Ga} {g : Gs} {w w0 : World} {Ow : Nat → Prop} {m0 : Mem} {P : Program}

theorem mapM_places : ∀ (l : List Field), (∀ f ∈ l, (P.info? f.type).isSome = true) → l.mapM (fun f => (P.info? f.type).map fun i => (f.offset, i.size)) = some (l.map fun f => (f.offset, P.cellsOf f.type))
  | [], _ => rfl
  | f :: l, h => by
    obtain ⟨i, hi⟩ := Option.isSome_iff_exists.1 (h f (by simp))
    have ih := mapM_places l fun g hg => h g (by simp [hg])
    simp only [List.mapM_cons, Option.bind_eq_bind, Option.pure_def, hi, Option.map_some, Option.bind_some, ih, List.map_cons, Program.cellsOf, Option.getD_some]
theorem zip_parts {α β γ : Type} (ρ : β → γ) : ∀ l : List (α × β), l.map (fun p => (p.1, ρ p.2)) = (l.map (·.1)).zip ((l.map (·.2)).map ρ)
  | [] => rfl
  | p :: l => by simp [zip_parts ρ l]

theorem aBuild_ok {C : Ctx} (hT : ∀ t i, C.T t = some i → tyOf C.P t = some i) {t : TypeId} {idx : List Nat} {xs : List TV} {us : List Value} {parts : Array (Nat × Value)} {e : Eff} (he : aBuild C.T g t idx (some xs) = some e) (hr : e.req = true)
    (hp : parts.toList = idx.zip us) (h : Hp κ Ow m0 w0 g m γ w) (hx : RepTs κ m γ g xs us) : Pure κ Ow m0 w0 g m γ w ((Instr.build t parts).run C.P w) e := by
  unfold aBuild at he
  cases ht : C.T t with
  | none => simp [ht] at he
  | some ty =>
    cases hex : expos g xs with
    | none => simp [ht, hex] at he
    | some p =>
      cases hfl : fills ty.fields p.req (ty.zero.map toAV) (idx.zip p.as) with
      | none => simp [ht, hex, hfl] at he
      | some r =>
        simp [ht, hex, hfl] at he
        subst he
        simp only [Bool.and_eq_true] at hr
        obtain ⟨⟨hr1, hr2⟩, hr3⟩ := hr
        obtain ⟨ti, d, z, h1, h2, h3, h4, h5, h6, h7, h8, _, _, _, _, h9⟩ := tyOf_spec (hT _ _ ht)
        have hd : ∃ fs, d = .struct fs := by
          cases d <;> simp [h8, fieldsD, nonNil] at hr3
          exact ⟨_, rfl⟩
        obtain ⟨fs, rfl⟩ := hd
        have hall : ∀ f ∈ fs.toList, (C.P.info? f.type).isSome = true := by
          simp only [okD, List.all_eq_true, Bool.and_eq_true] at h9
          exact fun f hf => (h9 f hf).1
        have hz := oneVs_mem hr2
        rw [h7] at hz
        have hZ : RepL κ m (ty.zero.map toAV) z.cells.toList := by
          rw [h7]
          refine RepL.mk (by simp) fun j x hj => ?_
          rw [List.getElem?_map] at hj
          cases hc : z.cells.toList[j]? with
          | none => simp [hc] at hj
          | some v =>
            simp [hc] at hj
            subst hj
            exact ⟨v, rfl, hz v (List.mem_of_getElem? hc), toAV_ok v⟩
        have hreq : p.req = true := by
          by_cases hq : p.req = true
          · exact hq
          · exfalso
            have hf : p.req = false := by simpa using hq
            rw [hf] at hfl
            have : ∀ (l : List (Nat × AV)) (cs : List AV) (r : Bool × List AV), fills ty.fields false cs l = some r → r.1 = false := by
              intro l
              induction l with
              | nil => intro cs r h; simp only [fills, Option.some.injEq] at h; subst h; rfl
              | cons y l ih =>
                intro cs r h
                obtain ⟨j, y⟩ := y
                simp only [fills] at h
                split at h
                · exact ih _ _ (by simpa using h)
                · cases h
            have := this _ _ _ hfl
            rw [hr1] at this
            cases this
        obtain ⟨m', hn, hA, _⟩ := expos_ok hex hreq (Fz.refl g) h hx
        obtain ⟨_, cells', k2, k3⟩ := fills_ok (κ := κ) (m := m') (fs := ty.fields) (pl := fun i => (fs.toList.map fun f => (f.offset, C.P.cellsOf f.type)).toArray[i]?) (fun i off size a hi => by
          rw [h8] at hi
          obtain ⟨fs', fl, tf, dd, hfs, f1, f2, f3, f4, _⟩ := fieldsD_get hi h9
          cases hfs
          have : fs.toList[i]? = some fl := by simpa using f1
          simp [f1, f2, Program.cellsOf, f3, f4]) hA (RepL.mono hn.le hZ) hfl hr1
        refine ⟨.agg cells', ?_, m', hn, ?_, rfl⟩
        · refine run_build w t parts cells' ?_
          simp only [Program.built, h1, h2, h3, mapM_places _ hall, hp]
          exact k2
        · simp only [RepT, RepT0, RepV]
          exact ⟨cells', rfl, k3⟩

theorem toTV_isC {v : Value} (h : v.oneCell' = true) : (toTV v).isC = true := by unfold toTV; split <;> first | rfl | exact h
theorem aBuildT_ok {C : Ctx} (hT : ∀ t i, C.T t = some i → tyOf C.P t = some i) {t : TypeId} {idx : List Nat} {xs : List TV} {us : List Value} {parts : Array (Nat × Value)} {e : Eff} (he : aBuildT C.T t idx (some xs) = some e) (hr : e.req = true)
    (hp : parts.toList = idx.zip us) (h : Hp κ Ow m0 w0 g m γ w) (hx : RepTs κ m γ g xs us) : Pure κ Ow m0 w0 g m γ w ((Instr.build t parts).run C.P w) e := by
  unfold aBuildT at he
  cases ht : C.T t with
  | none => simp [ht] at he
  | some ty =>
    cases hfl : fillsT ty.fields true (ty.zero.map toTV) (idx.zip xs) with
    | none => simp [ht, hfl] at he
    | some r =>
      simp [ht, hfl] at he
      subst he
      simp only [Bool.and_eq_true] at hr
      obtain ⟨⟨hr1, hr2⟩, hr3⟩ := hr
      obtain ⟨ti, d, z, h1, h2, h3, h4, h5, h6, h7, h8, _, _, _, _, h9⟩ := tyOf_spec (hT _ _ ht)
      have hd : ∃ fs, d = .struct fs := by
        cases d <;> simp [h8, fieldsD, nonNil] at hr3
        exact ⟨_, rfl⟩
      obtain ⟨fs, rfl⟩ := hd
      have hall : ∀ f ∈ fs.toList, (C.P.info? f.type).isSome = true := by
        simp only [okD, List.all_eq_true, Bool.and_eq_true] at h9
        exact fun f hf => (h9 f hf).1
      have hz := oneVs_mem hr2
      rw [h7] at hz
      have hZ : RepCs κ m γ g (ty.zero.map toTV) z.cells.toList := by
        rw [h7]
        refine RepCs.mk (by simp) fun j x hj => ?_
        rw [List.getElem?_map] at hj
        cases hc : z.cells.toList[j]? with
        | none => simp [hc] at hj
        | some v =>
          simp [hc] at hj
          subst hj
          have ho := hz v (List.mem_of_getElem? hc)
          exact ⟨v, rfl, ho, (toTV_ok (κ := κ) (m := m) (γ := γ) (g := g) v).isC (toTV_isC ho)⟩
      obtain ⟨_, cells', k2, k3⟩ := fillsT_ok (κ := κ) (m := m) (fs := ty.fields) (pl := fun i => (fs.toList.map fun f => (f.offset, C.P.cellsOf f.type)).toArray[i]?) (fun i off size a hi => by
        rw [h8] at hi
        obtain ⟨fs', fl, tf, dd, hfs, f1, f2, f3, f4, _⟩ := fieldsD_get hi h9
        cases hfs
        have : fs.toList[i]? = some fl := by simpa using f1
        simp [f1, f2, Program.cellsOf, f3, f4]) hx hZ hfl hr1
      refine ⟨.agg cells', ?_, m, Nx.refl h [], ?_, rfl⟩
      · refine run_build w t parts cells' ?_
        simp only [Program.built, h1, h2, h3, mapM_places _ hall, hp]
        exact k2
      · refine ⟨cells', rfl, by simpa using k3.length, fun i x hi => ?_⟩
        obtain ⟨v, hv, h5⟩ := k3.get hi
        exact ⟨v, by simpa using hv, h5⟩

theorem RepA.toX {sz : Nat} : ∀ {xs : List AV} {us : List Value}, RepA κ m xs us → allSz sz xs = true → (∀ v ∈ us, v.cells.size = sz) ∧ RepX κ m sz xs (us.flatMap fun v => v.cells.toList)
  | [], us, h, _ => by simp only [RepA] at h; subst h; exact ⟨by simp, rfl⟩
  | x :: xs, us, h, hs => by
    simp only [RepA] at h
    obtain ⟨u, us', rfl, hV, h2⟩ := h
    simp only [allSz, Bool.and_eq_true, decide_eq_true_eq] at hs
    obtain ⟨⟨h3, h4⟩, h5⟩ := hs
    obtain ⟨k1, k2⟩ := h2.toX h5
    have hl := (hV.cells' h3 (hV.ones h3)).length
    have hsz : u.cells.size = sz := by simp at hl; omega
    refine ⟨fun v hv => ?_, u, _, rfl, hV, hsz, hV.ones h3, k2⟩
    rcases List.mem_cons.1 hv with rfl | hv
    · exact hsz
    · exact k1 v hv

/-- A new block, frozen at once. -/
theorem Hp.newFrozen {arr : Array Value} {e : TypeId} (h : Hp κ Ow m0 w0 g m γ w) : Nx κ Ow m0 w0 g m γ w [] g (addRow m w.heap.size arr.toList) γ (w.alloc (.cells arr e)) := by
  have hn := h.cons.new (Nat.le_refl w.heap.size)
  have hle := addRow_le (us := arr.toList) hn
  refine ⟨?_, hle, fun x u _ hr => hr.move hle fun id _ => Cmp.same rfl rfl⟩
  refine h.step (K := fun _ => False) hle (fun b hb => ?_) (fun b o u hu => ?_) (h.frAlloc _) (fun i _ => ⟨rfl, rfl⟩) (fun i o b _ ho hl hb => ?_) (fun i o id _ _ _ => Cmp.same rfl rfl) (fun i o hk => hk.elim) (fun i j o oj b hk => hk.elim)
  · funext o
    have : b ≠ w.heap.size := fun e => hb (e ▸ h.own _ (Nat.le_refl _))
    simp [addRow, this]
  · by_cases hb : b = w.heap.size
    · subst hb
      simp [addRow] at hu
      simp only [World.cell?]
      rw [show (w.alloc (Obj.cells arr e)).heap[w.heap.size]? = some (.cells arr e (0, 0)) from heap_alloc_new w _]
      simpa using hu
    · simp only [addRow, hb, if_false] at hu
      rw [World.cell?_of_block (w := w) (Below.heap_alloc w _ b (h.cons.lt hu))]
      exact h.cons _ _ _ hu
  · have hlt := (h.exc ho hl hb).1
    refine ⟨Below.heap_alloc w _ b hlt, fun o => ?_⟩
    have : b ≠ w.heap.size := by omega
    simp only [addRow, this, if_false]
    exact hb.2.1 o

theorem zip_range : ∀ (us : List Value) (k : Nat), ((List.range' k us.length).zip us) = (us.zipIdx k).map fun x => (x.2, x.1)
  | [], _ => rfl
  | u :: us, k => by simp [List.range'_succ, zip_range us (k + 1)]

theorem aBuildSlice_ok {C : Ctx} (hT : ∀ t i, C.T t = some i → tyOf C.P t = some i) {t : TypeId} {n : Nat} {idx : List Nat} {xs : List TV} {us : List Value} {parts : Array (Nat × Value)} {e : Eff} (he : aBuildSlice C.T g t n idx (some xs) = some e) (hr : e.req = true)
    (hp : parts.toList = idx.zip us) (hil : idx.length = us.length) (h : Hp κ Ow m0 w0 g m γ w) (hx : RepTs κ m γ g xs us) : Res κ Ow m0 w0 g m γ w ((do pure (.value (← Instr.buildSlice t n parts)) : Sem Next).run C.P w) e := by
  unfold aBuildSlice at he
  cases hel : (C.T t).bind (·.elem) with
  | none => simp [hel] at he
  | some e0 =>
    cases ht : C.T e0 with
    | none => simp [hel, ht] at he
    | some te =>
      cases hex : expos g xs with
      | none => simp [hel, ht, hex] at he
      | some p =>
        simp [hel, ht, hex] at he
        subst he
        simp only [Bool.and_eq_true, decide_eq_true_eq] at hr
        obtain ⟨⟨⟨⟨hr1, hr2⟩, hr3⟩, hr4⟩, hr5⟩ := hr
        have h2 := elem_spec hT hel
        obtain ⟨ti, d, z, h1, _, h3, h4, _⟩ := tyOf_spec (hT _ _ ht)
        obtain ⟨m', hn, hA, _⟩ := expos_ok hex hr1 (Fz.refl g) h hx
        obtain ⟨k1, k2⟩ := hA.toX hr5
        have hul : us.length = n := by rw [← hil, hr2]; simp
        have hpl : parts.toList = (us.zipIdx 0).map fun x => (x.2, x.1) := by
          rw [hp, hr2, List.range_eq_range', ← hul, zip_range]
        have hrun : (Instr.buildSlice t n parts).run C.P w = .ok (.slice (some ⟨w.heap.size, 0, none⟩) n n) (w.alloc (.cells (us.flatMap fun v => v.cells.toList).toArray e0)) := by
          rcases Nat.eq_zero_or_pos n with hz | hpos
          · have hus : us = [] := List.eq_nil_of_length_eq_zero (by omega)
            subst hus
            have hpe : parts = #[] := Array.toList_inj.1 (by simpa using hpl)
            subst hpe
            subst hz
            simp [Instr.buildSlice, run_underlying h2, sizeOf, typeInfo, h1, Instr.fill, newRow]
            congr 2
            exact Array.toList_inj.1 (by simp)
          · have hs : 0 < ti.size := by omega
            refine run_buildSlice w t e0 n parts _ ti z h2 h1 h3 (by rw [← h4]; omega) (by have := Nat.mul_pos hpos hs; omega) ?_
            rw [hpl]
            exact Great.fill_whole hs us _ (fun v hv => by rw [k1 v hv, h4]) (by simp [hul])
        have hn2 := hn.hp.newFrozen (arr := (us.flatMap fun v => v.cells.toList).toArray) (e := e0)
        refine ⟨.slice (some ⟨w.heap.size, 0, none⟩) n n, _, _, _, .inl (by simp [hrun]), hn.trans hn2, ?_⟩
        have hlen : p.as.length = n := by rw [← hA.length, hul]
        refine ⟨⟨some ⟨w.heap.size, 0, none⟩, by rw [hlen]⟩, ?_⟩
        simp only [RepV]
        refine ⟨some ⟨w.heap.size, 0, none⟩, n, by rw [hlen], by omega, te.size, w.heap.size, 0, .inr rfl, ?_⟩
        refine (k2.mono hn2.le).toE fun j u hu => ?_
        simp [addRow, hu]

theorem run_storeVar_at {ty : TypeId} {b o : Nat} {t : TypeId} {cur : Array Value} {v : Value} {ti : TypeInfo} (hi : P.info? ty = some ti) (hs : v.cells.size = ti.size) (hb : w.heap[b]? = some (.cells cur t (0, 0))) (hl : o + v.cells.size ≤ cur.size) (h1 : ∀ u ∈ v.cells, u.oneCell' = true) :
    (Instr.storeAt ty (.pointer (some ⟨b, o, none⟩)) v).run P w = .ok () (w.setRow b (cur.toList.take o ++ v.cells.toList ++ cur.toList.drop (o + v.cells.size)).toArray) := by
  have := run_storeCells_at P b o t v.cells.toList 0 cur w hb (by simpa using hl) (fun u hu => h1 u (by simpa using hu))
  simp only [Nat.add_zero, Array.length_toList] at this
  simp [Instr.storeAt, Instr.sureAddr, storeVar, sizeOf, typeInfo, hi, hs, this]

theorem aStoreBox_ok {C : Ctx} (hT : ∀ t i, C.T t = some i → tyOf C.P t = some i) {t : TypeId} {ty : TyI} {id off : Nat} {x : TV} {ua ux : Value} {e : Eff} (ht : C.T t = some ty) (he : aStore ty g (.box id off) x = some e) (hr : e.req = true)
    (h : Hp κ Ow m0 w0 g m γ w) (ha : RepT κ m γ g (.box id off) ua) (hx : RepT κ m γ g x ux) : ∃ w' m' γ', (Instr.storeAt t ua ux).run C.P w = .ok () w' ∧ Nx κ Ow m0 w0 g m γ w e.nw (puts g e.wr) m' γ' w' ∧ e.val = .dead := by
  simp only [aStore] at he
  split at he
  · rename_i cs new hg hc
    cases he
    simp only [Bool.and_eq_true, decide_eq_true_eq] at hr
    obtain ⟨⟨ho, hl⟩, hle⟩ := hr
    obtain ⟨ti, d, z, h1, _, h3, h4, _⟩ := tyOf_spec (hT _ _ ht)
    obtain ⟨k1, k2, _⟩ := TVcells_ok hc ho hx
    obtain ⟨b, hγ, rfl⟩ := ha.2 _ hg rfl
    obtain ⟨b', arr, el, hγ', hOw, hmb, harr, hlen, hcs⟩ := h.objs id _ hg
    rw [hγ] at hγ'
    cases hγ'
    have hone : ∀ u ∈ ux.cells, u.oneCell' = true := by
      intro u hu
      obtain ⟨j, hj, rfl⟩ := Array.mem_iff_getElem.1 hu
      obtain ⟨v, hv, h7, _⟩ := k2 j _ (List.getElem?_eq_getElem (by omega))
      rw [Array.getElem?_eq_getElem hj] at hv
      cases hv
      exact h7
    have hrun := run_storeVar_at (P := C.P) (w := w) (ty := t) (o := off) (v := ux) h1 (by rw [k1, hl, h4]) harr (by omega) hone
    refine ⟨_, m, γ, hrun, ?_, rfl⟩
    have hcmp : Cmp g γ (upd g id (.box (fillTV cs off new))) γ id := by
      intro o' ho'
      rw [upd_same] at ho'
      cases ho'
      exact ⟨_, hg, by simp [lenO], fun _ => ⟨rfl, rfl⟩, by simp [isRow]⟩
    have hcmps : ∀ i, Cmp g γ (upd g id (.box (fillTV cs off new))) γ i := fun i => by
      by_cases hi : i = id
      · subst hi; exact hcmp
      · exact Cmp.same (upd_ne hi) rfl
    refine h.write hg rfl ⟨by simp [hγ, blkOf], hmb, by simp [hγ]⟩ ?_ hcmp ?_
    · refine ⟨b, _, el, hγ, hOw, hmb, setRow_there w b _ arr el (0, 0) harr, ?_, fun j c hj => ?_⟩
      · simp [fillTV]; omega
      · simp only [fillTV, List.append_assoc] at hj
        simp only [List.append_assoc, List.getElem?_toArray]
        by_cases c1 : j < off
        · rw [List.getElem?_append_left (by simp; omega), List.getElem?_take, if_pos c1] at hj
          obtain ⟨u, hu, h7, h8⟩ := hcs j c hj
          refine ⟨u, ?_, h7, h8.move (MLe.refl m) fun i _ => hcmps i⟩
          rw [List.getElem?_append_left (by simp; omega), List.getElem?_take, if_pos c1]
          simpa using hu
        · rw [List.getElem?_append_right (by simp; omega)] at hj
          rw [List.getElem?_append_right (by simp; omega)]
          have e1 : j - (List.take off cs).length = j - off := by simp; omega
          have e2 : j - (List.take off arr.toList).length = j - off := by simp; omega
          rw [e1] at hj
          rw [e2]
          by_cases c2 : j - off < new.length
          · rw [List.getElem?_append_left c2] at hj
            obtain ⟨u, hu, h7, h8⟩ := k2 _ c hj
            refine ⟨u, ?_, h7, h8.move (MLe.refl m) fun i _ => hcmps i⟩
            rw [List.getElem?_append_left (by simp; omega)]
            simpa using hu
          · rw [List.getElem?_append_right (by omega), List.getElem?_drop] at hj
            obtain ⟨u, hu, h7, h8⟩ := hcs _ c hj
            refine ⟨u, ?_, h7, h8.move (MLe.refl m) fun i _ => hcmps i⟩
            rw [List.getElem?_append_right (by simp; omega), List.getElem?_drop]
            simp only [Array.length_toList, k1]
            simpa using hu
    · intro b' _ hb'
      have := hb'.1
      simp [hγ, blkOf] at this
      exact this.symm
  · cases he
end
end Go.Sy

/- Soundness, part 12: append. -/
set_option linter.unusedVariables false
namespace Go.Sy
open Go.RowKit

section
variable {κ : Nat → Addr} {m : Mem} {γ : Ga} {g : Gs} {w w0 : World} {Ow : Nat → Prop} {m0 : Mem} {P : Program}

theorem RepE.toX {sz b o : Nat} : ∀ {xs : List AV}, RepE κ m sz b o xs → ∃ us, RepX κ m sz xs us ∧ ∀ (j : Nat) u, us[j]? = some u → m b (o + j) = some u := fun h => h.cells

/-- What is appended: cells that can be read. -/
theorem asList_ok {sz : Nat} {y : TV} {v : Value} {rq : Bool} {ys : List AV} {rd : List Nat} (he : asList g y = some (rq, ys, rd)) (hr : rq = true) (hs : allSz sz ys = true)
    (h : Hp κ Ow m0 w0 g m γ w) (hy : RepT κ m γ g y v) : ∃ a c, v = .slice a ys.length c ∧ (ys = [] ∨ ∃ b o news, a = some ⟨b, o, none⟩ ∧ RepX κ m sz ys news ∧ ∀ (j : Nat) u, news[j]? = some u → w.cell? ⟨b, o + j, none⟩ = some u) := by
  have sl : RepV κ m (.sl ys) v → ∃ a c, v = .slice a ys.length c ∧ (ys = [] ∨ ∃ b o news, a = some ⟨b, o, none⟩ ∧ RepX κ m sz ys news ∧ ∀ (j : Nat) u, news[j]? = some u → w.cell? ⟨b, o + j, none⟩ = some u) := by
    intro hV
    simp only [RepV] at hV
    obtain ⟨a, c, hu, hlc, sz', b, o, ha, hE⟩ := hV
    refine ⟨a, c, hu, ?_⟩
    cases ys with
    | nil => exact .inl rfl
    | cons y ys =>
      right
      simp only [allSz, Bool.and_eq_true, decide_eq_true_eq] at hs
      have := hE.size hs.1.1
      rw [hs.1.2] at this
      subst this
      obtain ⟨us, k1, k2⟩ := hE.toX
      exact ⟨b, o, us, ha.resolve_left (by simp), k1, fun j u hu => h.cons _ _ _ (k2 j u hu)⟩
  unfold asList at he
  split at he
  · cases he; exact sl hy
  · cases he; exact sl hy.2
  · cases he
    have hy' : v = _ := hy
    exact ⟨_, _, hy', .inl rfl⟩
  · rename_i id n
    split at he
    · rename_i ex e sz' xs hg
      cases he
      have hn : ys.length = n := by simpa using hr
      have hu := (hy.2 _ _ hg rfl).2 hn.symm
      rcases h.objs id _ hg with ⟨us, b, cap, h5, h0, ⟨h1, h2⟩, h3, h12, h13⟩ | ⟨h1, a, h2⟩ | ⟨h1, h4, h5, b, o, h2, h3⟩
      · rcases h2 with ⟨h6, _⟩ | ⟨b2, cap2, cur, h6, _, h7, h8, h9, h10, h11⟩
        · rw [h5] at h6; cases h6
        · rw [h5] at h6; cases h6
          refine ⟨_, cap, hu.trans h5, ?_⟩
          cases ys with
          | nil => exact .inl rfl
          | cons y ys =>
            right
            simp only [allSz, Bool.and_eq_true, decide_eq_true_eq] at hs
            have hsz : sz' = sz := by
              obtain ⟨z, us', _, r2, r3, r4, _⟩ := h3
              have := (r2.cells' hs.1.1 r4).length
              simp at this
              omega
            subst hsz
            refine ⟨b, 0, us, rfl, h3, fun j u hj => ?_⟩
            rw [← h11, List.getElem?_take] at hj
            split at hj
            · simp only [Nat.zero_add, World.cell?, h7]; simpa using hj
            · cases hj
      · subst h1
        exact ⟨a, 0, hu.trans h2, .inl rfl⟩
      · exact sl (by
          rw [hu, h2]
          simp only [RepV]
          exact ⟨some ⟨b, o, none⟩, _, rfl, Nat.le_refl _, sz', b, o, .inr rfl, h3⟩)
    · rename_i xs hg
      cases he
      exact sl (h.frow hg (by simpa using hr) hy)
    · cases he
  · cases he

/-- Growing: the row gets a block of its own. -/
theorem grow_ok {t ty e : TypeId} {i : TypeInfo} {z : Value} (ht : P.underlying t = some (.slice e)) (hi : P.info? e = some i) (hz : i.zero = some z) (hzs : z.cells.size = i.size)
    {xs ys : List AV} {a : Option Addr} {olds news : List Value} {b o c c0 : Nat} (ha : a = none → xs = [] ∧ c0 = 0) (hX : RepX κ m i.size xs olds) (hold : ∀ p, a = some p → ∀ (j : Nat) u, olds[j]? = some u → w.cell? (p.add j) = some u)
    (hY : RepX κ m i.size ys news) (hnew : ∀ (j : Nat) u, news[j]? = some u → w.cell? ⟨b, o + j, none⟩ = some u) (hc0 : c0 < xs.length + ys.length) (h63 : xs.length + ys.length ≤ 140737488355328) (hby : (xs.length + ys.length) * i.bytes ≤ 140737488355328) :
    ∃ u' arr, (Builtin.append_ #[t, t] ty #[.slice a xs.length c0, .slice (some ⟨b, o, none⟩) ys.length c]).run P w = .ok u' (w.drew.alloc (.cells arr e)) ∧
      ∃ cap, u' = .slice (some ⟨w.heap.size, 0, none⟩) (xs ++ ys).length cap ∧ 0 < cap ∧ (w.drew.alloc (.cells arr e)).ownsRow 0 e i.size u' (xs ++ ys).length (olds ++ news) := by
  have hol := hX.length
  have hnl := hY.length
  have hlen : (olds ++ news).length = (xs ++ ys).length * i.size := by simp [hol, hnl, Nat.add_mul]
  have key : ∀ cap, cap = grownCap w (xs.length + ys.length) c0 e →
      (w.drew.alloc (.cells (olds.toArray ++ news.toArray ++ Builtin.zeroCells z.cells (cap - (xs.length + ys.length))) e)).ownsRow 0 e i.size (.slice (some ⟨w.heap.size, 0, none⟩) (xs ++ ys).length cap) (xs ++ ys).length (olds ++ news) ∧ 0 < cap := by
    intro cap hcap
    have hge := grownCap_ge w (xs.length + ys.length) c0 e
    have hle := grownCap_le_maxLen w (xs.length + ys.length) c0 e (by simp only [maxLen]; omega)
    rw [← hcap] at hge hle
    refine ⟨⟨hlen, .inr ⟨w.heap.size, cap, _, rfl, Nat.zero_le _, heap_alloc_new w.drew _, by simp; omega, hle, ?_, ?_⟩⟩, by omega⟩
    · simp only [Array.size_append, List.size_toArray, size_zeroCells, hzs, hol, hnl]
      rw [← Nat.add_mul, ← Nat.add_mul]
      congr 1
      omega
    · simp only [Array.toList_append]
      rw [List.take_append_of_le_length (by simp only [List.length_append]; simpa using Nat.le_of_eq hlen.symm), List.take_of_length_le (by simpa using Nat.le_of_eq hlen)]
  cases a with
  | none =>
    obtain ⟨hxs, hc⟩ := ha rfl
    subst hxs hc
    simp only [RepX] at hX
    subst hX
    have hrun := run_append_nil (P := P) w t ty e i z ht hi hz ⟨b, o, none⟩ ys.length c news hnl (fun j v hv => by rw [addr_add]; exact hnew j v hv) (by simpa using hc0) (by omega) (by simp at hby; omega)
    obtain ⟨k1, k2⟩ := key _ rfl
    simp only [List.length_nil, Nat.zero_add, List.nil_append] at k1 k2 ⊢
    refine ⟨_, _, hrun, _, rfl, k2, ?_⟩
    simpa using k1
  | some p =>
    have hrun := run_append_grow (P := P) w t ty e i z ht hi hz p xs.length c0 olds hol (hold p rfl) ⟨b, o, none⟩ ys.length c news hnl (fun j v hv => by rw [addr_add]; exact hnew j v hv) hc0 (by omega) (growslice_fits (by omega) hby)
    obtain ⟨k1, k2⟩ := key _ rfl
    refine ⟨_, _, hrun, _, by simp, k2, ?_⟩
    simpa using k1

theorem append_nothing {t ty e : TypeId} {i : TypeInfo} (ht : P.underlying t = some (.slice e)) (hi : P.info? e = some i) {a b : Option Addr} {n c c' : Nat} (hn : n ≤ c) :
    (Builtin.append_ #[t, t] ty #[.slice a n c, .slice b 0 c']).run P w = .ok (.slice a n c) w := by
  refine run_append_nothing w t t ty e i ht hi a n c hn _ ⟨.inl ⟨e, ht⟩, fun w' => by simp [Builtin.lenOf], ?_, ?_, by simp, by simp⟩ <;> cases b <;> simp [Builtin.firstCells, loadCells, loadCellsFrom]

theorem upd_self {id : Nat} {o : SObj} (h : g id = some o) : upd g id o = g := by
  funext i
  by_cases hi : i = id
  · subst hi; rw [upd_same, h]
  · exact upd_ne hi

/-- A row that has grown is a row. -/
theorem OwnRow.grown {ex : Bool} {e : TypeId} {sz : Nat} {xs ys : List AV} {olds news : List Value} {u' : Value} {b cap : Nat} {w' : World} (hu : u' = .slice (some ⟨b, 0, none⟩) (xs ++ ys).length cap) (hc : 0 < cap)
    (ho : w'.ownsRow 0 e sz u' (xs ++ ys).length (olds ++ news)) (hX : RepX κ m sz xs olds) (hY : RepX κ m sz ys news) (hO : Ow b) (hm : ∀ o, m b o = none) : OwnRow κ m w' Ow ex e sz (xs ++ ys) u' :=
  .inl ⟨olds ++ news, b, cap, hu, hc, ho, hX.append hY, hO, hm⟩

theorem aAppend_ok {C : Ctx} (hT : ∀ t i, C.T t = some i → tyOf C.P t = some i) {t type : TypeId} {own : Nat} {x y : TV} {u v : Value} {e : Eff} (he : aAppend C.T t g own x y = some e) (hr : e.req = true)
    (h : Hp κ Ow m0 w0 g m γ w) (hf : ∀ i ∈ e.nw, Fresh g i) (hx : RepT κ m γ g x u) (hy : RepT κ m γ g y v) : Res κ Ow m0 w0 g m γ w ((do pure (.value (← Builtin.append_ #[t, t] type #[u, v])) : Sem Next).run C.P w) e := by
  unfold aAppend at he
  cases hel : (C.T t).bind (·.elem) with
  | none => simp [hel] at he
  | some e0 =>
    simp only [hel] at he
    split at he
    · rename_i te rq ys rd hte has
      have h2 := elem_spec hT hel
      obtain ⟨ti, d, z, h1, _, h3, h4, h5, _, h7, _⟩ := tyOf_spec (hT _ _ hte)
      split at he
      · -- a row of its own
        rename_i id n
        split at he
        · rename_i ex e' sz xs hg
          cases he
          simp only [Bool.and_eq_true, decide_eq_true_eq] at hr
          obtain ⟨⟨⟨⟨⟨⟨⟨⟨⟨hrq, hn⟩, rfl⟩, hsz⟩, hzl⟩, hpos⟩, hall⟩, hby⟩, h63⟩, _⟩ := hr
          have hsz' : sz = ti.size := by rw [hsz, h4]
          have hzs : z.cells.size = ti.size := by rw [← h4, ← hzl, h7]; simp
          subst hsz'
          have hu := (hx.2 _ _ hg rfl).2 hn.symm
          subst hn
          obtain ⟨a', c', rfl, hys⟩ := asList_ok has hrq hall h hy
          have hO := h.objs id _ hg
          have hcmp : ∀ u', ys ≠ [] → Cmp g γ (upd g id (.row ex e' ti.size (xs ++ ys))) (updA γ id u') id := by
            intro u' hne o' ho'
            rw [upd_same] at ho'
            cases ho'
            refine ⟨_, hg, fun l' hl => ⟨xs.length, rfl, ?_, fun hh => ?_⟩, by simp [isBox], fun _ => rfl⟩
            · simp [lenO] at hl; omega
            · exfalso
              simp [lenO] at hl
              have : ys.length = 0 := by omega
              exact hne (List.eq_nil_of_length_eq_zero this)
          have hval : ∀ u' (γ' : Ga), (∃ a c, u' = .slice a (xs.length + ys.length) c) → γ' id = u' → RepW γ' (upd g id (.row ex e' ti.size (xs ++ ys))) id (xs.length + ys.length) u' := by
            intro u' γ' hsl hγ'
            refine ⟨hsl, fun o l ho hl => ?_⟩
            rw [upd_same] at ho
            cases ho
            simp [lenO] at hl
            exact ⟨by omega, fun _ => hγ'.symm⟩
          by_cases hyn : ys = []
          · -- nothing is appended
            subst hyn
            have hrun : (Builtin.append_ #[t, t] type #[u, .slice a' ([] : List AV).length c']).run C.P w = .ok u w := by
              have : ∃ a c, u = .slice a xs.length c ∧ xs.length ≤ c := by
                rw [hu]
                rcases hO with ⟨us, b, cap, k5, k0, ⟨k1, k2⟩, _⟩ | ⟨rfl, a, k2⟩ | ⟨_, _, _, b, o, k2, _⟩
                · rcases k2 with ⟨k6, _⟩ | ⟨b2, cap2, cur, k6, _, k7, k8, _⟩
                  · rw [k5] at k6; cases k6
                  · exact ⟨_, _, k6, k8⟩
                · exact ⟨a, 0, k2, by simp⟩
                · exact ⟨_, _, k2, Nat.le_refl _⟩
              obtain ⟨a, c, rfl, hc⟩ := this
              exact append_nothing h2 h1 hc
            refine ⟨u, w, m, γ, .inl (by rw [Sem.run_bind, hrun]; rfl), ?_, ?_⟩
            · simp only [List.append_nil, puts, upd_self hg]
              exact Nx.refl h []
            · simp only [List.append_nil, puts, upd_self hg, List.length_nil, Nat.add_zero]
              exact hx
          · obtain ⟨b, o, news, rfl, hY, hnews⟩ := hys.resolve_left hyn
            have hyl : 0 < ys.length := by cases ys with | nil => exact absurd rfl hyn | cons y ys => simp
            have grown : ∀ {rq' : Bool} {a : Option Addr} {c0 : Nat} {olds : List Value}, γ id = .slice a xs.length c0 → (a = none → xs = [] ∧ c0 = 0) → RepX κ m ti.size xs olds → (∀ p, a = some p → ∀ (j : Nat) u, olds[j]? = some u → w.cell? (p.add j) = some u) → c0 < xs.length + ys.length →
                Res κ Ow m0 w0 g m γ w ((do pure (.value (← Builtin.append_ #[t, t] type #[u, .slice (some ⟨b, o, none⟩) ys.length c'])) : Sem Next).run C.P w) { req := rq', val := .row id (xs.length + ys.length), wr := [(id, .row ex e' ti.size (xs ++ ys))], rd := id :: rd, nw := [] } := by
              intro rq' a c0 olds hγ ha hX hold hc0
              obtain ⟨u', arr, hrun, cap, hu', hcap, hown⟩ := grow_ok (w := w) (ty := type) (c := c') (a := a) h2 h1 h3 hzs ha hX hold hY hnews hc0 h63 (by rw [← h5]; exact hby)
              rw [hu, hγ]
              refine ⟨u', _, m, _, .inl (by rw [Sem.run_bind, hrun]; rfl), h.turn (u' := u') hg ?_ ?_ ?_ (hcmp u' hyn) ?_, hval u' _ ⟨some ⟨w.heap.size, 0, none⟩, cap, by rw [hu']; simp⟩ (updA_same _ _ _)⟩
              · intro k hk _
                exact Below.heap_alloc w.drew _ k hk
              · exact ⟨rfl, rfl, rfl, by simp, fun k hk => Below.heap_alloc w.drew _ k (Nat.lt_of_not_le fun hl => hk (h.own k hl))⟩
              · simp only [RepO, updA_same]
                exact OwnRow.grown hu' hcap hown hX hY (h.own _ (Nat.le_refl _)) (h.cons.new (Nat.le_refl _))
              · intro b' _ hb'
                left
                have := hb'.1
                rw [hu'] at this
                simp [blkOf] at this
                omega
            rcases hO with ⟨us, b1, cap, k5, k0, ⟨k1, k2⟩, k3, k12, k13⟩ | ⟨hxe, a, k2⟩ | ⟨k1, k4, k5, b1, o1, k2, k3⟩
            · rcases k2 with ⟨k6, _⟩ | ⟨b2, cap2, cur, k6, _, k7, k8, k9, k10, k11⟩
              · rw [k5] at k6; cases k6
              · rw [k5] at k6
                cases k6
                by_cases hroom : xs.length + ys.length ≤ cap
                · have hnl := hY.length
                  have hfit : xs.length * ti.size + news.length ≤ cur.size := by
                    rw [hnl, k10, ← Nat.add_mul]
                    exact Nat.mul_le_mul_right _ hroom
                  have hrun := run_append_room (P := C.P) w t type e' ti h2 h1 b1 xs.length cap cur k7 ⟨b, o, none⟩ ys.length c' news hnl (fun j v hv => by rw [addr_add]; exact hnews j v hv) hY.one hroom hfit
                  rw [hu, k5]
                  have hex : Exc m (γ id) b1 := ⟨by simp [k5, blkOf], k13, by rw [k5]; intro a l he; cases he; omega⟩
                  refine ⟨_, _, m, _, .inl (by rw [Sem.run_bind, hrun]; rfl), h.turn (u' := .slice (some ⟨b1, 0, none⟩) (xs.length + ys.length) cap) hg ?_ ?_ ?_ (hcmp _ hyn) ?_, hval _ _ ⟨_, cap, rfl⟩ (updA_same _ _ _)⟩
                  · intro k hk hne
                    exact setRow_other w b1 _ fun e => hne ⟨rfl, e ▸ hex⟩
                  · exact ⟨rfl, rfl, rfl, by simp [setRow_size], fun k hk => setRow_other w b1 _ fun e => hk (e ▸ k12)⟩
                  · simp only [RepO, updA_same]
                    refine OwnRow.grown (cap := cap) (by simp) k0 ?_ k3 hY k12 k13
                    refine ⟨by simp [k1, hnl, Nat.add_mul], .inr ⟨b1, cap, _, by simp, Nat.zero_le _, setRow_there w b1 _ cur e' (0, 0) k7, by simpa using hroom, k9, ?_, ?_⟩⟩
                    · simp; omega
                    · simp only [k11]
                      rw [List.take_append_of_le_length (by simp [k1, hnl, Nat.add_mul]), List.take_of_length_le (by simp [k1, hnl, Nat.add_mul])]
                  · intro b' _ hb'
                    right
                    have := hb'.1
                    simp [blkOf] at this
                    subst this
                    exact ⟨rfl, hex⟩
                · refine grown k5 (by simp) k3 (fun p hp j u hj => ?_) (by omega)
                  cases hp
                  rw [addr_add, Nat.zero_add]
                  rw [← k11, List.getElem?_take] at hj
                  split at hj
                  · simp only [World.cell?, k7]; simpa using hj
                  · cases hj
            · subst hxe
              exact grown (olds := []) k2 (fun _ => ⟨rfl, rfl⟩) rfl (by simp) (by simpa using hyl)
            · obtain ⟨olds, q1, q2⟩ := k3.toX
              refine grown k2 (by simp) q1 (fun p hp j u hj => ?_) (by omega)
              cases hp
              rw [addr_add]
              exact h.cons _ _ _ (q2 j u hj)
        · cases he
      · rename_i xs
        cases he
        simp only [Bool.and_eq_true, decide_eq_true_eq] at hr
        obtain ⟨⟨⟨⟨⟨⟨hrq, hzl⟩, hpos⟩, hax⟩, hall⟩, hby⟩, h63⟩ := hr
        have hsz' := h4
        have hzs : z.cells.size = ti.size := by rw [← h4, ← hzl, h7]; simp
        rw [h4] at hpos hax hall
        obtain ⟨a', c', rfl, hys⟩ := asList_ok has hrq hall h hy
        obtain ⟨⟨a, rfl⟩, hV⟩ := hx
        have hFr := hf own (by simp)
        have hval : ∀ u' (γ' : Ga), (∃ a c, u' = .slice a (xs.length + ys.length) c) → γ' own = u' → RepW γ' (upd g own (.row (emptyL xs) e0 te.size (xs ++ ys))) own (xs.length + ys.length) u' := by
          intro u' γ' hsl hγ'
          refine ⟨hsl, fun o l ho hl => ?_⟩
          rw [upd_same] at ho
          cases ho
          simp [lenO] at hl
          exact ⟨by omega, fun _ => hγ'.symm⟩
        have hcase : (xs = []) ∨ (xs ≠ [] ∧ ∃ b1 o1, a = some ⟨b1, o1, none⟩ ∧ RepE κ m ti.size b1 o1 xs) := by
          simp only [RepV] at hV
          obtain ⟨a0, c0, hu, hlc, sz, b1, o1, ha0, hE⟩ := hV
          cases hu
          cases xs with
          | nil => exact .inl rfl
          | cons x xs =>
            right
            simp only [allSz, Bool.and_eq_true, decide_eq_true_eq] at hax
            have := hE.size hax.1.1
            rw [hax.1.2] at this
            subst this
            exact ⟨by simp, b1, o1, ha0.resolve_left (by simp), hE⟩
        by_cases hyn : ys = []
        · subst hyn
          have hrun := append_nothing (P := C.P) (w := w) (ty := type) (a := a) (b := a') (c' := c') h2 h1 (Nat.le_refl xs.length)
          refine ⟨_, w, m, _, .inl (by rw [Sem.run_bind]; simp only [List.length_nil]; rw [hrun]; rfl), h.newObj (u := .slice a xs.length xs.length) hFr (Fr.refl _ _) (fun _ _ => rfl) ?_ ?_, hval _ _ ⟨a, _, rfl⟩ (updA_same _ _ _)⟩
          · simp only [RepO, updA_same, List.append_nil]
            rcases hcase with rfl | ⟨q1, b1, o1, rfl, q2⟩
            · exact .inr (.inl ⟨rfl, a, rfl⟩)
            · exact .inr (.inr ⟨by cases xs with | nil => exact absurd rfl q1 | cons x xs => rfl, by omega, q1, b1, o1, rfl, by rw [h4]; exact q2⟩)
          · intro b' _ hb'
            exfalso
            rcases hcase with rfl | ⟨q1, b1, o1, rfl, q2⟩
            · exact hb'.2.2 a 0 rfl
            · have := hb'.1
              simp [blkOf] at this
              subst this
              cases xs with
              | nil => exact q1 rfl
              | cons x xs =>
                simp only [RepE] at q2
                obtain ⟨⟨y, _, r8, _, r9⟩, _⟩ := q2
                have := r9 0 _ (Array.getElem?_eq_getElem (by omega))
                rw [hb'.2.1] at this
                cases this
        · obtain ⟨b, o, news, rfl, hY, hnews⟩ := hys.resolve_left hyn
          have hyl : 0 < ys.length := by cases ys with | nil => exact absurd rfl hyn | cons y ys => simp
          have hX : ∃ olds, RepX κ m ti.size xs olds ∧ (a = none → xs = [] ∧ xs.length = 0) ∧ ∀ p, a = some p → ∀ (j : Nat) u, olds[j]? = some u → w.cell? (p.add j) = some u := by
            rcases hcase with rfl | ⟨q1, b1, o1, rfl, q2⟩
            · exact ⟨[], rfl, fun _ => ⟨rfl, rfl⟩, by simp⟩
            · obtain ⟨olds, r1, r2⟩ := q2.toX
              refine ⟨olds, r1, by simp, fun p hp j u hj => ?_⟩
              cases hp
              rw [addr_add]
              exact h.cons _ _ _ (r2 j u hj)
          obtain ⟨olds, hX, ha, hold⟩ := hX
          obtain ⟨u', arr, hrun, cap, hu', hcap, hown⟩ := grow_ok (w := w) (ty := type) (c := c') (a := a) (c0 := xs.length) h2 h1 h3 hzs ha hX hold hY hnews (by omega) h63 (by rw [← h5]; exact hby)
          refine ⟨u', _, m, _, .inl (by rw [Sem.run_bind, hrun]; rfl), h.newObj (u := u') hFr ?_ (fun k hk => Below.heap_alloc w.drew _ k hk) ?_ ?_, hval u' _ ⟨some ⟨w.heap.size, 0, none⟩, cap, by rw [hu']; simp⟩ (updA_same _ _ _)⟩
          · exact ⟨rfl, rfl, rfl, by simp, fun k hk => Below.heap_alloc w.drew _ k (Nat.lt_of_not_le fun hl => hk (h.own k hl))⟩
          · simp only [RepO, updA_same]
            rw [h4]
            exact OwnRow.grown hu' hcap hown hX hY (h.own _ (Nat.le_refl _)) (h.cons.new (Nat.le_refl _))
          · intro b' _ hb'
            have := hb'.1
            rw [hu'] at this
            simp [blkOf] at this
            omega
      · cases he
    · cases he
end
end Go.Sy

/- Soundness, part 13: stores into elements. -/
set_option linter.unusedVariables false
namespace Go.Sy
open Go.RowKit

section
variable {κ : Nat → Addr} {m : Mem} {γ : Ga} {g : Gs} {w w0 : World} {Ow : Nat → Prop} {m0 : Mem} {P : Program}

theorem RepX.mk {sz : Nat} : ∀ {xs : List AV} {us : List Value}, us.length = xs.length * sz → (∀ (j : Nat) (x : AV), xs[j]? = some x → ∃ y, RepV κ m x y ∧ y.cells.size = sz ∧ (∀ v ∈ y.cells, v.oneCell' = true) ∧ ∀ (k : Nat) v, y.cells[k]? = some v → us[j * sz + k]? = some v) → RepX κ m sz xs us
  | [], us, hl, _ => by simp only [RepX]; simpa using hl
  | x :: xs, us, hl, hp => by
    obtain ⟨y, h1, h2, h3, h4⟩ := hp 0 x (by simp)
    have hl' : us.length = sz + xs.length * sz := by rw [hl, List.length_cons, Nat.succ_mul, Nat.add_comm]
    refine ⟨y, us.drop sz, ?_, h1, h2, h3, RepX.mk (by simp; omega) fun j z hz => ?_⟩
    · apply List.ext_getElem?
      intro q
      by_cases hq : q < sz
      · have hq' : q < y.cells.size := by omega
        have := h4 q _ (Array.getElem?_eq_getElem hq')
        rw [Nat.zero_mul, Nat.zero_add] at this
        rw [this, List.getElem?_append_left (by simpa using hq')]
        simp
      · rw [List.getElem?_append_right (by simp [h2]; omega), List.getElem?_drop]
        congr 1
        simp [h2]; omega
    · obtain ⟨y2, k1, k2, k3, k4⟩ := hp (j + 1) z (by simpa using hz)
      refine ⟨y2, k1, k2, k3, fun k v hv => ?_⟩
      rw [List.getElem?_drop, ← k4 k v hv, Nat.succ_mul]
      congr 1
      omega

theorem puts_other : ∀ {ws : List (Nat × SObj)} {g : Gs} {id : Nat}, id ∉ ws.map (·.1) → puts g ws id = g id
  | [], g, id, _ => rfl
  | (i, o) :: r, g, id, h => by
    simp only [List.map_cons, List.mem_cons, not_or] at h
    rw [puts, puts_other h.2, upd_ne h.1]
theorem exposC_wr : ∀ {xs : List TV} {p : Expos}, exposC g xs = some p → ∀ i ∈ p.w.map (·.1), i ∈ p.r
  | [], p, h, i, hi => by cases h; simp at hi
  | x :: xs, p, h, i, hi => by
    simp only [exposC] at h
    split at h
    · rename_i p1 p2 h1 h2
      cases h
      simp only [List.map_append, List.mem_append] at hi ⊢
      rcases hi with hi | hi
      · left
        cases x <;> simp only [expoC] at h1 <;> first | (cases h1; done) | (cases h1; simp at hi; done) | (split at h1 <;> cases h1 <;> simp_all)
      · exact .inr (exposC_wr h2 i hi)
    · cases h
theorem expo_wr {x : TV} {p : Expo} (h : expo g x = some p) : ∀ i ∈ p.w.map (·.1), i ∈ p.r := by
  unfold expo at h
  split at h
  · cases h; simp
  · cases h; simp
  · split at h <;> cases h <;> simp
  · split at h
    · split at h <;> cases h
      simp
    · cases h; simp
    · cases h
  · split at h
    · rename_i q hq
      cases h
      exact exposC_wr hq
    · cases h
  · cases h

theorem putCells_ok {x : AV} {y : Value} {off : Nat} {new : List AV} {news : List Value} (hV : RepV κ m x y) (ho : x.one = true) (hN : RepL κ m new news) (hle : off + new.length ≤ x.cells.length) :
    ∃ y', RepV κ m (putCells x off new) y' ∧ y'.cells.size = y.cells.size ∧ (∀ v ∈ y'.cells, v.oneCell' = true) ∧ ∀ k, y'.cells[k]? = if off ≤ k ∧ k < off + new.length then news[k - off]? else y.cells[k]? := by
  have hnl := hN.length
  have hL := hV.cells' ho (hV.ones ho)
  have hcl := hL.length
  cases x with
  | agg cs =>
    simp only [RepV] at hV
    obtain ⟨vs, rfl, hvs⟩ := hV
    simp only [AV.cells, Value.cells] at *
    refine ⟨.agg (vs.toList.take off ++ news ++ vs.toList.drop (off + news.length)).toArray, ?_, ?_, ?_, ?_⟩
    · simp only [putCells, RepV]
      refine ⟨_, rfl, RepL.mk (by simp [fillAt]; simp at hcl; omega) fun j a hj => ?_⟩
      simp only [fillAt, List.append_assoc] at hj ⊢
      simp at hcl
      by_cases c1 : j < off
      · rw [List.getElem?_append_left (by simp; omega), List.getElem?_take, if_pos c1] at hj
        obtain ⟨u, hu, h7⟩ := hvs.get hj
        exact ⟨u, by rw [List.getElem?_append_left (by simp; omega), List.getElem?_take, if_pos c1]; exact hu, h7⟩
      · rw [List.getElem?_append_right (by simp; omega)] at hj
        have e1 : j - (List.take off cs).length = j - off := by simp; omega
        have e2 : j - (List.take off vs.toList).length = j - off := by simp; omega
        rw [e1] at hj
        rw [List.getElem?_append_right (by simp; omega), e2]
        by_cases c2 : j - off < new.length
        · rw [List.getElem?_append_left c2] at hj
          obtain ⟨u, hu, h7⟩ := hN.get hj
          exact ⟨u, by rw [List.getElem?_append_left (by omega)]; exact hu, h7⟩
        · rw [List.getElem?_append_right (by omega), List.getElem?_drop] at hj
          obtain ⟨u, hu, h7⟩ := hvs.get hj
          exact ⟨u, by rw [List.getElem?_append_right (by omega), List.getElem?_drop, hnl]; exact hu, h7⟩
    · simp [Value.cells]; simp at hcl; omega
    · intro v hv
      simp only [Value.cells, List.mem_toArray, List.mem_append] at hv
      rcases hv with (hv | hv) | hv
      · exact hvs.one v (List.mem_of_mem_take hv)
      · exact hN.one v hv
      · exact hvs.one v (List.mem_of_mem_drop hv)
    · intro k
      simp only [Value.cells, List.append_assoc, List.getElem?_toArray]
      simp at hcl
      by_cases c1 : k < off
      · rw [if_neg (by omega), List.getElem?_append_left (by simp; omega), List.getElem?_take, if_pos c1]
        simp
      · have e2 : k - (List.take off vs.toList).length = k - off := by simp; omega
        rw [List.getElem?_append_right (by simp; omega), e2]
        by_cases c2 : k < off + new.length
        · rw [if_pos ⟨by omega, c2⟩, List.getElem?_append_left (by omega)]
        · rw [if_neg (by omega), List.getElem?_append_right (by omega), List.getElem?_drop]
          simp only [Array.getElem?_toList]
          congr 1
          omega
  | _ =>
    simp only [AV.cells, List.length_cons, List.length_nil] at hle hcl
    cases new with
    | nil =>
      refine ⟨y, by simpa [putCells] using hV, rfl, hV.ones ho, fun k => ?_⟩
      rw [if_neg (by simp)]
    | cons c new =>
      have hn0 : new = [] := List.eq_nil_of_length_eq_zero (by simp at hle; omega)
      have ho0 : off = 0 := by simp at hle; omega
      subst hn0 ho0
      obtain ⟨v, us', rfl, h5, h6, h7⟩ := hN
      cases h7
      have hv : v.cells = #[v] := by cases v <;> first | rfl | (simp [Value.oneCell'] at h5)
      refine ⟨v, by simpa [putCells] using h6, ?_, ?_, fun k => ?_⟩
      · rw [hv]; simp at hcl ⊢; omega
      · rw [hv]; simpa using h5
      · rw [hv]
        simp at hcl
        by_cases hk : k = 0
        · subst hk; simp
        · rw [if_neg (by simp; omega)]
          rw [Array.getElem?_eq_none (by simp; omega), Array.getElem?_eq_none (by omega)]

theorem aStoreElem_ok {C : Ctx} (hT : ∀ t i, C.T t = some i → tyOf C.P t = some i) {t : TypeId} {ty : TyI} {id n sz i off : Nat} {x : TV} {ua ux : Value} {e : Eff} (ht : C.T t = some ty) (he : aStore ty g (.elem id n sz i off) x = some e) (hr : e.req = true)
    (h : Hp κ Ow m0 w0 g m γ w) (ha : RepT κ m γ g (.elem id n sz i off) ua) (hx : RepT κ m γ g x ux) : ∃ w' m' γ', (Instr.storeAt t ua ux).run C.P w = .ok () w' ∧ Nx κ Ow m0 w0 g m γ w e.nw (puts g e.wr) m' γ' w' ∧ e.val = .dead := by
  simp only [aStore] at he
  split at he
  · rename_i el sz' xs p hg hp
    cases he
    simp only [Bool.and_eq_true, decide_eq_true_eq, Bool.not_eq_true', List.contains_eq_mem, decide_eq_false_iff_not] at hr
    obtain ⟨⟨⟨⟨⟨⟨⟨⟨hpr, hpo⟩, hxo⟩, hn⟩, hi⟩, hl⟩, hle⟩, rfl⟩, hnr⟩ := hr
    subst hn
    obtain ⟨ti, d, z, h1, _, h3, h4, _⟩ := tyOf_spec (hT _ _ ht)
    obtain ⟨m', hn, hV, _⟩ := expo_ok hp hpr (Fz.refl g) h hx
    have hg1 : puts g p.w id = some (.row true el sz xs) := by rw [puts_other (fun hm => hnr (expo_wr hp _ hm))]; exact hg
    have hO := hn.hp.objs id _ hg1
    obtain ⟨b, o0, c, hγ, rfl⟩ := ((hn.mv _ _ (by simp) ha).2 _ _ hg1 rfl rfl).2 rfl hi
    rcases hO with ⟨us, b1, cap, k5, k0, ⟨k1, k2⟩, k3, k12, k13⟩ | ⟨hxe, _⟩ | ⟨k1, _⟩
    · rcases k2 with ⟨k6, _⟩ | ⟨b2, cap2, cur, k6, _, k7, k8, k9, k10, k11⟩
      · rw [k5] at k6; cases k6
      · rw [k5] at k6
        cases k6
        rw [hγ] at k5
        cases k5
        have hxi : xs[i]? = some (xs.getD i dflt) := by simp [List.getD, List.getElem?_eq_getElem hi]
        obtain ⟨y, r1, r2, r3, r4⟩ := k3.get hxi
        have hL := hV.cells' hpo (hV.ones hpo)
        have hcs : ux.cells.size = ty.size := by have := hL.length; simp at this; omega
        have hxl := (r1.cells' hxo r3).length
        simp only [Array.length_toList] at hxl
        have hle' : off + ty.size ≤ sz := by omega
        have hmul : (i + 1) * sz ≤ xs.length * sz := Nat.mul_le_mul_right _ hi
        have hmul2 : xs.length * sz ≤ c * sz := Nat.mul_le_mul_right _ k8
        rw [Nat.add_mul, Nat.one_mul] at hmul
        have hrun := run_storeVar_at (P := C.P) (w := w) (ty := t) (o := 0 + (i * sz + off)) (v := ux) h1 (by rw [hcs, h4]) k7 (by omega) (hV.ones hpo)
        refine ⟨_, m', γ, hrun, ?_, rfl⟩
        rw [puts_append]
        refine hn.trans ?_
        have hcmp : Cmp (puts g p.w) γ (upd (puts g p.w) id (.row true el sz (xs.set i (putCells (xs.getD i dflt) off p.a.cells)))) γ id := by
          intro o' ho'
          rw [upd_same] at ho'
          cases ho'
          exact ⟨_, hg1, fun l' hl => ⟨xs.length, rfl, by simp [lenO] at hl; omega, fun _ => rfl⟩, by simp [isBox], fun _ => rfl⟩
        refine hn.hp.write hg1 rfl ⟨by simp [hγ, blkOf], k13, by rw [hγ]; intro a l he; cases he; omega⟩ ?_ hcmp ?_
        · refine .inl ⟨((cur.toList.take (0 + (i * sz + off)) ++ ux.cells.toList ++ cur.toList.drop (0 + (i * sz + off) + ux.cells.size))).take (xs.length * sz), b, c, by simpa using hγ, k0, ⟨?_, .inr ⟨b, c, _, by simpa using hγ, Nat.zero_le _, setRow_there w b _ cur el (0, 0) k7, by simpa using k8, k9, ?_, by simp⟩⟩, ?_, k12, k13⟩
          · simp; omega
          · simp; omega
          · have hcur : ∀ q, q < xs.length * sz → ((cur.toList.take (0 + (i * sz + off)) ++ ux.cells.toList ++ cur.toList.drop (0 + (i * sz + off) + ux.cells.size)).take (xs.length * sz))[q]? =
                if i * sz + off ≤ q ∧ q < i * sz + off + ty.size then ux.cells[q - (i * sz + off)]? else us[q]? := by
              intro q hq
              rw [List.getElem?_take, if_pos hq, List.append_assoc, Nat.zero_add]
              have hus : us[q]? = cur[q]? := by rw [← k11, List.getElem?_take, if_pos hq]; simp
              by_cases c1 : q < i * sz + off
              · rw [List.getElem?_append_left (by simp; omega), List.getElem?_take, if_pos c1, if_neg (by omega), hus]; simp
              · have e1 : q - (cur.toList.take (i * sz + off)).length = q - (i * sz + off) := by simp; omega
                rw [List.getElem?_append_right (by simp; omega), e1]
                by_cases c2 : q < i * sz + off + ty.size
                · rw [List.getElem?_append_left (by simp; omega), if_pos ⟨by omega, c2⟩]; simp
                · rw [List.getElem?_append_right (by simp; omega), List.getElem?_drop, if_neg (by omega), hus]
                  simp only [Array.getElem?_toList, Array.length_toList]
                  congr 1
                  omega
            refine RepX.mk (by simp; omega) fun j a hj => ?_
            have hjl : j < xs.length := by have := (List.getElem?_eq_some_iff.1 hj).1; simpa using this
            have hmj : (j + 1) * sz ≤ xs.length * sz := Nat.mul_le_mul_right _ hjl
            rw [Nat.add_mul, Nat.one_mul] at hmj
            rw [List.getElem?_set] at hj
            by_cases hij : i = j
            · subst hij
              rw [if_pos rfl, if_pos hi] at hj
              cases hj
              obtain ⟨y', s1, s2, s3, s4⟩ := putCells_ok (off := off) r1 hxo hL (by omega)
              refine ⟨y', s1, by omega, s3, fun k v hv => ?_⟩
              have hk : k < sz := by have := (Array.getElem?_eq_some_iff.1 hv).1; omega
              rw [hcur _ (by omega)]
              rw [s4 k] at hv
              by_cases c3 : off ≤ k ∧ k < off + p.a.cells.length
              · rw [if_pos c3] at hv
                rw [if_pos (by omega), ← hv]
                simp only [Array.getElem?_toList]
                congr 1
                omega
              · rw [if_neg c3] at hv
                rw [if_neg (by omega)]
                exact r4 k v hv
            · rw [if_neg hij] at hj
              obtain ⟨y2, s1, s2, s3, s4⟩ := k3.get hj
              refine ⟨y2, s1, s2, s3, fun k v hv => ?_⟩
              have hk : k < sz := by have := (Array.getElem?_eq_some_iff.1 hv).1; omega
              rw [hcur _ (by omega)]
              rw [if_neg ?_]
              · exact s4 k v hv
              · rcases Nat.lt_or_gt_of_ne hij with hlt | hgt
                · have := Nat.mul_le_mul_right sz (show i + 1 ≤ j from hlt)
                  rw [Nat.add_mul, Nat.one_mul] at this
                  omega
                · have := Nat.mul_le_mul_right sz (show j + 1 ≤ i from hgt)
                  rw [Nat.add_mul, Nat.one_mul] at this
                  omega
        · intro b' _ hb'
          have := hb'.1
          simp [hγ, blkOf] at this
          exact this.symm
    · subst hxe; simp at hi
    · cases k1
  · cases he
end
end Go.Sy

/- Soundness, part 14: every operation. -/
set_option linter.unusedVariables false
namespace Go.Sy
open Go.RowKit

section
variable {m : Mem} {γ : Ga} {w w0 : World} {Ow : Nat → Prop} {m0 : Mem} {C : Ctx} {s : St} {a : Act}

theorem evl_ok (hρ : ∀ x v, s.ev C x = some v → RepT C.κ m γ s.g0 v (a.eval x)) : ∀ {xs : List Operand} {vs : List TV}, s.evl C xs = some vs → RepTs C.κ m γ s.g0 vs (xs.map a.eval)
  | [], vs, h => by cases h; rfl
  | x :: xs, vs, h => by
    simp only [St.evl] at h
    split at h
    · rename_i v vs' h1 h2
      cases h
      exact ⟨_, _, rfl, hρ _ _ h1, evl_ok hρ h2⟩
    · cases h
theorem evo_ok (hρ : ∀ x v, s.ev C x = some v → RepT C.κ m γ s.g0 v (a.eval x)) {x : Option Operand} {v : Option TV} (h : s.evo C x = some v) : BV C.κ m γ s.g0 v (x.map a.eval) := by
  cases x with
  | none => cases h; trivial
  | some x =>
    simp only [St.evo] at h
    cases hx : s.ev C x with
    | none => simp [hx] at h
    | some u => simp [hx] at h; subst h; exact hρ _ _ hx
theorem allFresh_mem : ∀ {l : List Nat}, allFresh s l = true → ∀ i ∈ l, s.fresh i = true
  | [], _, i, hi => by simp at hi
  | x :: l, h, i, hi => by
    simp only [allFresh, Bool.and_eq_true] at h
    rcases List.mem_cons.1 hi with rfl | hi
    · exact h.1
    · exact allFresh_mem h.2 i hi
theorem fresh_g {i : Nat} (h : s.fresh i = true) : Fresh s.g0 i := by
  simp only [St.fresh, Bool.and_eq_true] at h
  exact fresh_O h.2
/-- Nobody names this object. -/
def SFr (s : St) (i : Nat) : Prop := (∀ t x, look s.tmps t = some x → i ∉ x.ment) ∧ Fresh s.g0 i
theorem SFr.of {i : Nat} (h : s.fresh i = true) : SFr s i := by
  have h' := h
  simp only [St.fresh, Bool.and_eq_true] at h'
  exact ⟨fresh_T h'.1, fresh_g h⟩
theorem SFr.ev {i : Nat} {x : Operand} {v : TV} (h : SFr s i) (hx : s.ev C x = some v) : i ∉ v.ment := by
  cases x with
  | tmp t => exact h.1 t v hx
  | const c => cases hx; rw [toTV_ment]; simp
  | global g =>
    simp only [St.ev] at hx
    cases hg : C.G g with
    | none => simp [hg] at hx
    | some y => simp [hg] at hx; subst hx; simp [TV.ment]
  | func f => cases hx; simp [TV.ment]

theorem bind_some {α β : Type} {x : Option α} {f : α → Option β} {y : β} (h : x.bind f = some y) : ∃ a, x = some a ∧ f a = some y := by
  cases x with
  | none => simp at h
  | some a => exact ⟨a, rfl, h⟩

theorem aop_sound (hT : ∀ t i, C.T t = some i → tyOf C.P t = some i) {own : Nat} {o : Oper} {e : Eff} (he : aop C s own o = some e) (hr : e.req = true) (hfr : ∀ i ∈ e.nw, SFr s i)
    (h : Hp C.κ Ow m0 w0 s.g0 m γ w) (hρ : ∀ x v, s.ev C x = some v → RepT C.κ m γ s.g0 v (a.eval x)) : Res C.κ Ow m0 w0 s.g0 m γ w ((execOp a.eval o).run C.P w) e := by
  have hF : ∀ i ∈ e.nw, Fresh s.g0 i := fun i hi => (hfr i hi).2
  obtain ⟨dst, op, type, pos, after, guard⟩ := o
  have hpure : ∀ {x : Operand}, (s.ev C x).bind (fun v => plain true v) = some e → Res C.κ Ow m0 w0 s.g0 m γ w ((pure (.value (a.eval x)) : Sem Next).run C.P w) e := by
    intro x hx
    obtain ⟨v, h1, h2⟩ := bind_some hx
    exact Res.plain h h2 rfl (hρ _ _ h1)
  cases op <;> simp only [aop] at he <;> simp only [execOp] <;> first | (cases he; done) | skip
  case move x => exact hpure he
  case assign x =>
    unfold aAssign at he
    split at he
    · rename_i x
      split at he
      · rename_i e0 hel
        split at he
        · rename_i te hte
          split at he
          · cases he
            refine ⟨.slice none 0 0, w, m, _, .inl rfl, h.newObj (u := .slice none 0 0) (hF own (by simp)) (Fr.refl _ _) (fun _ _ => rfl) ?_ ?_, ?_⟩
            · simp only [RepO, updA_same]
              exact .inr (.inl ⟨rfl, none, rfl⟩)
            · intro b _ hb
              exact absurd rfl (hb.2.2 none 0)
            · refine ⟨⟨none, 0, rfl⟩, fun o l ho hl => ?_⟩
              simp only [puts] at ho
              rw [upd_same] at ho
              cases ho
              cases hl
              exact ⟨Nat.le_refl _, fun _ => (updA_same _ _ _).symm⟩
          · cases he
            exact ⟨.slice none 0 0, w, m, γ, .inl rfl, Nx.refl h [], ⟨none, rfl⟩, by simp only [RepV]; exact ⟨none, 0, rfl, by simp, 0, 0, 0, .inl trivial, by simp [RepE]⟩⟩
        · cases he
      · cases he
    · exact hpure he
  case nilCheck x =>
    unfold aCheck at he
    split at he
    · rename_i cs hx
      have hv := hρ _ _ hx
      have hv2 := hv
      simp only [RepT, RepT0, RepV] at hv2
      obtain ⟨b, o, hu, _⟩ := hv2
      exact Res.plain h he (v := a.eval x) (by rw [hu]; rfl) hv
    · rename_i id off hx
      have hv := hρ _ _ hx
      have hv2 := hv
      obtain ⟨⟨p, hu⟩, _⟩ := hv2
      exact Res.plain h he (v := a.eval x) (by rw [hu]; rfl) hv
    · cases he
  case pick c x y =>
    unfold aPick at he
    split at he
    · rename_i hc
      obtain ⟨v, h1, h2⟩ := bind_some he
      have hb : a.eval c = .bool true := hρ _ _ hc
      exact Res.plain h h2 (v := a.eval x) (by simp [hb, asBool]) (hρ _ _ h1)
    · rename_i hc
      obtain ⟨v, h1, h2⟩ := bind_some he
      have hb : a.eval c = .bool false := hρ _ _ hc
      exact Res.plain h h2 (v := a.eval y) (by simp [hb, asBool]) (hρ _ _ h1)
    · cases he
  case alloc t => exact aAlloc_ok hT he hr h hF
  case box t x =>
    cases hx : s.ev C x with
    | none => simp [hx, aBox] at he
    | some v =>
      rw [hx] at he
      exact aBox_ok he hr h (fun i hi => ⟨hF i hi, (hfr i hi).ev hx⟩) (hρ _ _ hx)
  case build t parts =>
    cases hx : s.evl C (parts.toList.map (·.2)) with
    | none => rw [hx] at he; split at he <;> simp [aBuild, aBuildT] at he
    | some vs =>
      rw [hx] at he
      split at he
      · refine (aBuildT_ok hT he hr ?_ h (evl_ok hρ hx)).res
        rw [Array.toList_map]
        exact zip_parts a.eval parts.toList
      · refine (aBuild_ok hT he hr ?_ h (evl_ok hρ hx)).res
        rw [Array.toList_map]
        exact zip_parts a.eval parts.toList
  case buildSlice t n parts =>
    cases hx : s.evl C (parts.toList.map (·.2)) with
    | none => simp [hx, aBuildSlice] at he
    | some vs =>
      rw [hx] at he
      refine aBuildSlice_ok hT he hr ?_ (by simp) h (evl_ok hρ hx)
      rw [Array.toList_map]
      exact zip_parts a.eval parts.toList
  case load t x =>
    obtain ⟨ty, h1, he⟩ := bind_some he
    obtain ⟨v, h2, he⟩ := bind_some he
    exact Pure.res (aLoad_ok hT h1 he hr h (hρ _ _ h2))
  case store t p x =>
    obtain ⟨ty, h1, he⟩ := bind_some he
    obtain ⟨vp, h2, he⟩ := bind_some he
    obtain ⟨vx, h3, he⟩ := bind_some he
    have : ∃ w' m' γ', (Instr.storeAt t (a.eval p) (a.eval x)).run C.P w = .ok () w' ∧ Nx C.κ Ow m0 w0 s.g0 m γ w e.nw (puts s.g0 e.wr) m' γ' w' ∧ e.val = .dead := by
      cases vp with
      | box id off => exact aStoreBox_ok hT h1 he hr h (hρ _ _ h2) (hρ _ _ h3)
      | elem id n sz i off => exact aStoreElem_ok hT h1 he hr h (hρ _ _ h2) (hρ _ _ h3)
      | _ => simp [aStore] at he
    obtain ⟨w', m', γ', h4, h5, h6⟩ := this
    refine ⟨undef, w', m', γ', .inr ⟨by rw [Sem.run_bind, h4]; rfl, rfl⟩, h5, ?_⟩
    rw [h6]
    trivial
  case binOp op t x y t2 =>
    obtain ⟨vx, h2, he⟩ := bind_some he
    obtain ⟨vy, h3, he⟩ := bind_some he
    obtain ⟨r, h4, he⟩ := bind_some he
    have hrr := plain_req he
    rw [hr] at hrr
    exact Pure.res (Pure.plain h he (aBin_ok (v := undef) hT h4 hrr.symm (hρ _ _ h2) (hρ _ _ h3)) rfl)
  case unOp op t x =>
    cases hx : s.ev C x with
    | none => rw [hx] at he; unfold aUn at he; split at he <;> simp_all
    | some v => rw [hx] at he; exact Pure.res (aUn_ok he h (hρ _ _ hx))
  case convert src d x =>
    cases hx : s.ev C x with
    | none => rw [hx] at he; unfold aConv at he; split at he <;> simp_all
    | some v => rw [hx] at he; exact Pure.res (aConv_ok hT he hr h (hρ _ _ hx))
  case slice t x lo hi mx =>
    obtain ⟨v, h1, he⟩ := bind_some he
    obtain ⟨lo', h2, he⟩ := bind_some he
    obtain ⟨hi', h3, he⟩ := bind_some he
    obtain ⟨mx', h4, he⟩ := bind_some he
    exact Pure.res (aSlice_ok hT he hr h (hρ _ _ h1) (evo_ok hρ h2) (evo_ok hρ h3) (evo_ok hρ h4))
  case fieldAddr t x f =>
    obtain ⟨ty, h1, he⟩ := bind_some he
    obtain ⟨v, h2, he⟩ := bind_some he
    exact Pure.res (aField_ok hT h1 he hr h (hρ _ _ h2))
  case indexAddr t x i =>
    obtain ⟨e0, h1, he⟩ := bind_some he
    obtain ⟨te, h2, he⟩ := bind_some he
    obtain ⟨v, h3, he⟩ := bind_some he
    obtain ⟨n, h4, he⟩ := bind_some he
    obtain ⟨vi, h5, h6⟩ := bind_some h4
    exact Pure.res (aIndex_ok hT h1 h2 he hr h (hρ _ _ h3) h6 (hρ _ _ h5))
  case index t x i =>
    cases hx : s.ev C x with
    | none => rw [hx] at he; unfold aByte at he; split at he <;> simp_all
    | some v =>
      cases hi : (s.ev C i).bind intOf? with
      | none => rw [hx, hi] at he; unfold aByte at he; split at he <;> simp_all
      | some n =>
        rw [hx, hi] at he
        obtain ⟨vi, h5, h6⟩ := bind_some hi
        exact Pure.res (aByte_ok hT he hr h (hρ _ _ hx) h6 (hρ _ _ h5))
  case field t x f =>
    obtain ⟨ty, h1, he⟩ := bind_some he
    cases hx : s.ev C x with
    | none => rw [hx] at he; unfold aPart at he; split at he <;> simp_all
    | some v => rw [hx] at he; exact Pure.res (aPart_ok hT h1 he hr h (hρ _ _ hx))
  case extract x i =>
    cases hx : s.ev C x with
    | none => rw [hx] at he; unfold aExtract at he; split at he <;> simp_all
    | some v => rw [hx] at he; exact Pure.res (aExtract_ok he h (hρ _ _ hx))
  case makeInterface t x =>
    cases hx : s.ev C x with
    | none => rw [hx] at he; simp [aIface] at he
    | some v => rw [hx] at he; exact Pure.res (aIface_ok hT he hr h (hρ _ _ hx))
  case makeFunc f first caps =>
    cases f <;> simp only at he <;> first | (cases he; done) | skip
    exact Pure.res (aFunc_ok hρ he h)
  case call c =>
    obtain ⟨callee, args, ts⟩ := c
    cases callee with
    | value f => simp at he
    | invoke r n => simp at he
    | builtin b =>
      have hmap : (args.map a.eval) = (args.toList.map a.eval).toArray := Array.toList_inj.1 (by simp)
      have hargs : ∀ {vs : List TV}, s.evl C args.toList = some vs → RepTs C.κ m γ s.g0 vs (args.toList.map a.eval) := fun hx => evl_ok hρ hx
      cases b <;> simp only at he <;> first | (cases he; done) | skip
      case len =>
        cases hx : s.evl C args.toList with
        | none => rw [hx] at he; unfold aLen at he; split at he <;> simp_all
        | some vs =>
          rw [hx] at he
          have := aLen_ok (type := type) hT he hr h (hargs hx)
          simp only [resolve, invoke, builtin, pure_bind, hmap]
          exact Pure.res this
      case max =>
        cases hx : s.evl C args.toList with
        | none => rw [hx] at he; unfold aMax at he; split at he <;> simp_all
        | some vs =>
          rw [hx] at he
          have := aMax_ok (ts := ts) (type := type) he h (P := C.P) (hargs hx)
          simp only [resolve, invoke, builtin, pure_bind, hmap]
          exact Pure.res this
      case min =>
        cases hx : s.evl C args.toList with
        | none => rw [hx] at he; unfold aMax at he; split at he <;> simp_all
        | some vs =>
          rw [hx] at he
          have := aMax_ok (ts := ts) (type := type) he h (P := C.P) (hargs hx)
          simp only [resolve, invoke, builtin, pure_bind, hmap]
          exact Pure.res this
      case append =>
        unfold aApp at he
        split at he
        · rename_i x y t t' hx hts
          cases htt : t == t' with
          | false => simp [htt] at he
          | true =>
            have : t = t' := by simpa using htt
            subst this
            simp only [htt, cond_true] at he
            have hA := hargs hx
            obtain ⟨u, us', hu, h1, v, us'', rfl, h2, h3⟩ := hA
            cases h3
            have hts' : ts = #[t, t] := Array.toList_inj.1 (by simpa using hts)
            simp only [resolve, invoke, builtin, pure_bind, hmap, hu, hts']
            exact aAppend_ok hT he hr h hF h1 h2
        · cases he
end
end Go.Sy

/- Soundness, part 15: calls. -/
set_option linter.unusedVariables false
namespace Go.Sy
open Go.RowKit

section
variable {κ : Nat → Addr} {m m' : Mem} {γ γ' : Ga} {g g' g0 : Gs} {w w' w0 : World} {Ow : Nat → Prop} {m0 : Mem}

theorem Nx.comp {g1 g2 : Gs} {m1 m2 : Mem} {γ1 γ2 : Ga} {w1 w2 : World} {a b : List Nat} (h : Nx κ Ow m0 w0 g m γ w a g1 m1 γ1 w1) (k : Nx κ Ow m0 w0 g1 m1 γ1 w1 b g2 m2 γ2 w2) : Nx κ Ow m0 w0 g m γ w (a ++ b) g2 m2 γ2 w2 :=
  ⟨k.hp, h.le.trans k.le, fun x u hx hr => k.mv x u (fun i hi hb => hx i hi (by simp [hb])) (h.mv x u (fun i hi ha => hx i hi (by simp [ha])) hr)⟩

/-- A new object whose block may be there already, but is nobody's. -/
theorem Hp.bindObj {id : Nat} {u : Value} {o : SObj} (h : Hp κ Ow m0 w0 g m γ w) (hf : Fresh g id)
    (hrep : RepO κ m (updA γ id u) (upd g id o) w Ow id o) (hex : ∀ b, live o = true → Exc m u b → ∀ j oj, g j = some oj → live oj = true → ¬ Exc m (γ j) b) : Nx κ Ow m0 w0 g m γ w [id] (upd g id o) m (updA γ id u) w := by
  have hcmp : ∀ j, j ≠ id → Cmp g γ (upd g id o) (updA γ id u) j := fun j hj => Cmp.same (upd_ne hj) (updA_ne hj)
  refine ⟨?_, MLe.refl m, fun x v hx hr => hr.move (MLe.refl m) fun j hj => hcmp j (by have := hx j hj; simpa using this)⟩
  refine h.step (K := (· = id)) (MLe.refl m) (fun _ _ => rfl) h.cons (Fr.refl _ _) (fun i hk => ⟨upd_ne hk, updA_ne hk⟩) (fun i oi b hk hoi hl hb => ⟨rfl, hb.2.1⟩) ?_ ?_ ?_
  · intro i oi j hk hoi hj
    exact hcmp j fun e => hf.2 i oi hoi (e ▸ hj)
  · intro i oi hk hoi
    subst hk
    rw [upd_same] at hoi
    cases hoi
    exact hrep
  · intro i j oi oj b hk hoi hoj li lj bi bj
    subst hk
    by_cases hj : j = i
    · exact hj.symm
    · rw [upd_same] at hoi
      cases hoi
      rw [updA_same] at bi
      rw [updA_ne hj] at bj
      rw [upd_ne hj] at hoj
      exact absurd bj (hex b li bi j oj hoj lj)

/-- Behind a call that writes nothing that was there. -/
theorem Hp.after (h : Hp κ Ow m0 w0 g m γ w) (hle : MLe m m') (hold : ∀ b, b < w.heap.size → m' b = m b) (hc : Cons m' w') (hb : Below w.heap.size w w') : Nx κ Ow m0 w0 g m γ w [] g m' γ w' := by
  refine ⟨?_, hle, fun x u _ hr => hr.move hle fun id _ => Cmp.same rfl rfl⟩
  refine h.step (K := fun _ => False) hle (fun b hb' => hold b (Nat.lt_of_not_le fun hl => hb' (h.own b hl))) hc ⟨hb.os, hb.tape, hb.output, hb.size, fun b hb' => hb.block b (Nat.lt_of_not_le fun hl => hb' (h.own b hl))⟩
    (fun i _ => ⟨rfl, rfl⟩) (fun i o b _ ho hl hx => ?_) (fun i o id _ _ _ => Cmp.same rfl rfl) (fun i o hk => hk.elim) (fun i j o oj b hk => hk.elim)
  have hlt := (h.exc ho hl hx).1
  exact ⟨hb.block b hlt, fun o => by rw [hold b hlt]; exact hx.2.1 o⟩

/-- The whole of a world's memory. -/
def memOf (w : World) : Mem := fun b o => w.cell? ⟨b, o, none⟩
theorem memOf_cons (w : World) : Cons (memOf w) w := fun b o u h => h
theorem Cons.le_memOf (h : Cons m w) : MLe m (memOf w) := fun b o u hu => h b o u hu

theorem lendBox_ok {c : Nat × Nat} {x : AV} {u : Value} (hl : lendBox g0 c = some x) (hf : Fz g0 g) (h : Hp κ Ow m0 w0 g m γ w) (hx : RepB γ g c.1 c.2 u) : RepV κ (memOf w) x u := by
  obtain ⟨id, off⟩ := c
  simp only [lendBox] at hl
  have hle := h.cons.le_memOf
  have fb : ∀ {cs : List AV}, g id = some (.fbox cs) → RepV κ (memOf w) (.ref (cs.drop off)) u := fun hg => (h.fbox hg hx).mono hle
  split at hl
  · rename_i cs hg
    split at hl
    · rename_i avs hav
      cases hl
      rcases hf id with h1 | ⟨o, o', h1, h2, h3⟩
      · rw [hg] at h1
        obtain ⟨b, hγ, hu⟩ := hx.2 _ h1 rfl
        obtain ⟨b', arr, e, hγ', _, _, h4, h5, h6⟩ := h.objs id _ h1
        rw [hγ] at hγ'
        cases hγ'
        simp only [RepV]
        refine ⟨b, off, hu, ?_⟩
        have : RepC κ (memOf w) b 0 avs := by
          refine RepC.mk fun j x hj => ?_
          obtain ⟨c, hc, hcx⟩ := avsOf_get hav hj
          obtain ⟨v, hv, h7, h8⟩ := h6 j c hc
          exact ⟨v, by simp [memOf, World.cell?, h4, hv], h7, (h8.av hcx).mono hle⟩
        have := this.drop off
        rwa [Nat.zero_add] at this
      · rw [hg] at h1
        cases h1
        simp only [frz, hav] at h2
        cases h2
        exact fb h3
    · cases hl
  · rename_i avs hg
    cases hl
    rcases hf id with h1 | ⟨o, o', h1, h2, h3⟩
    · exact fb (h1.trans hg)
    · rw [hg] at h1
      cases h1
      cases h2
      exact fb h3
  · cases hl

theorem lends_ok (hf : Fz g0 g) (h : Hp κ Ow m0 w0 g m γ w) : ∀ {cs : List (Nat × Nat)} {xs : List AV} {us : List Value}, lends g0 cs = some xs → us.length = cs.length → (∀ (i : Nat) (c : Nat × Nat), cs[i]? = some c → ∃ v, us[i]? = some v ∧ RepB γ g c.1 c.2 v) → RepL κ (memOf w) xs us
  | [], xs, us, hl, hlen, _ => by cases hl; simp only [RepL]; simpa using hlen
  | c :: cs, xs, us, hl, hlen, hp => by
    simp only [lends] at hl
    split at hl
    · rename_i x xs' h1 h2
      cases hl
      cases us with
      | nil => simp at hlen
      | cons u us =>
        obtain ⟨v, hv, hb⟩ := hp 0 c (by simp)
        simp at hv
        subst hv
        refine ⟨u, us, rfl, ?_, lendBox_ok h1 hf h hb, lends_ok hf h h2 (by simpa using hlen) fun i c hc => ?_⟩
        · obtain ⟨p, rfl⟩ := hb.1; rfl
        · obtain ⟨v, hv, h3⟩ := hp (i + 1) c (by simpa using hc)
          exact ⟨v, by simpa using hv, h3⟩
    · cases hl

/-- A row that is lent. -/
theorem lendR_ok {ld : Bool} {x : TV} {a : AV} {id : Nat} {b : Bool} {u : Value} (hl : lendR ld g0 x = some (a, id, b)) (hb : b = true) (hf : Fz g0 g) (h : Hp κ Ow m0 w0 g m γ w) (hx : RepT κ m γ g x u) : RepV κ (memOf w) a u := by
  unfold lendR at hl
  have hle := h.cons.le_memOf
  split at hl
  · rename_i i n
    split at hl
    · split at hl
      · rename_i ex e sz xs hg
        cases hl
        have hn : xs.length = n := by simpa using hb
        rcases hf id with h1 | ⟨o, o', h1, h2, h3⟩
        · rw [hg] at h1
          have hO : OwnRow κ m w Ow ex e sz xs (γ id) := h.objs id _ h1
          have hu : u = γ id := (hx.2 _ _ h1 rfl).2 hn.symm
          rw [hu]
          rcases hO with ⟨us, b, cap, k1, k2, ⟨k3, k4⟩, k5, k6, k7⟩ | ⟨rfl, a, k1⟩ | ⟨k1, k4, k5, b, o, k2, k3⟩
          · rcases k4 with ⟨k8, _⟩ | ⟨b2, cap2, cur, k8, _, k9, k10, k11, k12, k13⟩
            · rw [k1] at k8; cases k8
            · rw [k1] at k8; cases k8
              rw [k1]
              simp only [RepV]
              refine ⟨_, _, rfl, k10, sz, b, 0, .inr rfl, (k5.mono hle).toE fun j v hv => ?_⟩
              rw [← k13, List.getElem?_take] at hv
              split at hv
              · simp [memOf, World.cell?, k9]; simpa using hv
              · cases hv
          · rw [k1]
            simp only [RepV]
            exact ⟨a, 0, rfl, Nat.le_refl _, 0, 0, 0, .inl trivial, trivial⟩
          · rw [k2]
            simp only [RepV]
            exact ⟨_, _, rfl, Nat.le_refl _, sz, b, o, .inr rfl, k3.mono hle⟩
        · rw [hg] at h1
          cases h1
          cases h2
          exact (h.frow h3 hn hx).mono hle
      · cases hl
    · cases hl
  · cases hl

/-- Arguments, frozen or lent. -/
theorem argsOf_ok {ld : Bool} : ∀ {xs : List TV} {us : List Value} {g : Gs} {m : Mem} {as : List AV} {ws : List (Nat × SObj)} {is : List Nat} {l rq : Bool}, argsOf ld g0 xs = some (as, ws, is, l, rq) → rq = true → Fz g0 g → Hp κ Ow m0 w0 g m γ w → RepTs κ m γ g xs us →
    ∃ m', Nx κ Ow m0 w0 g m γ w [] (puts g ws) m' γ w ∧ Fz g0 (puts g ws) ∧ RepA κ (memOf w) as us ∧ (l = false → RepA κ m' as us)
  | [], us, g, m, as, ws, is, l, rq, ha, hr, hf, h, hx => by
    cases ha
    exact ⟨m, Nx.refl h [], hf, hx, fun _ => hx⟩
  | x :: xs, us, g, m, as, ws, is, l, rq, ha, hr, hf, h, hx => by
    simp only [argsOf] at ha
    split at ha
    · cases ha
    · rename_i as' ws' is' l' rq' h1
      obtain ⟨u, us', rfl, hu, hus⟩ := hx
      split at ha
      · rename_i f cs
        split at ha
        · rename_i ys hl
          cases ha
          obtain ⟨vs, rfl, h3, h4⟩ := hu
          obtain ⟨m', n1, f1, r1, _⟩ := argsOf_ok h1 hr hf h hus
          refine ⟨m', n1, f1, ⟨_, _, rfl, ?_, r1⟩, fun hl => by cases hl⟩
          simp only [RepV]
          refine ⟨vs, rfl, lends_ok hf h hl (by simpa using h3) fun i c hc => ?_⟩
          obtain ⟨v, hv, h5⟩ := h4 i c hc
          exact ⟨v, by simpa using hv, h5⟩
        · cases ha
      · split at ha
        · rename_i a id b hl
          cases ha
          simp only [Bool.and_eq_true] at hr
          obtain ⟨m', n1, f1, r1, _⟩ := argsOf_ok h1 hr.2 hf h hus
          exact ⟨m', n1, f1, ⟨_, _, rfl, lendR_ok hl hr.1 hf h hu, r1⟩, fun hl => by cases hl⟩
        split at ha
        · rename_i p hp
          cases ha
          simp only [Bool.and_eq_true] at hr
          obtain ⟨m1, n1, r1, f1⟩ := expo_ok hp hr.1 hf h hu
          obtain ⟨m2, n2, f2, r2, r3⟩ := argsOf_ok h1 hr.2 f1 n1.hp (hus.nx n1 (by simp))
          refine ⟨m2, ?_, ?_, ⟨u, us', rfl, r1.mono (n2.le.trans n2.hp.cons.le_memOf), r2⟩, fun hl => ⟨u, us', rfl, r1.mono n2.le, r3 hl⟩⟩
          · rw [puts_append]; exact n1.trans n2
          · rw [puts_append]; exact f2
        · cases ha

theorem OwnRow.weaken {Ow' : Nat → Prop} {ex : Bool} {e : TypeId} {sz : Nat} {xs : List AV} {u : Value} (ho : ∀ b, Ow' b → Ow b) (h : OwnRow κ m w Ow' ex e sz xs u) : OwnRow κ m w Ow ex e sz xs u := by
  rcases h with ⟨us, b, cap, h1, h2, h3, h4, h5, h6⟩ | h | h
  · exact .inl ⟨us, b, cap, h1, h2, h3, h4, ho b h5, h6⟩
  · exact .inr (.inl h)
  · exact .inr (.inr h)
theorem OwnRow.exc {Ow' : Nat → Prop} {ex : Bool} {e : TypeId} {sz : Nat} {xs : List AV} {u : Value} {b : Nat} (h : OwnRow κ m w Ow' ex e sz xs u) (hb : Exc m u b) : Ow' b := by
  rcases h with ⟨us, b', cap, h1, h2, h3, h4, h5, h6⟩ | ⟨h1, a, h2⟩ | ⟨h1, h4, h5, b', o, h6, h7⟩
  · have := hb.1
    rw [h1] at this
    simp [blkOf] at this
    subst this
    exact h5
  · exact absurd h2 (hb.2.2 a 0)
  · have := hb.1
    rw [h6] at this
    simp [blkOf] at this
    subst this
    cases xs with
    | nil => exact absurd rfl h5
    | cons x xs =>
      simp only [RepE] at h7
      obtain ⟨⟨y, _, h8, _, h9⟩, _⟩ := h7
      have := h9 0 _ (Array.getElem?_eq_getElem (by omega))
      rw [hb.2.1] at this; cases this
theorem OwnRow.shape {Ow' : Nat → Prop} {ex : Bool} {e : TypeId} {sz : Nat} {xs : List AV} {u : Value} (h : OwnRow κ m w Ow' ex e sz xs u) : ∃ a c, u = .slice a xs.length c := by
  rcases h with ⟨us, b', cap, h1, _⟩ | ⟨h1, a, h2⟩ | ⟨h1, h4, h5, b', o, h6, h7⟩
  · exact ⟨_, _, h1⟩
  · subst h1; exact ⟨a, 0, h2⟩
  · exact ⟨_, _, h6⟩

theorem Fresh.fz {id : Nat} (h : Fresh g0 id) (hf : Fz g0 g) : Fresh g id := by
  refine ⟨?_, fun i o ho => ?_⟩
  · rcases hf id with h1 | ⟨o, o', h1, _⟩
    · exact h1.trans h.1
    · rw [h.1] at h1; cases h1
  · rcases hf i with h1 | ⟨o1, o', h1, h2, h3⟩
    · exact h.2 i o (h1 ▸ ho)
    · rw [ho] at h3
      cases h3
      cases o1 with
      | box cs => simp only [frz] at h2; split at h2 <;> cases h2; simp [SObj.ment]
      | gh x u => cases h2
      | _ => cases h2; simp [SObj.ment]
end
end Go.Sy

/- Soundness, part 16: results of calls; one operation of a state. -/
set_option linter.unusedVariables false
namespace Go.Sy
open Go.RowKit

section
variable {κ : Nat → Addr} {m m' : Mem} {γ γ' : Ga} {g g' g0 : Gs} {w w' w0 : World} {Ow : Nat → Prop} {m0 : Mem}

/-- One result bound. -/
theorem bindR_ok {Ow' : Nat → Prop} {id : Nat} {r : RItem} {u : Value} (how : ∀ b, Ow' b → Ow b) (h : Hp κ Ow m0 w0 g m γ w) (hf : ∀ i ∈ fsts (bindR id r).2, Fresh g i) (hr : RepR κ m w Ow' r u)
    (hex : ∀ b, r.isOwn = true → Exc m u b → ∀ j oj, g j = some oj → live oj = true → ¬ Exc m (γ j) b) :
    ∃ γ', Nx κ Ow m0 w0 g m γ w (fsts (bindR id r).2) (puts g (bindR id r).2) m γ' w ∧ RepT0 κ m γ' (puts g (bindR id r).2) (bindR id r).1 u ∧ (∀ j, j ∉ fsts (bindR id r).2 → γ' j = γ j) ∧ (r.isOwn = true → γ' id = u) := by
  cases r with
  | av x => exact ⟨γ, Nx.refl h _, hr, fun _ _ => rfl, by simp [RItem.isOwn]⟩
  | own ex e sz xs =>
    have hr' : OwnRow κ m w Ow' ex e sz xs u := hr
    refine ⟨updA γ id u, h.bindObj (hf id (by simp [bindR, fsts])) ?_ (fun b _ hb => hex b rfl hb), ⟨hr'.shape, fun o l ho hl => ?_⟩, fun j hj => updA_ne (by simpa [bindR, fsts] using hj), fun _ => updA_same _ _ _⟩
    · simp only [RepO, updA_same]
      exact hr'.weaken how
    · simp only [bindR, puts] at ho
      rw [upd_same] at ho
      cases ho
      cases hl
      exact ⟨Nat.le_refl _, fun _ => (updA_same _ _ _).symm⟩

theorem fsts_append : ∀ (a b : List (Nat × SObj)), fsts (a ++ b) = fsts a ++ fsts b
  | [], _ => rfl
  | x :: a, b => by simp [fsts, fsts_append a b]
theorem bindR_fst {id : Nat} {r : RItem} : ∀ i ∈ fsts (bindR id r).2, i = id := by cases r <;> simp [bindR, fsts]
theorem bindR_ment {id : Nat} {r : RItem} : ∀ i ∈ (bindR id r).1.ment, i = id := by cases r <;> simp [bindR, TV.ment]
theorem bindR_obj {id : Nat} {r : RItem} : ∀ i o, puts g (bindR id r).2 i = some o → g i = some o ∨ (i = id ∧ r.isOwn = true ∧ o.ment = []) := by
  intro i o h
  cases r with
  | av x => exact .inl h
  | own ex e sz xs =>
    simp only [bindR, puts] at h
    by_cases hi : i = id
    · subst hi; rw [upd_same] at h; cases h; exact .inr ⟨rfl, rfl, rfl⟩
    · rw [upd_ne hi] at h; exact .inl h
theorem bindRs_fst : ∀ {rs : List RItem} {id : Nat}, ∀ i ∈ fsts (bindRs id rs).2, id ≤ i
  | [], id, i, h => by simp [bindRs, fsts] at h
  | r :: rs, id, i, h => by
    simp only [bindRs, fsts_append, List.mem_append] at h
    rcases h with h | h
    · exact Nat.le_of_eq (bindR_fst i h).symm
    · have := bindRs_fst i h; omega

/-- Results bound, one by one. -/
theorem bindRs_ok {Ow' : Nat → Prop} (how : ∀ b, Ow' b → Ow b) : ∀ {rs : List RItem} {us : List Value} {id : Nat} {g : Gs} {γ : Ga}, Hp κ Ow m0 w0 g m γ w → (∀ i ∈ fsts (bindRs id rs).2, Fresh g i) → RepRs κ m w Ow' rs us → Sep m rs us →
    (∀ (k : Nat) (r : RItem) (u : Value) (b : Nat), rs[k]? = some r → us[k]? = some u → r.isOwn = true → Exc m u b → ∀ j oj, g j = some oj → live oj = true → ¬ Exc m (γ j) b) →
    ∃ γ', Nx κ Ow m0 w0 g m γ w (fsts (bindRs id rs).2) (puts g (bindRs id rs).2) m γ' w ∧ ∀ (k : Nat) (x : TV), (bindRs id rs).1[k]? = some x → ∃ v, us[k]? = some v ∧ RepT0 κ m γ' (puts g (bindRs id rs).2) x v
  | [], us, id, g, γ, h, hf, hr, hs, hex => ⟨γ, Nx.refl h _, by simp [bindRs]⟩
  | r :: rs, us, id, g, γ, h, hf, hr, hs, hex => by
    obtain ⟨u, us', rfl, hu, hus⟩ := hr
    simp only [bindRs, fsts_append] at hf ⊢
    obtain ⟨γ1, n1, t1, k1, k2⟩ := bindR_ok (id := id) how h (fun i hi => hf i (List.mem_append_left _ hi)) hu (fun b ho hb => hex 0 r u b (by simp) (by simp) ho hb)
    have hfr : ∀ i ∈ fsts (bindRs (id + 1) rs).2, Fresh (puts g (bindR id r).2) i := by
      intro i hi
      have hge := bindRs_fst i hi
      obtain ⟨f1, f2⟩ := hf i (List.mem_append_right _ hi)
      refine ⟨?_, fun j o ho => ?_⟩
      · cases hg : puts g (bindR id r).2 i with
        | none => rfl
        | some o =>
          rcases bindR_obj i o hg with h1 | ⟨h1, _, _⟩
          · rw [f1] at h1; cases h1
          · omega
      · rcases bindR_obj j o ho with h1 | ⟨_, _, h1⟩
        · exact f2 j o h1
        · rw [h1]; simp
    have hsep : Sep m rs us' := fun i j x y u v b hi hj hx hy hu hv eu ev => by
      have := hs (i + 1) (j + 1) x y u v b (by simpa using hi) (by simpa using hj) hx hy (by simpa using hu) (by simpa using hv) eu ev
      omega
    obtain ⟨γ2, n2, t2⟩ := bindRs_ok how (id := id + 1) n1.hp hfr hus hsep (fun k r' u' b hk hk' ho hb j oj hj hl => by
      rcases bindR_obj j oj hj with h1 | ⟨h1, h2, _⟩
      · have hj' : γ1 j = γ j := k1 j fun hm => by
          have := hf j (List.mem_append_left _ hm)
          rw [this.1] at h1
          cases h1
        rw [hj']
        exact hex (k + 1) r' u' b (by simpa using hk) (by simpa using hk') ho hb j oj h1 hl
      · subst h1
        rw [k2 h2]
        intro hb'
        have := hs 0 (k + 1) r r' u u' b (by simp) (by simpa using hk) h2 ho (by simp) (by simpa using hk') hb' hb
        omega)
    refine ⟨γ2, ?_, fun k x hk => ?_⟩
    · rw [puts_append]
      exact n1.comp n2
    · rw [puts_append]
      cases k with
      | zero =>
        simp at hk
        subst hk
        refine ⟨u, by simp, ?_⟩
        have hT : RepT κ m γ1 (puts g (bindR id r).2) (bindR id r).1 u := by
          revert t1
          cases r <;> exact fun t1 => t1
        have := n2.mv _ _ (fun i hi hb => by
          have h1 := bindR_ment i hi
          have h2 := bindRs_fst i hb
          omega) hT
        revert this
        cases r <;> exact fun t => t
      | succ k =>
        simp at hk
        obtain ⟨v, hv, h3⟩ := t2 k x hk
        exact ⟨v, by simpa using hv, h3⟩

theorem bindRes_ok {Ow' : Nat → Prop} (how : ∀ b, Ow' b → Ow b) {rs : List RItem} {v : Value} {id : Nat} (h : Hp κ Ow m0 w0 g m γ w) (hf : ∀ i ∈ fsts (bindRes id rs).2, Fresh g i) (hr : RepRes κ m w Ow' rs v)
    (hex : ∀ b, Ow' b → ∀ j oj, g j = some oj → live oj = true → ¬ Exc m (γ j) b) :
    ∃ γ', Nx κ Ow m0 w0 g m γ w (fsts (bindRes id rs).2) (puts g (bindRes id rs).2) m γ' w ∧ RepT κ m γ' (puts g (bindRes id rs).2) (bindRes id rs).1 v := by
  have own : ∀ {r : RItem} {u : Value} {b : Nat}, RepR κ m w Ow' r u → r.isOwn = true → Exc m u b → Ow' b := by
    intro r u b hr ho hb
    cases r with
    | av x => simp [RItem.isOwn] at ho
    | own ex e sz xs => exact OwnRow.exc hr hb
  have many : ∀ {rs : List RItem}, (∃ us : Array Value, v = .tuple us ∧ RepRs κ m w Ow' rs us.toList ∧ Sep m rs us.toList) → (∀ i ∈ fsts (bindRs id rs).2, Fresh g i) →
      ∃ γ', Nx κ Ow m0 w0 g m γ w (fsts (bindRs id rs).2) (puts g (bindRs id rs).2) m γ' w ∧ RepT κ m γ' (puts g (bindRs id rs).2) (.tup (bindRs id rs).1) v := by
    intro rs hr hf
    obtain ⟨us, rfl, h1, h2⟩ := hr
    have get : ∀ {rs : List RItem} {us : List Value}, RepRs κ m w Ow' rs us → ∀ (k : Nat) (r : RItem) (u : Value), rs[k]? = some r → us[k]? = some u → RepR κ m w Ow' r u := by
      intro rs
      induction rs with
      | nil => intro us _ k r u hk; simp at hk
      | cons r0 rs ih =>
        intro us h k r u hk hu
        obtain ⟨u0, us', rfl, h3, h4⟩ := h
        cases k with
        | zero => simp at hk hu; subst hk hu; exact h3
        | succ k => simp at hk hu; exact ih h4 k r u hk hu
    obtain ⟨γ', n, t⟩ := bindRs_ok how h hf h1 h2 fun k r u b hk hu ho hb => hex b (own (get h1 k r u hk hu) ho hb)
    refine ⟨γ', n, us, rfl, fun i x hi => ?_⟩
    obtain ⟨v, hv, h3⟩ := t i x hi
    exact ⟨v, by simpa using hv, h3⟩
  cases rs with
  | nil => exact many hr hf
  | cons r rs =>
    cases rs with
    | nil =>
      obtain ⟨γ', n, t, _⟩ := bindR_ok (id := id) how h hf hr fun b ho hb => hex b (own hr ho hb)
      refine ⟨γ', n, ?_⟩
      revert t
      cases r <;> exact fun t => t
    | cons r2 rs => exact many hr hf
end
end Go.Sy

/- Calls that are told of the caller's own: contracts, names. -/
set_option linter.unusedVariables false
namespace Go.Sy
open Go.RowKit

section
variable {C : Ctx} {Ow : Nat → Prop} {m0 m m' : Mem} {γ γ' : Ga} {g g' : Gs} {w0 w W W' : World} {κ : Nat → Addr}

/-- Whose block a live object has. -/
def LiveB (g : Gs) (m : Mem) (γ : Ga) (b : Nat) : Prop := ∃ i o, g i = some o ∧ live o = true ∧ Exc m (γ i) b
/-- The call's own, told from here. -/
def OwF (g : Gs) (m : Mem) (γ : Ga) (W : World) (b : Nat) : Prop := W.heap.size ≤ b ∨ LiveB g m γ b

theorem OwnRow.ow {e : TypeId} {sz : Nat} {ex : Bool} {xs : List AV} {u : Value} {Ow' : Nat → Prop} (h : OwnRow κ m W Ow ex e sz xs u) (hOw : ∀ b, Exc m u b → Ow b → Ow' b) : OwnRow κ m W Ow' ex e sz xs u := by
  rcases h with ⟨us, b, cap, h1, h2, h3, h4, h5, h6⟩ | h | h
  · exact .inl ⟨us, b, cap, h1, h2, h3, h4, hOw b ⟨by simp [h1, blkOf], h6, by rw [h1]; intro a l he; cases he; omega⟩ h5, h6⟩
  · exact .inr (.inl h)
  · exact .inr (.inr h)
theorem RepO.ow {i : Nat} {o : SObj} {Ow' : Nat → Prop} (h : RepO κ m γ g W Ow i o) (hOw : ∀ b, live o = true → Exc m (γ i) b → Ow b → Ow' b) : RepO κ m γ g W Ow' i o := by
  cases o with
  | box cs =>
    obtain ⟨b, arr, e, h1, h2, h3, h4⟩ := h
    exact ⟨b, arr, e, h1, hOw b rfl ⟨by simp [h1, blkOf], h3, by simp [h1]⟩ h2, h3, h4⟩
  | row ex e sz xs => exact OwnRow.ow h fun b => hOw b rfl
  | fbox cs => exact h
  | frow xs => exact h
  | gh x u => exact h

theorem Hp.here (h : Hp κ Ow m0 w0 g m γ W) : Hp κ (OwF g m γ W) m W g m γ W :=
  ⟨MLe.refl m, fun _ _ => rfl, h.cons, Fr.refl _ _, fun b hb => .inl hb, fun i o ho => (h.objs i o ho).ow fun b hl hb _ => .inr ⟨i, o, ho, hl, hb⟩, h.inj⟩
theorem Hp.owF (h : Hp κ Ow m0 w0 g m γ W) : ∀ b, OwF g m γ W b → Ow b := fun b hb => by
  rcases hb with hb | ⟨i, o, ho, hl, hb⟩
  · exact h.own b hb
  · exact (h.exc ho hl hb).2
theorem Fr.wider {Ow Ow' : Nat → Prop} (h : Fr Ow w W) (hO : ∀ b, Ow b → Ow' b) : Fr Ow' w W := ⟨h.os, h.tape, h.output, h.size, fun b hb => h.block b fun ho => hb (hO b ho)⟩
theorem Hp.back (h : Hp κ Ow m0 w0 g m γ W) (k : Hp κ (OwF g m γ W) m W g' m' γ' W') : Hp κ Ow m0 w0 g' m' γ' W' :=
  ⟨h.ext.trans k.ext, fun b hb => (k.old b fun ho => hb (h.owF b ho)).trans (h.old b hb), k.cons, h.fr.trans (k.fr.wider h.owF), h.new, fun i o ho => (k.objs i o ho).ow fun b _ _ hb => h.owF b hb, k.inj⟩
theorem Hp.sub (h : Hp κ Ow m0 w0 g m γ W) (hs : ∀ i o, g' i = some o → g i = some o) : Hp κ Ow m0 w0 g' m γ W := by
  have hc : ∀ id, Cmp g γ g' γ id := fun id o' ho => ⟨o', hs id o' ho, fun l' hl => ⟨l', hl, Nat.le_refl _, fun _ => rfl⟩, fun hb => ⟨hb, rfl⟩, fun h => h⟩
  exact ⟨h.ext, h.old, h.cons, h.fr, h.new, fun i o ho => RepO.move (MLe.refl m) rfl (fun id _ => hc id) (fun b _ hb => ⟨rfl, hb.2.1⟩) (h.objs i o (hs i o ho)), fun i j oi oj b hi hj => h.inj i j oi oj b (hs i oi hi) (hs j oj hj)⟩

/-- THE CONTRACT of a function that is told of the caller's own objects: those of pre; behind it they are as post tells. -/
structure SoundX (C : Ctx) (f : FuncId) (args : List TV) (pre : List (Nat × SObj)) (res : TV) (post : List (Nat × SObj)) : Prop where
  callee : callee C.P f = true
  run : ∀ m w γ vs, GlobOK C m → Below C.W0.heap.size C.W0 w → (∀ b, b < C.W0.heap.size → ¬ OwF (look pre) m γ w b) → Hp C.κ (OwF (look pre) m γ w) m w (look pre) m γ w → RepTs C.κ m γ (look pre) args vs →
    Calls C.P f vs.toArray w fun e w' => ∃ v m' γ', e = .returned v ∧ Hp C.κ (OwF (look pre) m γ w) m w (look post) m' γ' w' ∧ RepT C.κ m' γ' (look post) res v ∧ ∀ id, (look pre id).isSome = true → Cmp (look pre) γ (look post) γ' id

/-! ### names -/
theorem lenO_ren (ρ : List (Nat × Nat)) (o : SObj) : lenO (renO ρ o) = lenO o := by cases o <;> rfl
theorem isBox_ren (ρ : List (Nat × Nat)) (o : SObj) : isBox (renO ρ o) = isBox o := by cases o <;> rfl
theorem isRow_ren (ρ : List (Nat × Nat)) (o : SObj) : isRow (renO ρ o) = isRow o := by cases o <;> rfl
theorem live_ren (ρ : List (Nat × Nat)) (o : SObj) : live (renO ρ o) = live o := by cases o <;> rfl

/-- The same objects under two names. -/
def Tw (ρ : List (Nat × Nat)) (gp : Gs) (γp : Ga) (g : Gs) (γ : Ga) (id : Nat) : Prop := γp id = γ (ren ρ id) ∧ ∀ o, gp id = some o → g (ren ρ id) = some (renO ρ o)
/-- .. and back. -/
def Tb (ρ : List (Nat × Nat)) (gp : Gs) (γp : Ga) (g : Gs) (γ : Ga) (id : Nat) : Prop := γp id = γ (ren ρ id) ∧ ∀ o', g (ren ρ id) = some o' → ∃ o, gp id = some o ∧ o' = renO ρ o

section
variable {ρ : List (Nat × Nat)} {gp : Gs} {γp : Ga}
theorem RepB.tw {id off : Nat} {u : Value} (h : RepB γ g (ren ρ id) off u) (k : Tw ρ gp γp g γ id) : RepB γp gp id off u := by
  refine ⟨h.1, fun o ho hb => ?_⟩
  obtain ⟨b, h1, h2⟩ := h.2 _ (k.2 o ho) (by rw [isBox_ren]; exact hb)
  exact ⟨b, k.1.trans h1, h2⟩
theorem RepB.tb {id off : Nat} {u : Value} (h : RepB γp gp id off u) (k : Tb ρ gp γp g γ id) : RepB γ g (ren ρ id) off u := by
  refine ⟨h.1, fun o ho hb => ?_⟩
  obtain ⟨o2, h3, rfl⟩ := k.2 o ho
  rw [isBox_ren] at hb
  obtain ⟨b, h1, h2⟩ := h.2 _ h3 hb
  exact ⟨b, k.1.symm.trans h1, h2⟩
theorem RepW.tw {id n : Nat} {u : Value} (h : RepW γ g (ren ρ id) n u) (k : Tw ρ gp γp g γ id) : RepW γp gp id n u := by
  refine ⟨h.1, fun o l ho hl => ?_⟩
  obtain ⟨h1, h2⟩ := h.2 _ l (k.2 o ho) (by rw [lenO_ren]; exact hl)
  exact ⟨h1, fun e => (h2 e).trans k.1.symm⟩
theorem RepW.tb {id n : Nat} {u : Value} (h : RepW γp gp id n u) (k : Tb ρ gp γp g γ id) : RepW γ g (ren ρ id) n u := by
  refine ⟨h.1, fun o l ho hl => ?_⟩
  obtain ⟨o2, h3, rfl⟩ := k.2 o ho
  rw [lenO_ren] at hl
  obtain ⟨h1, h2⟩ := h.2 _ l h3 hl
  exact ⟨h1, fun e => (h2 e).trans k.1⟩
theorem RepI.tw {id n sz i off : Nat} {u : Value} (h : RepI γ g (ren ρ id) n sz i off u) (k : Tw ρ gp γp g γ id) : RepI γp gp id n sz i off u := by
  refine ⟨h.1, fun o l ho hr hl => ?_⟩
  obtain ⟨h1, h2⟩ := h.2 _ l (k.2 o ho) (by rw [isRow_ren]; exact hr) (by rw [lenO_ren]; exact hl)
  rw [k.1]
  exact ⟨h1, h2⟩
theorem RepI.tb {id n sz i off : Nat} {u : Value} (h : RepI γp gp id n sz i off u) (k : Tb ρ gp γp g γ id) : RepI γ g (ren ρ id) n sz i off u := by
  refine ⟨h.1, fun o l ho hr hl => ?_⟩
  obtain ⟨o2, h3, rfl⟩ := k.2 o ho
  rw [lenO_ren] at hl
  rw [isRow_ren] at hr
  have := h.2 _ l h3 hr hl
  rwa [k.1] at this
theorem RepT0.tw {x : TV} {u : Value} (h : RepT0 κ m γ g (renT0 ρ x) u) (k : ∀ id ∈ x.ment, Tw ρ gp γp g γ id) : RepT0 κ m γp gp x u := by
  cases x with
  | av x => exact h
  | full xs => exact h
  | row id n => exact RepW.tw h (k id (by simp [TV.ment]))
  | box id off => exact RepB.tw h (k id (by simp [TV.ment]))
  | elem id n sz i off => exact RepI.tw h (k id (by simp [TV.ment]))
  | dead => trivial
  | clo f caps => exact h
  | tup xs => exact h
  | ag xs => exact h
theorem RepT0.tb {x : TV} {u : Value} (h : RepT0 κ m γp gp x u) (k : ∀ id ∈ x.ment, Tb ρ gp γp g γ id) : RepT0 κ m γ g (renT0 ρ x) u := by
  cases x with
  | av x => exact h
  | full xs => exact h
  | row id n => exact RepW.tb h (k id (by simp [TV.ment]))
  | box id off => exact RepB.tb h (k id (by simp [TV.ment]))
  | elem id n sz i off => exact RepI.tb h (k id (by simp [TV.ment]))
  | dead => trivial
  | clo f caps => exact h
  | tup xs => exact h
  | ag xs => exact h
theorem renC_get : ∀ {cs : List (Nat × Nat)} {i : Nat} {c : Nat × Nat}, cs[i]? = some c → (renC ρ cs)[i]? = some (ren ρ c.1, c.2)
  | [], i, c, h => by simp at h
  | (a, b) :: cs, 0, c, h => by simp at h; subst h; rfl
  | (a, b) :: cs, i + 1, c, h => by simp at h; simpa [renC] using renC_get h
theorem renC_len : ∀ (cs : List (Nat × Nat)), (renC ρ cs).length = cs.length
  | [] => rfl
  | (a, b) :: cs => by simp [renC, renC_len cs]
theorem renC_back : ∀ {cs : List (Nat × Nat)} {i : Nat} {c : Nat × Nat}, (renC ρ cs)[i]? = some c → ∃ d, cs[i]? = some d ∧ c = (ren ρ d.1, d.2)
  | [], i, c, h => by simp [renC] at h
  | (a, b) :: cs, 0, c, h => by simp [renC] at h; subst h; exact ⟨(a, b), rfl, rfl⟩
  | (a, b) :: cs, i + 1, c, h => by simp [renC] at h; simpa using renC_back h
theorem ment_sub {xs : List TV} {x : TV} {u : Value} (hx : x ∈ xs) (h : RepT0 κ m γ g x u) : ∀ id ∈ x.ment, id ∈ (TV.tup xs).ment := fun id hid =>
  ment_tup (κ := κ) (m := m) (γ := γ) (g := g) hx id (fun _ _ => trivial) (by cases x <;> first | trivial | exact h) hid
theorem RepT0.any {x : TV} {u : Value} (h : RepT0 κ m γ g (renT0 ρ x) u) : ∀ xs, x ∈ xs → ∀ id ∈ x.ment, id ∈ (TV.tup xs).ment := fun xs hx id hid =>
  ment_tup (κ := κ) (m := m) (γ := γ) (g := g) hx id (fun _ _ => trivial) (by cases x <;> first | trivial | exact h) hid
theorem RepT.tw {x : TV} {u : Value} (h : RepT κ m γ g (renT ρ x) u) (k : ∀ id ∈ x.ment, Tw ρ gp γp g γ id) : RepT κ m γp gp x u := by
  cases x with
  | clo f caps =>
    obtain ⟨vs, h1, h2, h3⟩ := h
    refine ⟨vs, h1, by rw [h2, renC_len], fun i c hi => ?_⟩
    obtain ⟨v, hv, h4⟩ := h3 i _ (renC_get hi)
    exact ⟨v, hv, RepB.tw h4 (k _ (by simp only [TV.ment, List.mem_map]; exact ⟨c, List.mem_of_getElem? hi, rfl⟩))⟩
  | tup xs =>
    obtain ⟨us, h1, h3⟩ := h
    refine ⟨us, h1, fun i x hi => ?_⟩
    obtain ⟨v, hv, h4⟩ := h3 i (renT0 ρ x) (by rw [List.getElem?_map, hi]; rfl)
    exact ⟨v, hv, h4.tw fun id hid => k id (h4.any xs (List.mem_of_getElem? hi) id hid)⟩
  | ag xs =>
    obtain ⟨us, h1, h2, h3⟩ := h
    refine ⟨us, h1, by simpa using h2, fun i x hi => ?_⟩
    obtain ⟨v, hv, ho, h4⟩ := h3 i (renT0 ρ x) (by rw [List.getElem?_map, hi]; rfl)
    exact ⟨v, hv, ho, h4.tw fun id hid => k id (h4.any xs (List.mem_of_getElem? hi) id hid)⟩
  | av x => exact h
  | full xs => exact h
  | row id n => exact RepT0.tw (κ := κ) (m := m) (x := .row id n) h k
  | box id off => exact RepT0.tw (κ := κ) (m := m) (x := .box id off) h k
  | elem id n sz i off => exact RepT0.tw (κ := κ) (m := m) (x := .elem id n sz i off) h k
  | dead => trivial
theorem RepT.tb {x : TV} {u : Value} (h : RepT κ m γp gp x u) (k : ∀ id ∈ x.ment, Tb ρ gp γp g γ id) : RepT κ m γ g (renT ρ x) u := by
  cases x with
  | clo f caps =>
    obtain ⟨vs, h1, h2, h3⟩ := h
    refine ⟨vs, h1, by rw [h2, renC_len], fun i c hi => ?_⟩
    obtain ⟨d, hd, rfl⟩ := renC_back hi
    obtain ⟨v, hv, h4⟩ := h3 i _ hd
    exact ⟨v, hv, RepB.tb h4 (k _ (by simp only [TV.ment, List.mem_map]; exact ⟨d, List.mem_of_getElem? hd, rfl⟩))⟩
  | tup xs =>
    obtain ⟨us, h1, h3⟩ := h
    refine ⟨us, h1, fun i x hi => ?_⟩
    rw [List.getElem?_map] at hi
    cases hx : xs[i]? with
    | none => rw [hx] at hi; cases hi
    | some y =>
      rw [hx] at hi
      cases hi
      obtain ⟨v, hv, h4⟩ := h3 i y hx
      exact ⟨v, hv, h4.tb fun id hid => k id (ment_sub (List.mem_of_getElem? hx) h4 id hid)⟩
  | ag xs =>
    obtain ⟨us, h1, h2, h3⟩ := h
    refine ⟨us, h1, by simpa using h2, fun i x hi => ?_⟩
    rw [List.getElem?_map] at hi
    cases hx : xs[i]? with
    | none => rw [hx] at hi; cases hi
    | some y =>
      rw [hx] at hi
      cases hi
      obtain ⟨v, hv, ho, h4⟩ := h3 i y hx
      exact ⟨v, hv, ho, h4.tb fun id hid => k id (ment_sub (List.mem_of_getElem? hx) h4 id hid)⟩
  | av x => exact h
  | full xs => exact h
  | row id n => exact RepT0.tb (κ := κ) (m := m) (x := .row id n) h k
  | box id off => exact RepT0.tb (κ := κ) (m := m) (x := .box id off) h k
  | elem id n sz i off => exact RepT0.tb (κ := κ) (m := m) (x := .elem id n sz i off) h k
  | dead => trivial
theorem RepTs.tw : ∀ {xs : List TV} {us : List Value}, RepTs κ m γ g (xs.map (renT ρ)) us → (∀ id ∈ TVs.ment xs, Tw ρ gp γp g γ id) → RepTs κ m γp gp xs us
  | [], us, h, _ => h
  | x :: xs, us, h, k => by
    obtain ⟨u, us', h1, h2, h3⟩ := h
    exact ⟨u, us', h1, h2.tw fun id hid => k id (by simp [TVs.ment, hid]), RepTs.tw h3 fun id hid => k id (by simp [TVs.ment, hid])⟩
/-- An object under another name. -/
theorem RepO.tw {Ow' : Nat → Prop} {i : Nat} {o : SObj} (h : RepO κ m γ g w Ow (ren ρ i) (renO ρ o)) (k : ∀ id ∈ o.ment, Tw ρ gp γp g γ id) (hi : γp i = γ (ren ρ i)) (hO : ∀ b, live o = true → Exc m (γ (ren ρ i)) b → Ow b → Ow' b) : RepO κ m γp gp w Ow' i o := by
  cases o with
  | box cs =>
    obtain ⟨b, arr, e, h1, h2, h3, h4, h5, h6⟩ := h
    refine ⟨b, arr, e, hi.trans h1, hO b rfl ⟨by simp [h1, blkOf], h3, by simp [h1]⟩ h2, h3, h4, by simpa using h5, fun j c hj => ?_⟩
    obtain ⟨u, hu, h9, h10⟩ := h6 j (renT ρ c) (by rw [List.getElem?_map, hj]; rfl)
    exact ⟨u, hu, h9, h10.tw fun id hid => k id (TVs.mem_ment hj id hid)⟩
  | row ex e sz xs =>
    simp only [RepO, hi]
    exact OwnRow.ow h fun b => hO b rfl
  | fbox cs =>
    obtain ⟨b, h1, h2⟩ := h
    exact ⟨b, hi.trans h1, h2⟩
  | frow xs =>
    simp only [RepO, hi]
    exact h
  | gh x u => exact RepT.tw (κ := κ) (m := m) h k
theorem RepO.tb {Ow' : Nat → Prop} {i : Nat} {o : SObj} (h : RepO κ m γp gp w Ow i o) (k : ∀ id ∈ o.ment, Tb ρ gp γp g γ id) (hi : γp i = γ (ren ρ i)) (hO : ∀ b, live o = true → Exc m (γp i) b → Ow b → Ow' b) : RepO κ m γ g w Ow' (ren ρ i) (renO ρ o) := by
  cases o with
  | box cs =>
    obtain ⟨b, arr, e, h1, h2, h3, h4, h5, h6⟩ := h
    refine ⟨b, arr, e, hi.symm.trans h1, hO b rfl ⟨by simp [h1, blkOf], h3, by simp [h1]⟩ h2, h3, h4, by simpa using h5, fun j c hj => ?_⟩
    rw [List.getElem?_map] at hj
    cases hx : cs[j]? with
    | none => rw [hx] at hj; cases hj
    | some y =>
      rw [hx] at hj
      cases hj
      obtain ⟨u, hu, h9, h10⟩ := h6 j y hx
      exact ⟨u, hu, h9, h10.tb fun id hid => k id (TVs.mem_ment hx id hid)⟩
  | row ex e sz xs =>
    simp only [RepO, renO, ← hi]
    exact OwnRow.ow h fun b => hO b rfl
  | fbox cs =>
    obtain ⟨b, h1, h2⟩ := h
    exact ⟨b, hi.symm.trans h1, h2⟩
  | frow xs =>
    simp only [RepO, renO, ← hi]
    exact h
  | gh x u => exact RepT.tb (κ := κ) (m := m) h k
end
end
end Go.Sy

/- Calls that are told of the caller's own: the memory behind such a call. -/
set_option linter.unusedVariables false
namespace Go.Sy
open Go.RowKit

theorem subB_mem : ∀ {a b : List Nat}, subB a b = true → ∀ i ∈ a, i ∈ b
  | [], b, _, i, hi => by simp at hi
  | x :: a, b, h, i, hi => by
    simp only [subB, Bool.and_eq_true, List.contains_eq_mem, decide_eq_true_eq] at h
    rcases List.mem_cons.1 hi with rfl | hi
    · exact h.1
    · exact subB_mem h.2 i hi
theorem nodB_nodup : ∀ {a : List Nat}, nodB a = true → a.Nodup
  | [], _ => List.nodup_nil
  | x :: a, h => by
    simp only [nodB, Bool.and_eq_true, Bool.not_eq_true', List.contains_eq_mem, decide_eq_false_iff_not] at h
    exact List.nodup_cons.2 ⟨h.1, nodB_nodup h.2⟩
theorem look_in {α : Type} : ∀ {l : List (Nat × α)} {t : Nat} {x : α}, look l t = some x → (t, x) ∈ l
  | [], t, x, h => by simp [look] at h
  | (k, y) :: r, t, x, h => by
    simp only [look] at h
    cases hk : k == t with
    | true =>
      rw [hk] at h; cases h
      have : k = t := by simpa using hk
      subst this; simp
    | false => rw [hk] at h; exact List.mem_cons_of_mem _ (look_in h)
theorem fsts_in {l : List (Nat × SObj)} {i : Nat} {o : SObj} (h : (i, o) ∈ l) : i ∈ fsts l := by
  induction l with
  | nil => simp at h
  | cons p l ih =>
    rcases List.mem_cons.1 h with rfl | h
    · simp [fsts]
    · simp [fsts, ih h]
theorem fsts_out {l : List (Nat × SObj)} {i : Nat} (h : i ∈ fsts l) : ∃ o, (i, o) ∈ l := by
  induction l with
  | nil => simp [fsts] at h
  | cons p l ih =>
    simp only [fsts, List.mem_cons] at h
    rcases h with rfl | h
    · exact ⟨p.2, by simp⟩
    · obtain ⟨o, ho⟩ := ih h
      exact ⟨o, List.mem_cons_of_mem _ ho⟩
theorem look_of_in {l : List (Nat × SObj)} (hn : (fsts l).Nodup) {i : Nat} {o : SObj} (h : (i, o) ∈ l) : look l i = some o := by
  induction l with
  | nil => simp at h
  | cons p l ih =>
    simp only [fsts, List.nodup_cons] at hn
    rcases List.mem_cons.1 h with rfl | h
    · simp [look]
    · have hne : p.1 ≠ i := fun e => hn.1 (e ▸ fsts_in h)
      have : (p.1 == i) = false := by simpa using hne
      simp [look, this, ih hn.2 h]
theorem renW_in {ρ : List (Nat × Nat)} {l : List (Nat × SObj)} {i : Nat} {o : SObj} (h : (i, o) ∈ l) : (ren ρ i, renO ρ o) ∈ renW ρ l := by
  induction l with
  | nil => simp at h
  | cons p l ih =>
    obtain ⟨a, b⟩ := p
    rcases List.mem_cons.1 h with h | h
    · cases h; simp [renW]
    · simp [renW, ih h]
theorem renW_out {ρ : List (Nat × Nat)} {l : List (Nat × SObj)} {j : Nat} {o : SObj} (h : (j, o) ∈ renW ρ l) : ∃ i o', (i, o') ∈ l ∧ j = ren ρ i ∧ o = renO ρ o' := by
  induction l with
  | nil => simp [renW] at h
  | cons p l ih =>
    obtain ⟨a, b⟩ := p
    simp only [renW, List.mem_cons] at h
    rcases h with h | h
    · cases h; exact ⟨a, b, by simp, rfl, rfl⟩
    · obtain ⟨i, o', h1, h2⟩ := ih h
      exact ⟨i, o', List.mem_cons_of_mem _ h1, h2⟩
theorem fsts_renW (ρ : List (Nat × Nat)) : ∀ l : List (Nat × SObj), fsts (renW ρ l) = (fsts l).map (ren ρ)
  | [] => rfl
  | (a, b) :: l => by simp [renW, fsts, fsts_renW ρ l]
theorem onO_in {g : Gs} {l : List (Nat × SObj)} (h : onO g l) {i : Nat} {o : SObj} (hi : (i, o) ∈ l) : g i = some o := by
  induction l with
  | nil => simp at hi
  | cons p l ih =>
    obtain ⟨a, b⟩ := p
    rcases List.mem_cons.1 hi with hi | hi
    · cases hi; exact h.1
    · exact ih h.2 hi
theorem keys_look {ρ : List (Nat × Nat)} {i : Nat} (h : i ∈ keysOf ρ) : (i, ren ρ i) ∈ ρ := by
  induction ρ with
  | nil => simp [keysOf] at h
  | cons p ρ ih =>
    obtain ⟨a, b⟩ := p
    by_cases ha : a = i
    · subst ha; simp [ren, look]
    · simp only [keysOf, List.mem_cons] at h
      have h1 := ih (h.resolve_left (fun e => ha e.symm))
      have h2 : (a == i) = false := by simpa using ha
      have h3 : ren ((a, b) :: ρ) i = ren ρ i := by simp [ren, look, h2]
      rw [h3]
      exact List.mem_cons_of_mem _ h1
theorem vals_in {ρ : List (Nat × Nat)} {p : Nat × Nat} (h : p ∈ ρ) : p.2 ∈ valsOf ρ := by
  induction ρ with
  | nil => simp at h
  | cons q ρ ih =>
    rcases List.mem_cons.1 h with rfl | h
    · simp [valsOf]
    · simp [valsOf, ih h]
theorem vals_inj {ρ : List (Nat × Nat)} (hn : (valsOf ρ).Nodup) : ∀ {a b c : Nat}, (a, c) ∈ ρ → (b, c) ∈ ρ → a = b := by
  induction ρ with
  | nil => intro a b c h; simp at h
  | cons q ρ ih =>
    simp only [valsOf, List.nodup_cons] at hn
    intro a b c h1 h2
    rcases List.mem_cons.1 h1 with h1 | h1 <;> rcases List.mem_cons.1 h2 with h2 | h2
    · rw [← h1] at h2; cases h2; rfl
    · exact absurd (show q.2 ∈ valsOf ρ by rw [← h1]; exact vals_in (p := (b, c)) h2) hn.1
    · exact absurd (show q.2 ∈ valsOf ρ by rw [← h2]; exact vals_in (p := (a, c)) h1) hn.1
    · exact ih hn.2 h1 h2
theorem ren_inj {ρ : List (Nat × Nat)} (hn : (valsOf ρ).Nodup) {i j : Nat} (hi : i ∈ keysOf ρ) (hj : j ∈ keysOf ρ) (h : ren ρ i = ren ρ j) : i = j :=
  vals_inj hn (keys_look hi) (h ▸ keys_look hj)
theorem newIds_in : ∀ {a b : List Nat} {i : Nat}, i ∈ a → i ∉ b → i ∈ newIds a b
  | [], b, i, h, _ => by simp at h
  | x :: a, b, i, h, hb => by
    simp only [newIds]
    rcases List.mem_cons.1 h with rfl | h
    · have : b.contains i = false := by simpa using hb
      rw [this]; simp
    · cases hc : b.contains x with
      | true => simpa using newIds_in h hb
      | false => simp [newIds_in h hb]
theorem fsts_map' : ∀ (l : List (Nat × SObj)), fsts l = l.map (·.1)
  | [] => rfl
  | x :: l => by simp [fsts, fsts_map' l]
theorem puts_at : ∀ {l : List (Nat × SObj)} {g : Gs}, (fsts l).Nodup → ∀ {i : Nat} {o : SObj}, (i, o) ∈ l → puts g l i = some o
  | [], g, _, i, o, h => by simp at h
  | (a, b) :: l, g, hn, i, o, h => by
    simp only [fsts, List.nodup_cons] at hn
    rcases List.mem_cons.1 h with h | h
    · cases h
      simp only [puts]
      rw [puts_other (by rw [← fsts_map']; exact hn.1), upd_same]
    · exact puts_at hn.2 h

section
variable {C : Ctx} {Ow : Nat → Prop} {m0 m m' : Mem} {γ γq : Ga} {g : Gs} {w0 w w' : World} {κ : Nat → Addr}

/-- THE MEMORY ABOUT SUCH A CALL. -/
theorem callX_ok {ρ : List (Nat × Nat)} {pre post : List (Nat × SObj)} {res : TV} (h : Hp κ Ow m0 w0 g m γ w) (hOK : xOK ρ pre res post = true) (hpre : onO g (renW ρ pre))
    (hfr : ∀ i ∈ newIds (fsts (renW ρ post)) (fsts (renW ρ pre)), Fresh g i) :
    Hp κ (OwF (look pre) m (fun i => γ (ren ρ i)) w) m w (look pre) m (fun i => γ (ren ρ i)) w ∧ (∀ id, Tw ρ (look pre) (fun i => γ (ren ρ i)) g γ id) ∧ (∀ b, OwF (look pre) m (fun i => γ (ren ρ i)) w b → Ow b) ∧
    ∀ (m' : Mem) (γq : Ga) (w' : World), Hp κ (OwF (look pre) m (fun i => γ (ren ρ i)) w) m w (look post) m' γq w' → (∀ id, (look pre id).isSome = true → Cmp (look pre) (fun i => γ (ren ρ i)) (look post) γq id) →
      ∃ γ', Nx κ Ow m0 w0 g m γ w (newIds (fsts (renW ρ post)) (fsts (renW ρ pre))) (puts g (renW ρ post)) m' γ' w' ∧
        ∀ (x : TV) v, RepT κ m' γq (look post) x v → (∀ id ∈ x.ment, id ∈ fsts post) → RepT κ m' γ' (puts g (renW ρ post)) (renT ρ x) v := by
  simp only [xOK, Bool.and_eq_true] at hOK
  obtain ⟨⟨⟨⟨⟨⟨⟨⟨hn1, hn2⟩, hn3⟩, hk1⟩, hk2⟩, hk3⟩, hk4⟩, hl1⟩, hl2⟩ := hOK
  have nd1 := nodB_nodup hn1
  have nd2 := nodB_nodup hn2
  have nd3 := nodB_nodup hn3
  have key : ∀ i ∈ fsts post, i ∈ keysOf ρ := subB_mem hk1
  have pp : ∀ i ∈ fsts pre, i ∈ fsts post := subB_mem hk2
  have mt : ∀ i ∈ mentW post, i ∈ fsts post := subB_mem hk4
  have hTw : ∀ id, Tw ρ (look pre) (fun i => γ (ren ρ i)) g γ id := fun id => ⟨rfl, fun o ho => onO_in hpre (renW_in (look_in ho))⟩
  have hobj : ∀ i o, look pre i = some o → RepO κ m γ g w Ow (ren ρ i) (renO ρ o) := fun i o ho => h.objs _ _ ((hTw i).2 o ho)
  have hOwF : ∀ b, OwF (look pre) m (fun i => γ (ren ρ i)) w b → Ow b := by
    rintro b (hb | ⟨i, o, ho, hl, hx⟩)
    · exact h.own b hb
    · exact (h.exc ((hTw i).2 o ho) (by rw [live_ren]; exact hl) hx).2
  have hA : Hp κ (OwF (look pre) m (fun i => γ (ren ρ i)) w) m w (look pre) m (fun i => γ (ren ρ i)) w := by
    refine ⟨MLe.refl m, fun _ _ => rfl, h.cons, Fr.refl _ _, fun b hb => .inl hb, fun i o ho => ?_, fun i j oi oj b hi hj li lj bi bj => ?_⟩
    · exact (hobj i o ho).tw (fun id _ => hTw id) rfl fun b hl hx _ => .inr ⟨i, o, ho, hl, hx⟩
    · have := h.inj _ _ _ _ b ((hTw i).2 oi hi) ((hTw j).2 oj hj) (by rw [live_ren]; exact li) (by rw [live_ren]; exact lj) bi bj
      exact ren_inj nd3 (key _ (pp _ (fsts_in (look_in hi)))) (key _ (pp _ (fsts_in (look_in hj)))) this
  refine ⟨hA, hTw, hOwF, fun m' γq w' hq hcmp => ?_⟩
  have rinj : ∀ i ∈ fsts post, ∀ j ∈ fsts post, ren ρ i = ren ρ j → i = j := fun i hi j hj e => ren_inj nd3 (key i hi) (key j hj) e
  have ndW : (fsts (renW ρ post)).Nodup := by
    rw [fsts_renW]
    have : ∀ l : List Nat, l.Nodup → (∀ i ∈ l, i ∈ fsts post) → (l.map (ren ρ)).Nodup := by
      intro l
      induction l with
      | nil => intro _ _; exact List.nodup_nil
      | cons a l ih =>
        intro hl hs
        rw [List.nodup_cons] at hl
        rw [List.map_cons, List.nodup_cons]
        refine ⟨fun hm => ?_, ih hl.2 fun i hi => hs i (List.mem_cons_of_mem _ hi)⟩
        obtain ⟨b, hb, he⟩ := List.mem_map.1 hm
        have := rinj b (hs b (List.mem_cons_of_mem _ hb)) a (hs a (by simp)) he
        subst this
        exact hl.1 hb
    exact this _ nd2 fun i hi => hi
  -- the handles behind the call
  obtain ⟨γ', hγ1, hγ2⟩ : ∃ γ' : Ga, (∀ i ∈ fsts post, γ' (ren ρ i) = γq i) ∧ ∀ j, j ∉ fsts (renW ρ post) → γ' j = γ j := by
    classical
    refine ⟨fun j => if hj : ∃ i, i ∈ fsts post ∧ ren ρ i = j then γq (Classical.choose hj) else γ j, fun i hi => ?_, fun j hj => ?_⟩
    · have hex : ∃ k, k ∈ fsts post ∧ ren ρ k = ren ρ i := ⟨i, hi, rfl⟩
      have hc := Classical.choose_spec hex
      simp only [hex, dif_pos]
      rw [rinj _ hc.1 i hi hc.2]
    · have : ¬ ∃ i, i ∈ fsts post ∧ ren ρ i = j := by
        rintro ⟨i, hi, rfl⟩
        exact hj (by rw [fsts_renW]; exact List.mem_map.2 ⟨i, hi, rfl⟩)
      simp only [this, dif_neg, not_false_eq_true]
  have gIn : ∀ i o, (i, o) ∈ post → puts g (renW ρ post) (ren ρ i) = some (renO ρ o) := fun i o hi => puts_at ndW (renW_in hi)
  have gOut : ∀ j, j ∉ fsts (renW ρ post) → puts g (renW ρ post) j = g j := fun j hj => puts_other (by rw [← fsts_map']; exact hj)
  have hK : ∀ j, j ∈ fsts (renW ρ post) → ∃ i ∈ fsts post, j = ren ρ i := fun j hj => by
    rw [fsts_renW] at hj
    obtain ⟨i, hi, e⟩ := List.mem_map.1 hj
    exact ⟨i, hi, e.symm⟩
  have hTb : ∀ id ∈ fsts post, Tb ρ (look post) γq (puts g (renW ρ post)) γ' id := fun id hid => by
    refine ⟨(hγ1 id hid).symm, fun o' ho' => ?_⟩
    obtain ⟨o, ho⟩ := fsts_out hid
    rw [gIn id o ho] at ho'
    exact ⟨o, look_of_in nd2 ho, (Option.some.inj ho').symm⟩
  have hpin : ∀ i o, look post i = some o → i ∈ fsts post := fun i o ho => fsts_in (look_in ho)
  have hmo : ∀ i o, look post i = some o → ∀ id ∈ o.ment, id ∈ fsts post := fun i o ho id hid => mt id (by
    have := look_in ho
    clear ho
    induction post with
    | nil => simp at this
    | cons p l ih =>
      simp only [mentW, List.mem_append]
      rcases List.mem_cons.1 this with h1 | h1
      · rw [← h1]; exact .inl hid
      · right
        clear ih
        have : ∀ l : List (Nat × SObj), (i, o) ∈ l → id ∈ mentW l := by
          intro l
          induction l with
          | nil => intro h; simp at h
          | cons q l ih =>
            intro h
            simp only [mentW, List.mem_append]
            rcases List.mem_cons.1 h with h | h
            · rw [← h]; exact .inl hid
            · exact .inr (ih h)
        exact this l h1)
  -- what is known of an object of the caller's stays true
  have hC : ∀ id, id ∉ newIds (fsts (renW ρ post)) (fsts (renW ρ pre)) → Cmp g γ (puts g (renW ρ post)) γ' id := by
    intro id hnew
    by_cases hk : id ∈ fsts (renW ρ post)
    · have hpre' : id ∈ fsts (renW ρ pre) := by
        by_cases hp : id ∈ fsts (renW ρ pre)
        · exact hp
        · exact absurd (newIds_in hk hp) hnew
      rw [fsts_renW] at hpre'
      obtain ⟨p, hp, rfl⟩ := List.mem_map.1 hpre'
      obtain ⟨op, hop⟩ := fsts_out hp
      have hlp : look pre p = some op := look_of_in nd1 hop
      have hc := hcmp p (by rw [hlp]; rfl)
      intro o' ho'
      obtain ⟨oq, hoq, rfl⟩ := (hTb p (pp p hp)).2 o' ho'
      obtain ⟨o, h1, h2, h3, h4⟩ := hc oq hoq
      refine ⟨renO ρ o, (hTw p).2 o h1, fun l' hl => ?_, fun hb => ?_, fun hr => ?_⟩
      · rw [lenO_ren] at hl
        obtain ⟨l, k1, k2, k3⟩ := h2 l' hl
        exact ⟨l, by rw [lenO_ren]; exact k1, k2, fun e => (hγ1 p (pp p hp)).trans (k3 e)⟩
      · rw [isBox_ren] at hb
        obtain ⟨k1, k2⟩ := h3 hb
        exact ⟨by rw [isBox_ren]; exact k1, (hγ1 p (pp p hp)).trans k2⟩
      · rw [isRow_ren] at hr ⊢
        exact h4 hr
    · exact Cmp.same (gOut id hk) (hγ2 id hk)
  have hment : ∀ i o, g i = some o → ∀ id ∈ o.ment, id ∉ newIds (fsts (renW ρ post)) (fsts (renW ρ pre)) := fun i o ho id hid hnew => (hfr id hnew).2 i o ho hid
  refine ⟨γ', ⟨?_, hq.ext, fun x u hx hr => hr.move hq.ext fun id hid => hC id (hx id hid)⟩, fun x v hx hm => hx.tb fun id hid => hTb id (hm id hid)⟩
  refine h.step (K := fun i => i ∈ fsts (renW ρ post)) hq.ext (fun b hb => hq.old b fun ho => hb (hOwF b ho)) hq.cons (hq.fr.wider hOwF) (fun i hi => ⟨gOut i hi, hγ2 i hi⟩) ?_ (fun i o id hi ho hid => hC id (hment i o ho id hid)) ?_ ?_
  · intro i o b hi ho hl hx
    have hno : ¬ OwF (look pre) m (fun i => γ (ren ρ i)) w b := by
      rintro (hb | ⟨p, op, hop, hlp, hxp⟩)
      · have := (h.exc ho hl hx).1; omega
      · have := h.inj i (ren ρ p) o _ b ho ((hTw p).2 op hop) hl (by rw [live_ren]; exact hlp) hx hxp
        subst this
        exact hi (by rw [fsts_renW]; exact List.mem_map.2 ⟨p, pp p (fsts_in (look_in hop)), rfl⟩)
    exact ⟨hq.fr.block b hno, fun o' => by rw [hq.old b hno]; exact hx.2.1 o'⟩
  · intro j o hj ho
    obtain ⟨i, hi, rfl⟩ := hK j hj
    obtain ⟨oq, hoq, rfl⟩ := (hTb i hi).2 o ho
    exact (hq.objs i oq hoq).tb (fun id hid => hTb id (hmo i oq hoq id hid)) (hγ1 i hi).symm fun b _ _ hb => hOwF b hb
  · intro j k oj ok b hj hoj hok lj lk bj bk
    obtain ⟨i, hi, rfl⟩ := hK j hj
    obtain ⟨oi, hoi, rfl⟩ := (hTb i hi).2 oj hoj
    rw [live_ren] at lj
    have bi : Exc m' (γq i) b := by rw [← hγ1 i hi]; exact bj
    by_cases hk : k ∈ fsts (renW ρ post)
    · obtain ⟨i2, hi2, rfl⟩ := hK k hk
      obtain ⟨o2, ho2, rfl⟩ := (hTb i2 hi2).2 ok hok
      rw [live_ren] at lk
      have b2 : Exc m' (γq i2) b := by rw [← hγ1 i2 hi2]; exact bk
      rw [hq.inj i i2 oi o2 b hoi ho2 lj lk bi b2]
    · exfalso
      rw [gOut k hk] at hok
      rw [hγ2 k hk] at bk
      have bk' := bk.back hq.ext
      rcases (hq.exc hoi lj bi).2 with hb | ⟨p, op, hop, hlp, hxp⟩
      · have := (h.exc hok lk bk').1; omega
      · have := h.inj k (ren ρ p) ok _ b hok ((hTw p).2 op hop) lk (by rw [live_ren]; exact hlp) bk' hxp
        subst this
        exact hk (by rw [fsts_renW]; exact List.mem_map.2 ⟨p, pp p (fsts_in (look_in hop)), rfl⟩)
end
end Go.Sy

/- Soundness, part 17: one operation of a state. -/
set_option linter.unusedVariables false
namespace Go.Sy
open Go.RowKit

/-- What stays the same in a call. -/
structure Cx (C : Ctx) (Ow : Nat → Prop) (m0 : Mem) (w0 : World) : Prop where
  hT : ∀ t i, C.T t = some i → tyOf C.P t = some i
  glob : GlobOK C m0
  W : Below C.W0.heap.size C.W0 w0
  low : ∀ b, b < C.W0.heap.size → ¬ Ow b
  SX : ∀ f args pre res post, C.M.SX f args pre res post → SoundX C f args pre res post

structure Rel (C : Ctx) (Ow : Nat → Prop) (m0 : Mem) (w0 : World) (N : Nat) (s : St) (a : Act) (w : World) : Prop where
  size : N ≤ a.tmps.size
  defers : a.defers = []
  mem : ∃ m γ, Hp C.κ Ow m0 w0 s.g0 m γ w ∧ ∀ t x, look s.tmps t = some x → ∃ u, a.tmps[t]? = some u ∧ RepT C.κ m γ s.g0 x u

section
variable {C : Ctx} {Ow : Nat → Prop} {m0 m : Mem} {γ : Ga} {w0 w : World} {N : Nat} {s s' : St} {a : Act}

theorem GlobOK.mono {m' : Mem} (h : GlobOK C m) (hm : MLe m m') : GlobOK C m' := fun g x hg => by
  obtain ⟨u, h1, h2, h3⟩ := h g x hg
  exact ⟨u, hm _ _ _ h1, h2, h3.mono hm⟩
theorem ev_ok (hX : Cx C Ow m0 w0) (h : Hp C.κ Ow m0 w0 s.g0 m γ w) (ht : ∀ t x, look s.tmps t = some x → ∃ u, a.tmps[t]? = some u ∧ RepT C.κ m γ s.g0 x u) : ∀ x v, s.ev C x = some v → RepT C.κ m γ s.g0 v (a.eval x) := by
  intro x v hx
  cases x with
  | tmp t =>
    obtain ⟨u, h1, h2⟩ := ht t v hx
    have : a.eval (.tmp t) = u := by simp [Act.eval, h1]
    rw [this]; exact h2
  | const c => cases hx; exact toTV_ok c
  | global g =>
    simp only [St.ev] at hx
    cases hg : C.G g with
    | none => simp [hg] at hx
    | some y =>
      simp [hg] at hx
      subst hx
      obtain ⟨u, h1, h2, h3⟩ := hX.glob g y hg
      simp only [RepT, RepT0, RepV]
      exact ⟨g, 0, rfl, ⟨u, h.ext _ _ _ h1, h2, h3.mono h.ext⟩, trivial⟩
  | func f =>
    cases hx
    simp only [RepT, RepT0, RepV]
    exact ⟨#[], rfl, rfl⟩

theorem look_setD (l : List (Nat × TV)) (d : Option Tmp) (x : TV) (t : Nat) : look (setD l d x) t = if d = some t then some x else look l t := by
  cases d with
  | none => simp [setD]
  | some d => simp [setD, look_put]
theorem tmps_put {d : Option Tmp} {v : Value} {t : Nat} (hd : ∀ t, d = some t → t < a.tmps.size) : (a.put d v).tmps[t]? = if d = some t then some v else a.tmps[t]? := by
  cases d with
  | none => simp [Act.put]
  | some d =>
    have := hd d rfl
    simp only [Act.put, Array.getElem?_setIfInBounds, Option.some.injEq]
    by_cases h : d = t
    · subst h; simp [this]
    · simp [h]
theorem size_put (d : Option Tmp) (v : Value) : (a.put d v).tmps.size = a.tmps.size := by cases d <;> simp [Act.put]
theorem defers_put (d : Option Tmp) (v : Value) : (a.put d v).defers = a.defers := by cases d <;> rfl

/-- A value is put, memory has made a step. -/
theorem Rel.put {d : Option Tmp} {v : Value} {tv : TV} {ws : List (Nat × SObj)} {nw : List Nat} {m' : Mem} {γ' : Ga} {w' : World} (hR : Rel C Ow m0 w0 N s a w) (hd : ∀ t, d = some t → t < N)
    (ht : ∀ t x, look s.tmps t = some x → ∃ u, a.tmps[t]? = some u ∧ RepT C.κ m γ s.g0 x u) (hn : Nx C.κ Ow m0 w0 s.g0 m γ w nw (puts s.g0 ws) m' γ' w') (hfr : ∀ i ∈ nw, SFr s i) (hv : RepT C.κ m' γ' (puts s.g0 ws) tv v) :
    Rel C Ow m0 w0 N { tmps := setD s.tmps d tv, objs := putAll s.objs ws } (a.put d v) w' := by
  refine ⟨by rw [size_put]; exact hR.size, by rw [defers_put]; exact hR.defers, m', γ', ?_, fun t x hx => ?_⟩
  · simp only [St.g0, look_putAll]; exact hn.hp
  · simp only [St.g0, look_putAll]
    rw [look_setD] at hx
    rw [tmps_put fun t ht => Nat.lt_of_lt_of_le (hd t ht) hR.size]
    split at hx
    · rename_i h1
      cases hx
      exact ⟨v, by rw [if_pos h1], hv⟩
    · rename_i h1
      obtain ⟨u, h2, h3⟩ := ht t x hx
      refine ⟨u, by rw [if_neg h1]; exact h2, hn.mv x u (fun i hi hb => ?_) h3⟩
      exact (hfr i hb).1 t x hx hi

theorem evs_evl : ∀ (xs : List Operand), s.evs C xs = s.evl C xs
  | [] => rfl
  | x :: xs => by simp only [St.evs, St.evl, evs_evl xs] <;> rfl
theorem RepTs.append {κ : Nat → Addr} {g : Gs} : ∀ {xs ys : List TV} {us vs : List Value}, RepTs κ m γ g xs us → RepTs κ m γ g ys vs → RepTs κ m γ g (xs ++ ys) (us ++ vs)
  | [], ys, us, vs, h, k => by simp only [RepTs] at h; subst h; exact k
  | x :: xs, ys, us, vs, h, k => by
    obtain ⟨u, us', rfl, h1, h2⟩ := h
    exact ⟨u, us' ++ vs, rfl, h1, h2.append k⟩

/-- What is called, and with what. -/
theorem callOf_ok (hρ : ∀ x v, s.ev C x = some v → RepT C.κ m γ s.g0 v (a.eval x)) {fo : Operand} {args : Array Operand} {f : FuncId} {xs : List TV} (h : callOf C s fo args = some (f, xs)) :
    ∃ vs : Array Value, a.eval fo = .func (.func f) #[] vs ∧ RepTs C.κ m γ s.g0 xs (args.toList.map a.eval ++ vs.toList) := by
  unfold callOf at h
  rw [evs_evl] at h
  split at h
  · rename_i g cap ys h1 h2
    cases h
    have := hρ _ _ h1
    simp only [RepT, RepT0, RepV] at this
    obtain ⟨vs, hv, hL⟩ := this
    refine ⟨vs, hv, (evl_ok hρ h2).append (RepTs.mk (by have := hL.length; simpa using this) fun j x hj => ?_)⟩
    rw [List.getElem?_map] at hj
    cases hc : cap[j]? with
    | none => simp [hc] at hj
    | some y =>
      simp [hc] at hj
      subst hj
      obtain ⟨u, hu, _, h3⟩ := hL.get hc
      exact ⟨u, hu, h3⟩
  · rename_i g caps ys h1 h2
    cases h
    obtain ⟨vs, hv, hl, hp⟩ := hρ _ _ h1
    refine ⟨vs, hv, (evl_ok hρ h2).append (RepTs.mk (by simpa using hl) fun j x hj => ?_)⟩
    rw [List.getElem?_map] at hj
    cases hc : caps[j]? with
    | none => simp [hc] at hj
    | some y =>
      simp [hc] at hj
      subst hj
      obtain ⟨u, hu, h3⟩ := hp j y hc
      exact ⟨u, by simpa using hu, h3⟩
  · cases h

theorem isCall_spec {op : Op} {fo : Operand} {args : Array Operand} (h : isCall op = some (fo, args)) : ∃ ts, op = .call ⟨.value fo, args, ts⟩ := by
  unfold isCall at h
  split at h
  · cases h; exact ⟨_, rfl⟩
  · cases h

theorem run_call {f : FuncId} {fo : Operand} {args : Array Operand} {ts : Array TypeId} {type : TypeId} {vs : Array Value} (hf : callee C.P f = true) (hv : a.eval fo = .func (.func f) #[] vs) :
    (do let d ← resolve a.eval ⟨.value fo, args, ts⟩ type; invoke d.target d.args : Sem Next).run C.P w = .ok (.enter f (args.toList.map a.eval ++ vs.toList).toArray) w := by
  unfold callee at hf
  split at hf
  · rename_i fn hfn
    simp only [Bool.and_eq_true, Bool.not_eq_true'] at hf
    obtain ⟨c, hc⟩ := Option.isSome_iff_exists.1 hf.2
    have hargs : #[] ++ args.map a.eval ++ vs = (args.toList.map a.eval ++ vs.toList).toArray := Array.toList_inj.1 (by simp)
    have hnm : fn.name ≠ "runtime.NumGoroutine" := by simpa using hf.1
    have : (callFunc f (args.toList.map a.eval ++ vs.toList).toArray).run C.P w = .ok (.enter f (args.toList.map a.eval ++ vs.toList).toArray) w := by simp [callFunc, hfn, hnm, hc]
    simp only [resolve, hv, Deferred.ofValue, invoke, pure_bind]
    rw [hargs]
    exact this
  · cases hf

theorem flat_res {κ : Nat → Addr} {mm : Mem} {Ow' : Nat → Prop} {res : List RItem} {v : Value} (hf : flatR res = true) (h : RepRes κ mm w Ow' res v) : RepRes κ m w Ow' res v := by
  unfold flatR at hf
  split at hf
  · exact h
  · cases hf

/-- What an operation does: its value, what it writes, its footprint. -/
inductive Act1 (C : Ctx) (s : St) (o : Oper) : TV → List (Nat × SObj) → Foot → Prop
  | op {e : Eff} : isCall o.op = none → aop C s (ownId o) o = some e → e.req = true → Act1 C s o e.val e.wr (effFoot e)
  | call {fo : Operand} {args : Array Operand} {f : FuncId} {xs : List TV} {as : List AV} {ws : List (Nat × SObj)} {is : List Nat} {lent : Bool} {rq : Bool} {res : List RItem} :
      isCall o.op = some (fo, args) → callOf C s fo args = some (f, xs) → argsOf (C.M.L f) s.g0 xs = some (as, ws, is, lent, rq) → rq = true → Sound C f as res → (!lent || flatR res) = true →
      Act1 C s o (bindRes (ownId o) res).1 (ws ++ (bindRes (ownId o) res).2) (callFoot (ownId o) ws is res)
  | callX {fo : Operand} {args : Array Operand} {f : FuncId} {xs : List TV} {pargs : List TV} {pre post : List (Nat × SObj)} {res : TV} {ρ : List (Nat × Nat)} :
      isCall o.op = some (fo, args) → callOf C s fo args = some (f, xs) → C.M.SX f pargs pre res post → xs = pargs.map (renT ρ) → onO s.g0 (renW ρ pre) → xOK ρ pre res post = true →
      Act1 C s o (renT ρ res) (renW ρ post) (xFoot ρ pre res post)

def upS (s : St) (d : Option Tmp) (v : TV) (ws : List (Nat × SObj)) : St := { tmps := setD s.tmps d v, objs := putAll s.objs ws }

theorem Stp.act {o : Oper} {f : Foot} (h : Stp C s o s' f) : ∃ v ws, Act1 C s o v ws f ∧ (∀ i ∈ f.nw, SFr s i) ∧ s' = upS s o.dst v ws := by
  cases h with
  | op hc he hr =>
    simp only [Bool.and_eq_true] at hr
    exact ⟨_, _, .op hc he hr.1, fun i hi => .of (allFresh_mem hr.2 i hi), rfl⟩
  | call hc hco ha hrq hs hq =>
    simp only [callReq, Bool.and_eq_true] at hq
    exact ⟨_, _, .call hc hco ha hrq hs hq.1, fun i hi => .of (allFresh_mem hq.2 i hi), by simp [callSt, upS, putAll_append]⟩
  | callX hc hco hs hx hp hk =>
    simp only [Bool.and_eq_true] at hk
    exact ⟨_, _, .callX hc hco hs hx hp hk.1, fun i hi => .of (allFresh_mem hk.2 i hi), rfl⟩

theorem Act1.sound (hX : Cx C Ow m0 w0) {o : Oper} {v : TV} {ws : List (Nat × SObj)} {f : Foot} {K : Act → World → Prop} {Q : Exit → Act → World → Prop} (hR : Rel C Ow m0 w0 N s a w) (hd : ∀ t, o.dst = some t → t < N) (h : Act1 C s o v ws f)
    (hfr : ∀ i ∈ f.nw, SFr s i) (hK : ∀ a' w', Rel C Ow m0 w0 N (upS s o.dst v ws) a' w' → K a' w') : o.wp C.P a w K Q := by
  obtain ⟨m, γ, hp, ht⟩ := hR.mem
  have hρ := ev_ok hX hp ht
  cases h with
  | op hc he hr =>
    rename_i e
    obtain ⟨v, w', m', γ', hrun, hn, hv⟩ := aop_sound hX.hT he hr hfr hp hρ
    have := hR.put hd ht hn hfr hv
    unfold Oper.wp
    rcases hrun with hrun | ⟨hrun, rfl⟩
    · rw [hrun]; exact hK _ _ this
    · rw [hrun]; exact hK _ _ this
  | callX hc hco hsx hx hpre hk =>
    rename_i fo args f xs pargs pre post res ρ
    obtain ⟨ts, hop⟩ := isCall_spec hc
    obtain ⟨vs, hv, hTs⟩ := callOf_ok hρ hco
    subst hx
    obtain ⟨hA, hTw, hOwF, hD⟩ := callX_ok hp hk hpre fun i hi => (hfr i hi).2
    have hSX := hX.SX _ _ _ _ _ hsx
    have hW : Below C.W0.heap.size C.W0 w := by
      have hfr := hp.fr
      refine hX.W.trans ⟨hfr.os, hfr.tape, hfr.output, hfr.size, fun k hk => hfr.block k (hX.low k hk)⟩
    have hcalls := hSX.run m w (fun i => γ (ren ρ i)) _ (hX.glob.mono hp.ext) hW (fun b hb ho => hX.low b hb (hOwF b ho)) hA (hTs.tw fun id _ => hTw id)
    unfold Oper.wp
    obtain ⟨dst, op, type, pos, after, guard⟩ := o
    simp only at hop
    subst hop
    simp only [execOp]
    rw [run_call hSX.callee hv, Oper.upon_enter]
    refine Calls.mono hcalls fun e w'' hpost => ?_
    obtain ⟨v, m', γq, rfl, hq, hr, hc'⟩ := hpost
    obtain ⟨γ', hn, ht'⟩ := hD m' γq w'' hq hc'
    simp only [xOK, Bool.and_eq_true] at hk
    exact hK _ _ (hR.put hd ht hn hfr (ht' res v hr (subB_mem hk.1.1.1.2)))
  | call hc hco ha hrq hs hq =>
    rename_i fo args f xs as ws is lent rq res
    obtain ⟨ts, hop⟩ := isCall_spec hc
    obtain ⟨vs, hv, hTs⟩ := callOf_ok hρ hco
    obtain ⟨m1, n1, f1, r1, r2⟩ := argsOf_ok ha hrq (Fz.refl _) hp hTs
    simp only [Bool.or_eq_true, Bool.not_eq_true'] at hq
    have hW : Below C.W0.heap.size C.W0 w := by
      have hfr := hp.fr
      refine hX.W.trans ⟨hfr.os, hfr.tape, hfr.output, hfr.size, fun k hk => hfr.block k (hX.low k hk)⟩
    have hfresh : ∀ i ∈ fsts (bindRes (ownId o) res).2, Fresh (puts s.g0 ws) i := fun i hi => (hfr i hi).2.fz f1
    -- the memory that the call is given
    have main : ∀ mc : Mem, MLe m1 mc → Cons mc w → RepA C.κ mc as (args.toList.map a.eval ++ vs.toList) → (lent = true ∨ mc = m1) → o.wp C.P a w K Q := by
      intro mc hle hcons hA hl
      have hcalls := hs.run mc w _ hcons ((hX.glob.mono hp.ext).mono (n1.le.trans hle)) hW hA
      unfold Oper.wp
      obtain ⟨dst, op, type, pos, after, guard⟩ := o
      simp only at hop
      subst hop
      simp only [execOp]
      rw [run_call hs.callee hv, Oper.upon_enter]
      refine Calls.mono hcalls fun e w'' hpost => ?_
      obtain ⟨v, m2, rfl, q1, q2, q3, q4, q5⟩ := hpost.out
      simp only
      refine hK _ _ ?_
      have fin : ∀ m3 : Mem, MLe m1 m3 → (∀ b, b < w.heap.size → m3 b = m1 b) → Cons m3 w'' → RepRes C.κ m3 w'' (w.heap.size ≤ ·) res v → Rel C Ow m0 w0 N (upS s dst (bindRes (ownId ⟨dst, .call ⟨.value fo, args, ts⟩, type, pos, after, guard⟩) res).1 (ws ++ (bindRes (ownId ⟨dst, .call ⟨.value fo, args, ts⟩, type, pos, after, guard⟩) res).2)) (a.put dst v) w'' := by
        intro m3 e1 e2 e3 e4
        have n2 := n1.hp.after e1 e2 e3 q4
        obtain ⟨γ3, n3, t3⟩ := bindRes_ok (fun b hb => n1.hp.own b hb) n2.hp hfresh e4 fun b hb j oj hj hl hx => by
          have := (n1.hp.exc hj hl (hx.back e1)).1
          omega
        have n4 := (n1.trans n2).trans n3
        rw [← puts_append] at n4 t3
        exact hR.put hd ht n4 hfr t3
      rcases hl with hl | hl
      · have hflat := hq.resolve_left (by simp [hl])
        exact fin m1 (MLe.refl m1) (fun _ _ => rfl) (fun b o u hu => q3 _ _ _ (q1 _ _ _ (hle _ _ _ hu))) (flat_res hflat q5)
      · subst hl
        exact fin m2 q1 q2 q3 q5
    cases lent with
    | true => exact main _ n1.hp.cons.le_memOf (memOf_cons w) r1 (.inl rfl)
    | false => exact main m1 (MLe.refl m1) n1.hp.cons (r2 rfl) (.inr rfl)

/-- States that tell the same. -/
structure StEq (s s' : St) : Prop where
  tmps : ∀ t, look s'.tmps t = look s.tmps t
  objs : s'.g0 = s.g0
theorem StEq.refl (s : St) : StEq s s := ⟨fun _ => rfl, rfl⟩
theorem StEq.symm {s s' : St} (h : StEq s s') : StEq s' s := ⟨fun t => (h.tmps t).symm, h.objs.symm⟩
theorem StEq.trans {s s' s'' : St} (h : StEq s s') (k : StEq s' s'') : StEq s s'' := ⟨fun t => (k.tmps t).trans (h.tmps t), k.objs.trans h.objs⟩

/-- Less is known. -/
theorem Rel.le (h : Rel C Ow m0 w0 N s a w) (e : s'.le s) : Rel C Ow m0 w0 N s' a w := by
  obtain ⟨m, γ, hp, ht⟩ := h.mem
  have hc : ∀ id, Cmp s.g0 γ s'.g0 γ id := fun id o' ho => ⟨o', e.2 id o' ho, fun l' hl => ⟨l', hl, Nat.le_refl _, fun _ => rfl⟩, fun hb => ⟨hb, rfl⟩, fun h => h⟩
  refine ⟨h.size, h.defers, m, γ, ⟨hp.ext, hp.old, hp.cons, hp.fr, hp.new, fun i o ho => ?_, fun i j oi oj b hi hj => hp.inj i j oi oj b (e.2 i oi hi) (e.2 j oj hj)⟩, fun t x hx => ?_⟩
  · exact RepO.move (MLe.refl m) rfl (fun id _ => hc id) (fun b _ hb => ⟨rfl, hb.2.1⟩) (hp.objs i o (e.2 i o ho))
  · obtain ⟨u, h1, h2⟩ := ht t x (e.1 t x hx)
    exact ⟨u, h1, h2.move (MLe.refl m) fun id _ => hc id⟩
theorem Rel.eqv (h : Rel C Ow m0 w0 N s a w) (e : StEq s s') : Rel C Ow m0 w0 N s' a w :=
  h.le ⟨fun t x hx => (e.tmps t) ▸ hx, fun i o ho => by
    have : s'.g0 i = some o := ho
    rw [e.objs] at this
    exact this⟩
/-- An answer is drawn. -/
theorem Rel.drew (h : Rel C Ow m0 w0 N s a w) : Rel C Ow m0 w0 N s a { w with drawn := w.drawn + 1 } := by
  obtain ⟨m, γ, hp, ht⟩ := h.mem
  have hb : Below w.heap.size w { w with drawn := w.drawn + 1 } := (Below.refl _ _).drew
  have n := hp.after (w' := { w with drawn := w.drawn + 1 }) (MLe.refl m) (fun _ _ => rfl) (fun b o u hu => hp.cons b o u hu) hb
  exact ⟨h.size, h.defers, m, γ, n.hp, fun t x hx => by
    obtain ⟨u, h1, h2⟩ := ht t x hx
    exact ⟨u, h1, n.mv _ _ (by simp) h2⟩⟩
end
end Go.Sy

/- Soundness, part 18: what a function hands back. -/
set_option linter.unusedVariables false
namespace Go.Sy
open Go.RowKit

section
variable {C : Ctx} {Ow : Nat → Prop} {m0 m : Mem} {γ : Ga} {w0 w : World} {N : Nat} {s s' : St} {a : Act}

/-- One result's value. -/
def resOne (tmps : Array Value) : ResultVar → Sem Value
  | .tmp t => pure (tmps.getD t undef)
  | .cell a t => do loadVar t (← asAddr (tmps.getD a undef))

theorem retItem_ok (hX : Cx C Ow m0 w0) (h : Hp C.κ Ow m0 w0 s.g0 m γ w) (ht : ∀ t x, look s.tmps t = some x → ∃ u, a.tmps[t]? = some u ∧ RepT C.κ m γ s.g0 x u) {r : ResultVar} {b : Bool} {it : RItem} {ws : List (Nat × SObj)} (hr : retItem C s r = some (b, it, ws)) (hb : b = true) :
    ∃ m' u, Nx C.κ Ow m0 w0 s.g0 m γ w [] (puts s.g0 ws) m' γ w ∧ (resOne a.tmps r).run C.P w = .ok u w ∧
      match it with
      | .av x => RepV C.κ m' x u
      | .own ex e sz xs => ws = [] ∧ u = γ ((resIds s [r]).headD 0) ∧ s.g0 ((resIds s [r]).headD 0) = some (.row ex e sz xs) := by
  cases r with
  | tmp t =>
    simp only [retItem] at hr
    split at hr
    · rename_i id n hl
      obtain ⟨u, h1, h2⟩ := ht t _ hl
      have hu : a.tmps.getD t undef = u := by simp [h1]
      split at hr
      · rename_i ex e sz xs hg
        cases hr
        have hn : xs.length = n := by simpa using hb
        refine ⟨m, u, Nx.refl h [], by simp [resOne, h1], rfl, ?_, ?_⟩
        · simp only [resIds, hl, List.headD_cons]
          exact (h2.2 _ _ hg rfl).2 hn.symm
        · simp only [resIds, hl, List.headD_cons]
          exact hg
      · rename_i xs hg
        cases hr
        exact ⟨m, u, Nx.refl h [], by simp [resOne, h1], h.frow hg (by simpa using hb) h2⟩
      · cases hr
    · rename_i x hne hl
      obtain ⟨u, h1, h2⟩ := ht t _ hl
      split at hr
      · rename_i p hp
        cases hr
        obtain ⟨m', n1, r1, _⟩ := expo_ok hp hb (Fz.refl _) h h2
        exact ⟨m', u, n1, by simp [resOne, h1], r1⟩
      · cases hr
    · cases hr
  | cell x t =>
    simp only [retItem] at hr
    split at hr
    · rename_i id ty hl hty
      split at hr
      · rename_i e he
        split at hr
        · rename_i p hp
          cases hr
          simp only [Bool.and_eq_true] at hb
          obtain ⟨u, h1, h2⟩ := ht x _ hl
          obtain ⟨v, hv, m1, n1, t1, _⟩ := aLoad_ok hX.hT hty he hb.1 h h2
          -- what is loaded is handed on
          have hcase : e.wr = [] ∨ ∃ cs, e.val = .av (.agg cs) := by
            simp only [aLoad] at he
            split at he
            · split at he
              · split at he
                · cases he; exact .inl rfl
                · split at he
                  · cases he; exact .inr ⟨_, rfl⟩
                  · cases he
              · split at he
                · cases he; exact .inl rfl
                · cases he
            · split at he
              · cases he; exact .inl rfl
              · split at he
                · cases he; exact .inl rfl
                · cases he
            · cases he
          have hp' : ∃ p', expo (puts s.g0 e.wr) e.val = some p' ∧ p'.req = p.req ∧ p'.a = p.a ∧ p'.w = p.w := by
            rcases hcase with hw | ⟨cs, hcs⟩
            · rw [hw]; exact ⟨p, hp, rfl, rfl, rfl⟩
            · rw [hcs] at hp ⊢
              cases hp
              exact ⟨_, rfl, rfl, rfl, rfl⟩
          obtain ⟨p', q1, q2, q3, q4⟩ := hp'
          obtain ⟨m2, n2, r2, _⟩ := expo_ok q1 (by rw [q2]; exact hb.2) (Fz.refl _) n1.hp t1
          refine ⟨m2, v, ?_, ?_, show RepV C.κ m2 p.a v from q3 ▸ r2⟩
          · rw [puts_append, ← q4]; exact n1.trans n2
          · obtain ⟨⟨p0, rfl⟩, _⟩ := h2
            have : a.tmps.getD x undef = .pointer (some p0) := by simp [h1]
            simp only [Instr.loadAt, Instr.sureAddr, pure_bind] at hv
            simp only [resOne, this, asAddr, pure_bind]
            exact hv
        · cases hr
      · cases hr
    · cases hr

theorem fsts_map : ∀ (l : List (Nat × SObj)), fsts l = l.map (·.1)
  | [] => rfl
  | x :: l => by simp [fsts, fsts_map l]

theorem retItems0_ok (hX : Cx C Ow m0 w0) : ∀ {rvs : List ResultVar} {s : St} {m : Mem} {b : Bool} {its : List RItem} {ws : List (Nat × SObj)}, retItems0 C s rvs = some (b, its, ws) → b = true → Hp C.κ Ow m0 w0 s.g0 m γ w →
    (∀ t x, look s.tmps t = some x → ∃ u, a.tmps[t]? = some u ∧ RepT C.κ m γ s.g0 x u) →
    ∃ m' us, Nx C.κ Ow m0 w0 s.g0 m γ w [] (puts s.g0 ws) m' γ w ∧ (rvs.mapM (resOne a.tmps)).run C.P w = .ok us w ∧ us.length = its.length ∧ (resIds s rvs).length = its.length ∧
      ∀ (k : Nat) (it : RItem) (u : Value), its[k]? = some it → us[k]? = some u → match it with
        | .av x => RepV C.κ m' x u
        | .own ex e sz xs => ∃ id, (resIds s rvs)[k]? = some id ∧ u = γ id ∧ (id ∉ fsts ws → puts s.g0 ws id = some (.row ex e sz xs))
  | [], s, m, b, its, ws, hr, hb, h, ht => by
    cases hr
    exact ⟨m, [], Nx.refl h [], rfl, rfl, rfl, by simp⟩
  | r :: rvs, s, m, b, its, ws, hr, hb, h, ht => by
    simp only [retItems0] at hr
    split at hr
    · rename_i x h1
      obtain ⟨b1, it1, ws1⟩ := x
      split at hr
      · rename_i y h2
        obtain ⟨b2, its2, ws2⟩ := y
        cases hr
        simp only [Bool.and_eq_true] at hb
        obtain ⟨m1, u, n1, r1, t1⟩ := retItem_ok hX h ht h1 hb.1
        have hs1 : (St.mk s.tmps (putAll s.objs ws1)).g0 = puts s.g0 ws1 := look_putAll _ _
        obtain ⟨m2, us, n2, r2, l2, l3, t2⟩ := retItems0_ok hX h2 hb.2 (by rw [hs1]; exact n1.hp) (fun t x hx => by
          obtain ⟨v, hv, h3⟩ := ht t x hx
          exact ⟨v, hv, by rw [hs1]; exact n1.mv _ _ (by simp) h3⟩)
        rw [hs1] at n2 t2
        have hids : resIds s (r :: rvs) = (resIds s [r]).headD 0 :: resIds s rvs := by cases r <;> rfl
        have hids2 : resIds (St.mk s.tmps (putAll s.objs ws1)) rvs = resIds s rvs := by
          have : ∀ l, resIds (St.mk s.tmps (putAll s.objs ws1)) l = resIds s l := by
            intro l
            induction l with
            | nil => rfl
            | cons r l ih => cases r <;> simp [resIds, ih]
          exact this rvs
        rw [hids2] at l3 t2
        refine ⟨m2, u :: us, ?_, ?_, by simp [l2], by rw [hids]; simp [l3], ?_⟩
        · rw [puts_append]; exact n1.trans n2
        · simp [List.mapM_cons, r1, r2]
        · intro k it v hk hv
          cases k with
          | zero =>
            simp at hk hv
            subst hk hv
            cases it1 with
            | av x => exact RepV.mono n2.le t1
            | own ex e sz xs =>
              obtain ⟨k1, k2, k3⟩ := t1
              refine ⟨(resIds s [r]).headD 0, by rw [hids]; rfl, k2, fun hn => ?_⟩
              rw [puts_other (by rw [fsts_map] at hn; exact hn)]
              exact k3
          | succ k =>
            simp at hk hv
            have := t2 k it v hk hv
            cases it with
            | av x => exact this
            | own ex e sz xs =>
              obtain ⟨id, k1, k2, k3⟩ := this
              refine ⟨id, by rw [hids]; simpa using k1, k2, fun hn => ?_⟩
              rw [puts_append]
              exact k3 fun hm => hn (by rw [fsts_append]; exact List.mem_append_right _ hm)
      · cases hr
    · cases hr

theorem ownIds_mem : ∀ {ids : List Nat} {its : List RItem} {k id : Nat} {it : RItem}, ids[k]? = some id → its[k]? = some it → it.isOwn = true → id ∈ ownIds ids its
  | [], _, k, id, it, h, _, _ => by simp at h
  | i :: ids, [], k, id, it, _, h, _ => by simp at h
  | i :: ids, r :: its, k, id, it, h1, h2, h3 => by
    cases k with
    | zero =>
      simp at h1 h2
      subst h1 h2
      cases r <;> simp [RItem.isOwn] at h3
      simp [ownIds]
    | succ k =>
      simp at h1 h2
      have := ownIds_mem h1 h2 h3
      cases r <;> simp [ownIds, this]
theorem nodupB_own : ∀ {ids : List Nat} {its : List RItem}, nodupB (ownIds ids its) = true → ∀ {i j id : Nat} {x y : RItem}, ids[i]? = some id → ids[j]? = some id → its[i]? = some x → its[j]? = some y → x.isOwn = true → y.isOwn = true → i = j
  | [], _, _, i, j, id, x, y, h, _, _, _, _, _ => by simp at h
  | k :: ids, [], _, i, j, id, x, y, _, _, h, _, _, _ => by simp at h
  | k :: ids, r :: its, hn, i, j, id, x, y, h1, h2, h3, h4, h5, h6 => by
    have hrest : nodupB (ownIds ids its) = true := by
      cases r with
      | av x => exact hn
      | own ex e sz xs => simp only [ownIds, nodupB, Bool.and_eq_true] at hn; exact hn.2
    have hhead : r.isOwn = true → k ∉ ownIds ids its := by
      cases r with
      | av x => simp [RItem.isOwn]
      | own ex e sz xs =>
        intro _
        simp only [ownIds, nodupB, Bool.and_eq_true, Bool.not_eq_true', List.contains_eq_mem, decide_eq_false_iff_not] at hn
        exact hn.1
    cases i with
    | zero =>
      cases j with
      | zero => rfl
      | succ j =>
        simp at h1 h2 h3 h4
        subst h1 h3
        exact absurd (ownIds_mem h2 h4 h6) (hhead h5)
    | succ i =>
      cases j with
      | zero =>
        simp at h1 h2 h3 h4
        subst h2 h4
        exact absurd (ownIds_mem h1 h3 h5) (hhead h6)
      | succ j =>
        simp at h1 h2 h3 h4
        have := nodupB_own hrest h1 h2 h3 h4 h5 h6
        omega
theorem disjB_mem : ∀ {l r : List Nat}, disjB l r = true → ∀ i ∈ l, i ∉ r
  | [], r, _, i, hi => by simp at hi
  | x :: l, r, h, i, hi => by
    simp only [disjB, Bool.and_eq_true, Bool.not_eq_true', List.contains_eq_mem, decide_eq_false_iff_not] at h
    rcases List.mem_cons.1 hi with rfl | hi
    · exact h.1
    · exact disjB_mem h.2 i hi

theorem retItems_ok (hX : Cx C Ow m0 w0) {fn : Func} {b : Bool} {res : List RItem} (hr : retItems C s fn.results.toList = some (b, res)) (hb : b = true) (hR : Rel C Ow m0 w0 N s a w) :
    ∃ v m', (results fn a.tmps).run C.P w = .ok v w ∧ MLe m0 m' ∧ (∀ b, ¬ Ow b → m' b = m0 b) ∧ Cons m' w ∧ Fr Ow w0 w ∧ RepRes C.κ m' w Ow res v := by
  obtain ⟨m, γ, hp, ht⟩ := hR.mem
  simp only [retItems] at hr
  split at hr
  · rename_i x hx
    obtain ⟨b0, its, ws⟩ := x
    cases hr
    simp only [Bool.and_eq_true] at hb
    obtain ⟨⟨hb1, hb2⟩, hb3⟩ := hb
    obtain ⟨m', us, n, hrun, l1, l2, t⟩ := retItems0_ok (a := a) hX hx hb1 hp ht
    have hmap : (fn.results.mapM (resOne a.tmps)).run C.P w = .ok us.toArray w := by
      rw [Array.mapM_eq_mapM_toList]
      simp [hrun]
    have hres : (results fn a.tmps).run C.P w = .ok (if h : us.toArray.size = 1 then us.toArray[0] else .tuple us.toArray) w := by
      have : results fn a.tmps = (do let vs ← fn.results.mapM (resOne a.tmps); pure (if h : vs.size = 1 then vs[0] else .tuple vs)) := by
        unfold results
        congr 1
      rw [this, Sem.run_bind, hmap]
      rfl
    have rep : ∀ (k : Nat) (it : RItem) (u : Value), its[k]? = some it → us[k]? = some u → RepR C.κ m' w Ow it u ∧ (it.isOwn = true → ∃ id, (resIds s fn.results.toList)[k]? = some id ∧ u = γ id ∧ ∃ o, puts s.g0 ws id = some o ∧ live o = true) := by
      intro k it u hk hu
      have := t k it u hk hu
      cases it with
      | av x => exact ⟨this, by simp [RItem.isOwn]⟩
      | own ex e sz xs =>
        obtain ⟨id, k1, k2, k3⟩ := this
        have hid := k3 (disjB_mem hb2 id (ownIds_mem k1 hk rfl))
        refine ⟨?_, fun _ => ⟨id, k1, k2, _, hid, rfl⟩⟩
        have := n.hp.objs id _ hid
        simp only [RepO] at this
        rw [← k2] at this
        exact this
    have repRs : ∀ {its : List RItem} {us : List Value}, us.length = its.length → (∀ (k : Nat) (it : RItem) (u : Value), its[k]? = some it → us[k]? = some u → RepR C.κ m' w Ow it u) → RepRs C.κ m' w Ow its us := by
      intro its
      induction its with
      | nil => intro us hl _; simp only [RepRs]; simpa using hl
      | cons it its ih =>
        intro us hl hp
        cases us with
        | nil => simp at hl
        | cons u us => exact ⟨u, us, rfl, hp 0 it u (by simp) (by simp), ih (by simpa using hl) fun k it u hk hu => hp (k + 1) it u (by simpa using hk) (by simpa using hu)⟩
    have hsep : Sep m' its us := by
      intro i j x y u v b hi hj hx hy hu hv eu ev
      obtain ⟨id, p1, p2, o1, p3, p4⟩ := (rep i x u hi hu).2 hx
      obtain ⟨id', q1, q2, o2, q3, q4⟩ := (rep j y v hj hv).2 hy
      have := n.hp.inj id id' o1 o2 b p3 q3 p4 q4 (p2 ▸ eu) (q2 ▸ ev)
      subst this
      exact nodupB_own hb3 p1 q1 hi hj hx hy
    refine ⟨_, m', hres, n.hp.ext, n.hp.old, n.hp.cons, n.hp.fr, ?_⟩
    have hR2 := repRs l1 fun k it u hk hu => (rep k it u hk hu).1
    cases its with
    | nil =>
      have : us = [] := List.eq_nil_of_length_eq_zero l1
      subst this
      exact ⟨#[], rfl, hR2, hsep⟩
    | cons it its =>
      cases its with
      | nil =>
        obtain ⟨u, us', rfl, h1, h2⟩ := hR2
        cases h2
        exact h1
      | cons it2 its =>
        have hl : us.toArray.size ≠ 1 := by simp [l1]
        rw [dif_neg hl]
        exact ⟨us.toArray, rfl, hR2, hsep⟩
  · cases hr

theorem retXs_ok (ht : ∀ t x, look s.tmps t = some x → ∃ u, a.tmps[t]? = some u ∧ RepT C.κ m γ s.g0 x u) : ∀ {rvs : List ResultVar} {xs : List TV}, retXs s rvs = some xs →
    ∃ us : List Value, (rvs.mapM (resOne a.tmps)).run C.P w = .ok us w ∧ us.length = rvs.length ∧ ∀ (i : Nat) (x : TV), xs[i]? = some x → ∃ v, us[i]? = some v ∧ RepT0 C.κ m γ s.g0 x v
  | [], xs, h => by
    cases h
    exact ⟨[], rfl, rfl, by simp⟩
  | .tmp t :: rvs, xs, h => by
    simp only [retXs] at h
    split at h
    · rename_i x ys h1 h2
      cases hx : isT0 x with
      | false => rw [hx] at h; cases h
      | true =>
        rw [hx] at h
        cases h
        obtain ⟨u, k1, k2⟩ := ht t x h1
        obtain ⟨us, k3, k4, k5⟩ := retXs_ok ht h2
        refine ⟨u :: us, ?_, by simp [k4], fun i y hi => ?_⟩
        · have : (resOne a.tmps (.tmp t)).run C.P w = .ok u w := by simp [resOne, k1]
          rw [List.mapM_cons, Sem.run_bind, this]
          simp only [Result.andThen]
          rw [Sem.run_bind, k3]
          rfl
        · cases i with
          | zero => simp at hi; subst hi; exact ⟨u, rfl, by cases x <;> first | exact k2 | simp [isT0] at hx⟩
          | succ i => simp at hi; simpa using k5 i y hi
    · cases h
  | .cell t i :: rvs, xs, h => by cases h
/-- The result, told as it stands. -/
theorem retX_ok {fn : Func} {x : TV} (hr : retX s fn.results.toList = some x) (ht : ∀ t x, look s.tmps t = some x → ∃ u, a.tmps[t]? = some u ∧ RepT C.κ m γ s.g0 x u) :
    ∃ v, (results fn a.tmps).run C.P w = .ok v w ∧ RepT C.κ m γ s.g0 x v := by
  have hres : ∀ us : List Value, (fn.results.toList.mapM (resOne a.tmps)).run C.P w = .ok us w → (results fn a.tmps).run C.P w = .ok (if h : us.toArray.size = 1 then us.toArray[0] else .tuple us.toArray) w := by
    intro us hrun
    have hmap : (fn.results.mapM (resOne a.tmps)).run C.P w = .ok us.toArray w := by
      rw [Array.mapM_eq_mapM_toList]
      simp [hrun]
    have : results fn a.tmps = (do let vs ← fn.results.mapM (resOne a.tmps); pure (if h : vs.size = 1 then vs[0] else .tuple vs)) := by
      unfold results
      congr 1
    rw [this, Sem.run_bind, hmap]
    rfl
  generalize hl : fn.results.toList = rvs at hr hres
  unfold retX at hr
  split at hr
  · rename_i t
    obtain ⟨u, h1, h2⟩ := ht t x hr
    refine ⟨u, ?_, h2⟩
    have := hres [u] (by simp [resOne, h1])
    simpa using this
  · rename_i hne
    split at hr
    · rename_i xs hxs
      cases hr
      obtain ⟨us, k1, k2, k3⟩ := retXs_ok (C := C) (w := w) ht hxs
      refine ⟨.tuple us.toArray, ?_, us.toArray, rfl, fun i y hi => by simpa using k3 i y hi⟩
      have h1 := hres us k1
      have hlen : us.toArray.size ≠ 1 := by
        intro e
        have e2 : rvs.length = 1 := by rw [← k2]; simpa using e
        match rvs, e2 with
        | [.tmp t], _ => exact hne t rfl
        | [.cell t i], _ => cases hxs
      rw [dif_neg hlen] at h1
      exact h1
    · cases hr
end
end Go.Sy

/- Soundness, part 19: an operation looks only at what its footprint names. -/
set_option linter.unusedVariables false
namespace Go.Sy
open Go.RowKit

section
variable {C : Ctx} {s s2 : St} {g g2 : Gs}

theorem expoC_congr {x : TV} {p : Expo} (h : expoC g x = some p) (hg : ∀ i ∈ p.r, g2 i = g i) : expoC g2 x = some p := by
  unfold expoC at h ⊢
  split at h
  · exact h
  · exact h
  · rename_i id n
    split at h
    · rename_i hh; cases h; simp only [hg id (by simp), hh]
    · rename_i hh; cases h; simp only [hg id (by simp), hh]
    · cases h
  · cases h
theorem exposC_congr : ∀ {xs : List TV} {p : Expos}, exposC g xs = some p → (∀ i ∈ p.r, g2 i = g i) → exposC g2 xs = some p
  | [], p, h, _ => h
  | x :: xs, p, h, hg => by
    simp only [exposC] at h ⊢
    split at h
    · rename_i p1 p2 h1 h2
      cases h
      rw [expoC_congr h1 fun i hi => hg i (List.mem_append_left _ hi), exposC_congr h2 fun i hi => hg i (List.mem_append_right _ hi)]
    · cases h
theorem expo_congr {x : TV} {p : Expo} (h : expo g x = some p) (hg : ∀ i ∈ p.r, g2 i = g i) : expo g2 x = some p := by
  unfold expo at h ⊢
  split at h
  · exact h
  · exact h
  · rename_i id n
    split at h
    · rename_i hh; cases h; simp only [hg id (by simp), hh]
    · rename_i hh; cases h; simp only [hg id (by simp), hh]
    · cases h
  · rename_i id off
    split at h
    · rename_i hh
      split at h
      · rename_i hav; cases h; simp only [hg id (by simp), hh, hav]
      · cases h
    · rename_i hh; cases h; simp only [hg id (by simp), hh]
    · cases h
  · split at h
    · rename_i q hq
      cases h
      simp only [exposC_congr hq hg]
    · cases h
  · cases h
theorem expos_congr : ∀ {xs : List TV} {p : Expos}, expos g xs = some p → (∀ i ∈ p.r, g2 i = g i) → expos g2 xs = some p
  | [], p, h, _ => h
  | x :: xs, p, h, hg => by
    simp only [expos] at h ⊢
    split at h
    · rename_i p1 p2 h1 h2
      cases h
      rw [expo_congr h1 fun i hi => hg i (List.mem_append_left _ hi), expos_congr h2 fun i hi => hg i (List.mem_append_right _ hi)]
    · cases h
theorem asList_congr {x : TV} {r : Bool × List AV × List Nat} (h : asList g x = some r) (hg : ∀ i ∈ r.2.2, g2 i = g i) : asList g2 x = some r := by
  unfold asList at h ⊢
  split at h
  · exact h
  · exact h
  · exact h
  · rename_i id n
    split at h
    · rename_i hh; cases h; simp only [hg id (by simp), hh]
    · rename_i hh; cases h; simp only [hg id (by simp), hh]
    · cases h
  · cases h

theorem aLoad_congr {keep : Bool} {ty : TyI} {x : TV} {e : Eff} (h : aLoad keep ty g x = some e) (hg : ∀ i ∈ e.rd, g2 i = g i) : aLoad keep ty g2 x = some e := by
  unfold aLoad at h ⊢
  split at h
  · exact h
  · rename_i id off
    split at h
    · rename_i cs hh
      split at h
      · rename_i ha
        split at h
        · cases h
          have h1 := hg id (by simp)
          simp only [h1, hh, ha]
        split at h
        · rename_i p hp
          cases h
          have h1 := hg id (by simp)
          simp only [h1, hh, ha, expos_congr hp fun i hi => hg i (by simp [hi])]
        · cases h
      · rename_i ha
        split at h
        · rename_i x hx; cases h; have h1 := hg id (by simp); simp only [h1, hh, ha, hx]
        · cases h
    · rename_i cs hh
      split at h
      · rename_i ha; cases h; have h1 := hg id (by simp); simp only [h1, hh, ha]
      · rename_i ha
        split at h
        · rename_i x hx; cases h; have h1 := hg id (by simp); simp only [h1, hh, ha, hx]
        · cases h
    · cases h
  · rename_i id n sz i off
    split at h
    · rename_i ex e' sz' xs hh
      split at h
      · rename_i ha; cases h; have h1 := hg id (by simp); simp only [h1, hh, ha]
      · rename_i ha
        split at h
        · rename_i x hx; cases h; have h1 := hg id (by simp); simp only [h1, hh, ha, hx]
        · cases h
    · cases h
  · cases h

theorem aStore_congr {ty : TyI} {a x : TV} {e : Eff} (h : aStore ty g a x = some e) (hg : ∀ i ∈ e.rd, g2 i = g i) : aStore ty g2 a x = some e := by
  unfold aStore at h ⊢
  split at h
  · rename_i id off
    split at h
    · rename_i cs new hh hc; cases h; have h1 := hg id (by simp); simp only [h1, hh, hc]
    · cases h
  · rename_i id n sz i off
    split at h
    · rename_i e' sz' xs p hh hp
      cases h
      have h1 := hg id (by simp)
      simp only [h1, hh, expo_congr hp fun i hi => hg i (by simp [hi])]
    · cases h
  · cases h

theorem aSlice_congr {T : TypeId → Option TyI} {ty : Option TyI} {x : TV} {lo hi mx : Option TV} {e : Eff} (h : aSlice T ty g x lo hi mx = some e) (hg : ∀ i ∈ e.rd, g2 i = g i) : aSlice T ty g2 x lo hi mx = some e := by
  unfold aSlice at h ⊢
  split at h
  · exact h
  · split at h
    · rename_i rq xs ws rd hp
      have key : (∀ i ∈ rd, g2 i = g i) → expo g2 x = some ⟨rq, .sl xs, ws, rd⟩ := fun hh => expo_congr hp hh
      split at h
      · split at h
        · rename_i h1 h2; cases h; simp only [key fun i hi => hg i hi, h1, h2]
        · cases h
      · split at h
        · rename_i h1 h2 h3; cases h; simp only [key fun i hi => hg i hi, h1, h2, h3]
        · cases h
    · cases h

theorem aAppend_congr {T : TypeId → Option TyI} {t : TypeId} {own : Nat} {x y : TV} {e : Eff} (h : aAppend T t g own x y = some e) (hg : ∀ i ∈ e.rd, g2 i = g i) : aAppend T t g2 own x y = some e := by
  unfold aAppend at h ⊢
  split at h
  · cases h
  · split at h
    · rename_i te rq ys rd hte has
      have key : (∀ i ∈ rd, g2 i = g i) → asList g2 y = some (rq, ys, rd) := fun hh => asList_congr has hh
      split at h
      · rename_i id n
        split at h
        · rename_i hh; cases h; have h1 := hg id (by simp); simp only [hte, key fun i hi => hg i (by simp [hi]), h1, hh]
        · cases h
      · cases h; simp only [hte, key fun i hi => hg i hi]
      · cases h
    · cases h

theorem aIndex_congr {sz : Nat} {x : TV} {n : Int} {e : Eff} (h : aIndex sz g x n = some e) (hg : ∀ i ∈ e.rd, g2 i = g i) : aIndex sz g2 x n = some e := by
  unfold aIndex at h ⊢
  split at h
  · exact h
  · exact h
  · rename_i id m
    split at h
    · rename_i hh; cases h; have h1 := hg id (by simp); simp only [h1, hh]
    · rename_i hh; cases h; have h1 := hg id (by simp); simp only [h1, hh]
    · cases h
  · cases h

/-- Two states agree on what an operation reads. -/
def EvEq (C : Ctx) (s s2 : St) (xs : List Operand) : Prop := ∀ x ∈ xs, s2.ev C x = s.ev C x

theorem evl_congr : ∀ {xs : List Operand}, EvEq C s s2 xs → s2.evl C xs = s.evl C xs
  | [], _ => rfl
  | x :: xs, h => by
    have h2 : s2.evl C xs = s.evl C xs := evl_congr fun y hy => h y (List.mem_cons_of_mem _ hy)
    simp only [St.evl, h x (by simp), h2]
theorem capsOf_congr : ∀ {xs : List Operand}, EvEq C s s2 xs → capsOf C s2 xs = capsOf C s xs
  | [], _ => rfl
  | x :: xs, h => by
    have h2 : capsOf C s2 xs = capsOf C s xs := capsOf_congr fun y hy => h y (List.mem_cons_of_mem _ hy)
    simp only [capsOf, h x (by simp), h2]
theorem evo_congr {x : Option Operand} (h : ∀ y, x = some y → s2.ev C y = s.ev C y) : s2.evo C x = s.evo C x := by
  cases x with
  | none => rfl
  | some x => simp only [St.evo, h x rfl]

theorem aop_congr {own : Nat} {o : Oper} {e : Eff} (he : aop C s own o = some e) (hx : EvEq C s s2 o.op.operands.toList) (hg : ∀ i ∈ e.rd, s2.g0 i = s.g0 i) : aop C s2 own o = some e := by
  obtain ⟨dst, op, type, pos, after, guard⟩ := o
  have X : ∀ x, x ∈ op.operands.toList → s2.ev C x = s.ev C x := fun x h => hx x h
  cases op <;> simp only [aop] at he ⊢ <;> first | (cases he; done) | skip
  case move x => rw [X x (by simp [Op.operands])]; exact he
  case nilCheck x => rw [X x (by simp [Op.operands])]; exact he
  case assign x =>
    unfold aAssign at he ⊢
    split at he
    · split at he
      · rename_i e0 h1
        split at he
        · rename_i te h2
          have hown : s2.g0 own = s.g0 own := by
            split at he <;> cases he <;> exact hg own (by simp)
          simp only [h1, h2, hown]
          exact he
        · cases he
      · cases he
    · rw [X x (by simp [Op.operands])]; exact he
  case pick c x y => rw [X c (by simp [Op.operands]), X x (by simp [Op.operands]), X y (by simp [Op.operands])]; exact he
  case alloc t => exact he
  case box t x => rw [X x (by simp [Op.operands])]; exact he
  case build t parts =>
    rw [evl_congr (fun y hy => X y (by simpa [Op.operands] using hy))]
    cases hK : C.M.K t with
    | true => simp only [hK] at he ⊢; exact he
    | false =>
      simp only [hK] at he ⊢
      unfold aBuild at he ⊢
      obtain ⟨ty, h1, he⟩ := bind_some he
      obtain ⟨vs, h2, he⟩ := bind_some he
      obtain ⟨p, h3, he⟩ := bind_some he
      obtain ⟨cs, h4, he⟩ := bind_some he
      cases he
      simp only [h1, h2, Option.bind_some, expos_congr h3 hg, h4]
  case buildSlice t n parts =>
    rw [evl_congr (fun y hy => X y (by simpa [Op.operands] using hy))]
    unfold aBuildSlice at he ⊢
    obtain ⟨e0, h1, he⟩ := bind_some he
    obtain ⟨ty, h0, he⟩ := bind_some he
    obtain ⟨vs, h2, he⟩ := bind_some he
    obtain ⟨p, h3, he⟩ := bind_some he
    cases he
    simp only [h1, h0, h2, Option.bind_some, expos_congr h3 hg]
  case load t x =>
    rw [X x (by simp [Op.operands])]
    obtain ⟨ty, h1, he⟩ := bind_some he
    obtain ⟨v, h2, he⟩ := bind_some he
    simp only [h1, h2, Option.bind_some, aLoad_congr he hg]
  case store t p x =>
    rw [X p (by simp [Op.operands]), X x (by simp [Op.operands])]
    obtain ⟨ty, h1, he⟩ := bind_some he
    obtain ⟨v, h2, he⟩ := bind_some he
    obtain ⟨v2, h3, he⟩ := bind_some he
    simp only [h1, h2, h3, Option.bind_some, aStore_congr he hg]
  case binOp op t x y t2 => rw [X x (by simp [Op.operands]), X y (by simp [Op.operands])]; exact he
  case unOp op t x => rw [X x (by simp [Op.operands])]; exact he
  case convert src d x => rw [X x (by simp [Op.operands])]; exact he
  case slice t x lo hi mx =>
    rw [X x (by simp [Op.operands]), evo_congr (fun y hy => X y (by subst hy; simp [Op.operands])), evo_congr (fun y hy => X y (by subst hy; simp [Op.operands])), evo_congr (fun y hy => X y (by subst hy; simp [Op.operands]))]
    obtain ⟨v, h1, he⟩ := bind_some he
    obtain ⟨lo', h2, he⟩ := bind_some he
    obtain ⟨hi', h3, he⟩ := bind_some he
    obtain ⟨mx', h4, he⟩ := bind_some he
    simp only [h1, h2, h3, h4, Option.bind_some, aSlice_congr he hg]
  case fieldAddr t x f => rw [X x (by simp [Op.operands])]; exact he
  case indexAddr t x i =>
    rw [X x (by simp [Op.operands]), X i (by simp [Op.operands])]
    obtain ⟨e0, h1, he⟩ := bind_some he
    obtain ⟨te, h2, he⟩ := bind_some he
    obtain ⟨v, h3, he⟩ := bind_some he
    obtain ⟨n, h4, he⟩ := bind_some he
    simp only [h1, h2, h3, h4, Option.bind_some, aIndex_congr he hg]
  case index t x i => rw [X x (by simp [Op.operands]), X i (by simp [Op.operands])]; exact he
  case field t x f => rw [X x (by simp [Op.operands])]; exact he
  case extract x i => rw [X x (by simp [Op.operands])]; exact he
  case makeInterface t x =>
    rw [X x (by simp [Op.operands])]
    unfold aIface at he ⊢
    obtain ⟨ty, h1, he⟩ := bind_some he
    obtain ⟨p, h2, he⟩ := bind_some he
    obtain ⟨v, h3, h4⟩ := bind_some h2
    cases he
    simp only [h1, h3, Option.bind_some, expo_congr h4 hg]
  case makeFunc f first caps =>
    cases f <;> simp only at he ⊢ <;> first | (cases he; done) | skip
    rw [capsOf_congr (fun y hy => X y (by simp [Op.operands]; exact .inr (by simpa using hy)))]
    exact he
  case call c =>
    obtain ⟨callee, args, ts⟩ := c
    cases callee with
    | value f => simp at he
    | invoke r n => simp at he
    | builtin b =>
      have hargs : s2.evl C args.toList = s.evl C args.toList := evl_congr fun y hy => X y (by simpa [Op.operands, Call.operands] using hy)
      cases b <;> simp only at he ⊢ <;> first | (cases he; done) | skip
      case len => rw [hargs]; exact he
      case max => rw [hargs]; exact he
      case min => rw [hargs]; exact he
      case append =>
        rw [hargs]
        unfold aApp at he ⊢
        split at he
        · rename_i x y t t' hx' hts
          cases htt : t == t' with
          | false => simp [htt] at he
          | true =>
            simp only [htt, cond_true] at he
            simp only [hx', hts, htt, cond_true]
            exact aAppend_congr he hg
        · cases he
end
end Go.Sy

/- Soundness, part 20: operations may change places. -/
set_option linter.unusedVariables false
namespace Go.Sy
open Go.RowKit

section
variable {C : Ctx} {s s2 s' : St} {g g2 : Gs} {all : List Oper}

/-- Two states agree on what an operation looks at. -/
structure Agr (all : List Oper) (o : Oper) (rd : List Nat) (s s2 : St) : Prop where
  tm : ∀ t ∈ tmpsOf all o, look s2.tmps t = look s.tmps t
  ob : ∀ i ∈ rd, s2.g0 i = s.g0 i
theorem StEq.agr (h : StEq s s2) (o : Oper) (rd : List Nat) : Agr all o rd s s2 := ⟨fun t _ => h.tmps t, fun i _ => by rw [h.objs]⟩
theorem mem_tmps {o : Oper} {t : Tmp} (h : Operand.tmp t ∈ o.op.operands.toList) : t ∈ tmpsOf all o := by
  simp only [tmpsOf, List.mem_append, List.mem_filterMap]
  exact .inl ⟨.tmp t, h, rfl⟩
theorem Agr.ev {o : Oper} {rd : List Nat} (h : Agr all o rd s s2) : EvEq C s s2 o.op.operands.toList := fun x hx => by
  cases x with
  | tmp t => exact h.tm t (mem_tmps hx)
  | _ => rfl

theorem lendBox_congr {c : Nat × Nat} {x : AV} (h : lendBox g c = some x) (hg : g2 c.1 = g c.1) : lendBox g2 c = some x := by
  obtain ⟨id, off⟩ := c
  simp only [lendBox] at h ⊢
  simp only at hg
  rw [hg]; exact h
theorem lends_congr : ∀ {cs : List (Nat × Nat)} {xs : List AV}, lends g cs = some xs → (∀ i ∈ cs.map (·.1), g2 i = g i) → lends g2 cs = some xs
  | [], xs, h, _ => h
  | c :: cs, xs, h, hg => by
    simp only [lends] at h ⊢
    split at h
    · rename_i x xs' h1 h2
      cases h
      rw [lendBox_congr h1 (hg _ (by simp)), lends_congr h2 fun i hi => hg i (by simp only [List.map_cons, List.mem_cons]; exact .inr hi)]
    · cases h
theorem lendR_congr {ld : Bool} {x : TV} {p : AV × Nat × Bool} (h : lendR ld g x = some p) (hg : g2 p.2.1 = g p.2.1) : lendR ld g2 x = some p := by
  unfold lendR at h ⊢
  split at h
  · split at h
    · split at h
      · rename_i hh
        cases h
        simp only [hg, hh]
      · cases h
    · cases h
  · cases h
theorem lendR_none {ld : Bool} {x : TV} (h : lendR ld g x = none) (hg : ∀ id n, x = .row id n → g2 id = g id) : lendR ld g2 x = none := by
  unfold lendR at h ⊢
  split
  · rename_i id n
    rw [hg id n rfl]
    exact h
  · rfl
theorem argsOf_congr {ld : Bool} : ∀ {xs : List TV} {as : List AV} {ws : List (Nat × SObj)} {is : List Nat} {l rq : Bool}, argsOf ld g xs = some (as, ws, is, l, rq) → (∀ i ∈ is, g2 i = g i) → argsOf ld g2 xs = some (as, ws, is, l, rq)
  | [], as, ws, is, l, rq, h, _ => h
  | x :: xs, as, ws, is, l, rq, h, hg => by
    simp only [argsOf] at h ⊢
    split at h
    · cases h
    · rename_i as' ws' is' l' rq' h1
      split at h
      · rename_i f cs
        split at h
        · rename_i ys hl
          cases h
          rw [argsOf_congr h1 fun i hi => hg i (List.mem_append_right _ hi)]
          simp only [lends_congr hl fun i hi => hg i (List.mem_append_left _ hi)]
        · cases h
      · rename_i hne
        split at h
        · rename_i a id b hl
          cases h
          rw [argsOf_congr h1 fun i hi => hg i (List.mem_cons_of_mem _ hi)]
          have := lendR_congr hl (hg id (by simp))
          cases x with
          | clo f cs => exact absurd rfl (hne f cs)
          | _ => simp only [this]
        rename_i hno
        split at h
        · rename_i p hp
          cases h
          have hno2 : lendR ld g2 x = none := lendR_none hno fun id n e => by
            subst e
            have : id ∈ p.r := by
              simp only [expo] at hp
              split at hp <;> cases hp <;> simp
            exact hg id (List.mem_append_left _ this)
          rw [argsOf_congr h1 fun i hi => hg i (List.mem_append_right _ hi)]
          have := expo_congr hp fun i hi => hg i (List.mem_append_left _ hi)
          cases x with
          | clo f cs => exact absurd rfl (hne f cs)
          | _ => simp only [this, hno2]
        · cases h
theorem callOf_congr {fo : Operand} {args : Array Operand} (h1 : s2.ev C fo = s.ev C fo) (h2 : EvEq C s s2 args.toList) : callOf C s2 fo args = callOf C s fo args := by
  unfold callOf
  rw [h1, evs_evl, evs_evl, evl_congr h2]

theorem Act1.congr {o : Oper} {v : TV} {ws : List (Nat × SObj)} {f : Foot} (h : Act1 C s o v ws f) (k : Agr all o f.rd s s2) : Act1 C s2 o v ws f := by
  cases h with
  | op hc he hr => exact .op hc (aop_congr he k.ev fun i hi => k.ob i hi) hr
  | call hc hco ha hrq hs hq =>
    rename_i fo args f xs as ws is lent rq res
    obtain ⟨ts, hop⟩ := isCall_spec hc
    have hev := k.ev (C := C)
    have hmem : ∀ x, (x = fo ∨ x ∈ args.toList) → x ∈ o.op.operands.toList := by
      intro x hx
      rw [hop]
      rcases hx with rfl | hx
      · simp [Op.operands, Call.operands]
      · simp only [Array.mem_toList_iff] at hx
        simp [Op.operands, Call.operands, hx]
    have hco2 : callOf C s2 fo args = some (f, xs) := by
      rw [callOf_congr (hev fo (hmem _ (.inl rfl))) fun x hx => hev x (hmem _ (.inr hx))]
      exact hco
    exact .call hc hco2 (argsOf_congr ha fun i hi => k.ob i hi) hrq hs hq
  | callX hc hco hs hx hp hk =>
    rename_i fo args f xs pargs pre post res ρ
    obtain ⟨ts, hop⟩ := isCall_spec hc
    have hev := k.ev (C := C)
    have hmem : ∀ x, (x = fo ∨ x ∈ args.toList) → x ∈ o.op.operands.toList := by
      intro x hx
      rw [hop]
      rcases hx with rfl | hx
      · simp [Op.operands, Call.operands]
      · simp only [Array.mem_toList_iff] at hx
        simp [Op.operands, Call.operands, hx]
    have hco2 : callOf C s2 fo args = some (f, xs) := by
      rw [callOf_congr (hev fo (hmem _ (.inl rfl))) fun x hx => hev x (hmem _ (.inr hx))]
      exact hco
    have hp2 : ∀ l : List (Nat × SObj), onO s.g0 l → (∀ i ∈ fsts l, s2.g0 i = s.g0 i) → onO s2.g0 l := by
      intro l
      induction l with
      | nil => intro _ _; trivial
      | cons q l ih =>
        obtain ⟨a, b⟩ := q
        intro h1 h2
        exact ⟨(h2 a (by simp [fsts])).trans h1.1, ih h1.2 fun i hi => h2 i (by simp [fsts, hi])⟩
    exact .callX hc hco2 hs hx (hp2 _ hp fun i hi => k.ob i hi) hk

theorem mentW_append : ∀ (a b : List (Nat × SObj)), mentW (a ++ b) = mentW a ++ mentW b
  | [], _ => rfl
  | x :: a, b => by simp [mentW, mentW_append a b]
theorem exposC_ment : ∀ {xs : List TV} {p : Expos}, exposC g xs = some p → mentW p.w = []
  | [], p, h => by cases h; rfl
  | x :: xs, p, h => by
    simp only [exposC] at h
    split at h
    · rename_i p1 p2 h1 h2
      cases h
      rw [mentW_append, exposC_ment h2]
      have : mentW p1.w = [] := by
        cases x <;> simp only [expoC] at h1 <;> first | (cases h1; done) | (cases h1; rfl) | (split at h1 <;> cases h1 <;> rfl)
      rw [this]; rfl
    · cases h
theorem expo_ment {x : TV} {p : Expo} (h : expo g x = some p) : mentW p.w = [] := by
  unfold expo at h
  split at h
  · cases h; rfl
  · cases h; rfl
  · split at h
    · cases h; simp [mentW, SObj.ment]
    · cases h; rfl
    · cases h
  · split at h
    · split at h
      · cases h; simp [mentW, SObj.ment]
      · cases h
    · cases h; rfl
    · cases h
  · split at h
    · rename_i q hq
      cases h
      exact exposC_ment hq
    · cases h
  · cases h
theorem argsOf_ment {ld : Bool} : ∀ {xs : List TV} {as : List AV} {ws : List (Nat × SObj)} {is : List Nat} {l rq : Bool}, argsOf ld g xs = some (as, ws, is, l, rq) → mentW ws = []
  | [], as, ws, is, l, rq, h => by cases h; rfl
  | x :: xs, as, ws, is, l, rq, h => by
    simp only [argsOf] at h
    split at h
    · cases h
    · rename_i as' ws' is' l' rq' h1
      split at h
      · split at h
        · cases h; exact argsOf_ment h1
        · cases h
      · split at h
        · cases h; exact argsOf_ment h1
        split at h
        · rename_i p hp
          cases h
          rw [mentW_append, argsOf_ment h1, expo_ment hp]; rfl
        · cases h
theorem bindR_mentW {id : Nat} {r : RItem} : mentW (bindR id r).2 = [] := by cases r <;> rfl
theorem bindRs_mentW : ∀ {rs : List RItem} {id : Nat}, mentW (bindRs id rs).2 = []
  | [], _ => rfl
  | r :: rs, id => by simp only [bindRs, mentW_append, bindR_mentW, bindRs_mentW]; rfl
theorem bindRes_mentW {id : Nat} {rs : List RItem} : mentW (bindRes id rs).2 = [] := by
  unfold bindRes
  split
  · exact bindR_mentW
  · exact bindRs_mentW

/-- What is written and named is in the footprint. -/
theorem Act1.foot {o : Oper} {v : TV} {ws : List (Nat × SObj)} {f : Foot} (h : Act1 C s o v ws f) : (∀ i ∈ v.ment, i ∈ f.mt) ∧ (∀ i ∈ mentW ws, i ∈ f.mt) ∧ fsts ws = f.wr := by
  cases h with
  | op hc he hr => exact ⟨fun i hi => List.mem_append_left _ hi, fun i hi => List.mem_append_right _ hi, rfl⟩
  | call hc hco ha hrq hs hq =>
    refine ⟨fun i hi => hi, fun i hi => ?_, fsts_append _ _⟩
    rw [mentW_append, argsOf_ment ha, bindRes_mentW] at hi
    simp at hi
  | callX hc hco hs hx hp hk => exact ⟨fun i hi => List.mem_append_left _ hi, fun i hi => List.mem_append_right _ hi, rfl⟩

theorem puts_cases : ∀ {ws : List (Nat × SObj)} {g : Gs} {i : Nat} {o : SObj}, puts g ws i = some o → g i = some o ∨ (i, o) ∈ ws
  | [], g, i, o, h => .inl h
  | (k, x) :: ws, g, i, o, h => by
    rcases puts_cases (ws := ws) h with h1 | h1
    · by_cases hk : i = k
      · subst hk
        rw [upd_same] at h1
        cases h1
        exact .inr (by simp)
      · rw [upd_ne hk] at h1
        exact .inl h1
    · exact .inr (List.mem_cons_of_mem _ h1)
theorem mem_mentW {ws : List (Nat × SObj)} {i k : Nat} {o : SObj} (h : (i, o) ∈ ws) (hk : k ∈ o.ment) : k ∈ mentW ws := by
  induction ws with
  | nil => simp at h
  | cons p ws ih =>
    simp only [mentW, List.mem_append]
    rcases List.mem_cons.1 h with rfl | h
    · exact .inl hk
    · exact .inr (ih h)
theorem upS_g0 {d : Option Tmp} {v : TV} {ws : List (Nat × SObj)} : (upS s d v ws).g0 = puts s.g0 ws := look_putAll _ _
theorem SFr.up {k : Nat} {d : Option Tmp} {v : TV} {ws : List (Nat × SObj)} (h : SFr s k) (hv : k ∉ v.ment) (hw : k ∉ mentW ws) (hk : k ∉ fsts ws) : SFr (upS s d v ws) k := by
  refine ⟨fun t x hx => ?_, ?_⟩
  · simp only [upS] at hx
    rw [look_setD] at hx
    split at hx
    · cases hx; exact hv
    · exact h.1 t x hx
  · rw [upS_g0]
    refine ⟨(puts_other (by rw [fsts_map] at hk; exact hk)).trans h.2.1, fun i o ho => ?_⟩
    rcases puts_cases ho with h1 | h1
    · exact h.2.2 i o h1
    · exact fun hm => hw (mem_mentW h1 hm)
theorem SFr.act {k : Nat} {o : Oper} {d : Option Tmp} {v : TV} {ws : List (Nat × SObj)} {f : Foot} (h : SFr s k) (ha : Act1 C s o v ws f) (hk : k ∉ f.mt ++ f.wr) : SFr (upS s d v ws) k := by
  obtain ⟨h1, h2, h3⟩ := ha.foot
  simp only [List.mem_append, not_or] at hk
  exact h.up (fun hm => hk.1 (h1 k hm)) (fun hm => hk.1 (h2 k hm)) (by rw [h3]; exact hk.2)
theorem SFr.eqv {k : Nat} (h : SFr s k) (e : StEq s s') : SFr s' k := by
  refine ⟨fun t x hx => h.1 t x (by rw [← e.tmps]; exact hx), ?_⟩
  rw [e.objs]; exact h.2

/-- An operation, wanted or not. -/
inductive Ent (C : Ctx) (all : List Oper) (s : St) (o : Oper) : TV → List (Nat × SObj) → Foot → Bool → Prop
  | plain {v ws f} : o.guard = none → Act1 C s o v ws f → Ent C all s o v ws f true
  | yes {v ws f t w} : guardOf all s o.guard = some (some (t, w, w)) → Act1 C s o v ws f → Ent C all s o v ws f true
  | no {t w} : guardOf all s o.guard = some (some (t, !w, w)) → Ent C all s o udf [] noFoot false
  | off : guardOff all s o.guard = true → Ent C all s o udf [] noFoot false

theorem guardOf_congr {o : Oper} {rd : List Nat} (k : Agr all o rd s s2) : guardOf all s2 o.guard = guardOf all s o.guard := by
  unfold guardOf
  cases hg : o.guard with
  | none => rfl
  | some p =>
    obtain ⟨j, w⟩ := p
    cases ht : (all[j]?).bind (·.dst) with
    | none => simp only [ht]
    | some t =>
      have : look s2.tmps t = look s.tmps t := k.tm t (by simp [tmpsOf, hg, ht])
      simp only [ht, this]
theorem guardOff_congr {o : Oper} {rd : List Nat} (k : Agr all o rd s s2) : guardOff all s2 o.guard = guardOff all s o.guard := by
  unfold guardOff
  cases hg : o.guard with
  | none => rfl
  | some p =>
    obtain ⟨j, w⟩ := p
    cases ht : (all[j]?).bind (·.dst) with
    | none => simp only [ht]
    | some t =>
      have : look s2.tmps t = look s.tmps t := k.tm t (by simp [tmpsOf, hg, ht])
      simp only [ht, this]
theorem Ent.congr {o : Oper} {v : TV} {ws : List (Nat × SObj)} {f : Foot} {b : Bool} (h : Ent C all s o v ws f b) (k : Agr all o f.rd s s2) : Ent C all s2 o v ws f b := by
  cases h with
  | plain h1 h2 => exact .plain h1 (h2.congr k)
  | yes h1 h2 => exact .yes ((guardOf_congr k).trans h1) (h2.congr k)
  | no h1 => exact .no ((guardOf_congr k).trans h1)
  | off h1 => exact .off ((guardOff_congr k).trans h1)
theorem Ent.foot {o : Oper} {v : TV} {ws : List (Nat × SObj)} {f : Foot} {b : Bool} (h : Ent C all s o v ws f b) : (∀ i ∈ v.ment, i ∈ f.mt) ∧ (∀ i ∈ mentW ws, i ∈ f.mt) ∧ fsts ws = f.wr := by
  cases h with
  | plain h1 h2 => exact h2.foot
  | yes h1 h2 => exact h2.foot
  | no h1 => simp [udf, TV.ment, mentW, fsts, noFoot]
  | off h1 => simp [udf, TV.ment, mentW, fsts, noFoot]
theorem SFr.ent {k : Nat} {o : Oper} {d : Option Tmp} {v : TV} {ws : List (Nat × SObj)} {f : Foot} {b : Bool} (h : SFr s k) (ha : Ent C all s o v ws f b) (hk : k ∉ f.mt ++ f.wr) : SFr (upS s d v ws) k := by
  obtain ⟨h1, h2, h3⟩ := ha.foot
  simp only [List.mem_append, not_or] at hk
  exact h.up (fun hm => hk.1 (h1 k hm)) (fun hm => hk.1 (h2 k hm)) (by rw [h3]; exact hk.2)

theorem upS_eqv {d : Option Tmp} {v : TV} {ws : List (Nat × SObj)} (h : StEq s s2) : StEq (upS s d v ws) (upS s2 d v ws) := by
  refine ⟨fun t => ?_, ?_⟩
  · simp only [upS, look_setD, h.tmps]
  · rw [upS_g0, upS_g0, h.objs]

theorem puts_in : ∀ {ws : List (Nat × SObj)} {g g2 : Gs} {i : Nat}, i ∈ fsts ws → puts g ws i = puts g2 ws i
  | [], g, g2, i, h => by simp [fsts] at h
  | (k, x) :: ws, g, g2, i, h => by
    by_cases hm : i ∈ fsts ws
    · exact puts_in (ws := ws) hm
    · have hik : i = k := by
        simp only [fsts, List.mem_cons] at h
        exact h.resolve_right hm
      have hm' : i ∉ ws.map (·.1) := by rw [← fsts_map]; exact hm
      subst hik
      simp only [puts]
      rw [puts_other hm', puts_other hm', upd_same, upd_same]
theorem puts_comm {a b : List (Nat × SObj)} (h : ∀ i ∈ fsts a, i ∉ fsts b) : puts (puts g a) b = puts (puts g b) a := by
  funext i
  by_cases ha : i ∈ fsts a
  · have hb := h i ha
    rw [puts_other (by rw [← fsts_map]; exact hb)]
    exact puts_in ha
  · by_cases hb : i ∈ fsts b
    · have e : puts (puts g b) a i = puts g b i := puts_other (by rw [← fsts_map]; exact ha)
      rw [e]
      exact puts_in hb
    · have e1 : puts (puts g b) a i = puts g b i := puts_other (by rw [← fsts_map]; exact ha)
      have e2 : puts (puts g a) b i = puts g a i := puts_other (by rw [← fsts_map]; exact hb)
      have e3 : puts g a i = g i := puts_other (by rw [← fsts_map]; exact ha)
      have e4 : puts g b i = g i := puts_other (by rw [← fsts_map]; exact hb)
      rw [e1, e2, e3, e4]
theorem upS_comm {d1 d2 : Option Tmp} {v1 v2 : TV} {w1 w2 : List (Nat × SObj)} (hd : ∀ t, d1 = some t → d2 ≠ some t) (hw : ∀ i ∈ fsts w1, i ∉ fsts w2) :
    StEq (upS (upS s d1 v1 w1) d2 v2 w2) (upS (upS s d2 v2 w2) d1 v1 w1) := by
  refine ⟨fun t => ?_, ?_⟩
  · simp only [upS, look_setD]
    by_cases h1 : d1 = some t
    · simp [h1, hd t h1]
    · simp [h1]
  · rw [upS_g0, upS_g0, upS_g0, upS_g0]
    exact (puts_comm hw).symm

theorem disj_spec {a b : List Nat} (h : disj a b = true) : ∀ x ∈ a, x ∉ b := by
  intro x hx
  have := List.all_eq_true.1 h x hx
  simpa using this
/-- The later one, first. -/
theorem Ent.first {oi oj : Oper} {vi vj : TV} {wi wj : List (Nat × SObj)} {fi fj : Foot} {bi bj : Bool} (hap : apartOK all oi oj fi fj = true) (hj : Ent C all s oj vj wj fj bj) (hi : Ent C all (upS s oj.dst vj wj) oi vi wi fi bi) :
    Ent C all s oi vi wi fi bi ∧ Ent C all (upS s oi.dst vi wi) oj vj wj fj bj ∧ StEq (upS (upS s oj.dst vj wj) oi.dst vi wi) (upS (upS s oi.dst vi wi) oj.dst vj wj) := by
  simp only [apartOK, Bool.and_eq_true] at hap
  obtain ⟨⟨⟨a1, a2⟩, a3⟩, a4⟩ := hap
  have a1 := disj_spec a1
  have a2 := disj_spec a2
  have a3 := disj_spec a3
  have a4 := disj_spec a4
  obtain ⟨_, _, ej⟩ := hj.foot
  obtain ⟨_, _, ei⟩ := hi.foot
  have ki : Ent C all s oi vi wi fi bi := by
    refine hi.congr ⟨fun t ht => ?_, fun i hm => ?_⟩
    · simp only [upS, look_setD]
      split
      · rename_i h
        exact absurd (List.mem_append_right _ ht) (a1 t (by simp [h]))
      · rfl
    · rw [upS_g0]
      exact (puts_other (by rw [← fsts_map, ej]; exact fun h => a3 i h (List.mem_append_right _ hm))).symm
  refine ⟨ki, ?_, ?_⟩
  · refine hj.congr ⟨fun t ht => ?_, fun i hm => ?_⟩
    · simp only [upS, look_setD]
      split
      · rename_i h
        exact absurd (by simp [h] : t ∈ oi.dst.toList) (a2 t ht)
      · rfl
    · rw [upS_g0]
      exact puts_other (by rw [← fsts_map, ei]; exact fun h => a4 i (List.mem_append_right _ hm) h)
  · refine upS_comm (fun t ht h2 => a1 t (by simp [ht]) (List.mem_append_left _ (by simp [h2]))) fun i hi h2 => ?_
    rw [ej] at hi
    rw [ei] at h2
    exact a3 i hi (List.mem_append_left _ h2)
end
end Go.Sy

/- Soundness, part 22: any order. -/
set_option linter.unusedVariables false
namespace Go.Sy
open Go.RowKit

structure En where
  i : Nat
  o : Oper
  f : Foot

/-- Operations one behind the other. -/
inductive Ch (C : Ctx) (all : List Oper) (s' : St) : St → List En → Prop
  | nil {s} : StEq s s' → Ch C all s' s []
  | cons {s e r v ws b} : Ent C all s e.o v ws e.f b → (∀ k ∈ e.f.nw, SFr s k) → Ch C all s' (upS s e.o.dst v ws) r → Ch C all s' s (e :: r)

section
variable {C : Ctx} {s s2 s' : St} {all : List Oper}

theorem Ch.eqv : ∀ {r : List En} {s s2 : St}, StEq s s2 → Ch C all s' s r → Ch C all s' s2 r
  | [], s, s2, h, k => by
    cases k with
    | nil k => exact .nil (h.symm.trans k)
  | e :: r, s, s2, h, k => by
    cases k with
    | cons h1 h2 h3 => exact .cons (h1.congr (h.agr _ _)) (fun i hi => (h2 i hi).eqv h) (Ch.eqv (upS_eqv h) h3)

/-- One of them, first. -/
theorem Ch.pull : ∀ {pre : List En} {e : En} {post : List En} {s : St}, Ch C all s' s (pre ++ e :: post) → (∀ x ∈ pre, apartOK all e.o x.o e.f x.f = true) → (∀ k ∈ e.f.nw, SFr s k) →
    (∀ x ∈ pre, ∀ k ∈ e.f.nw, k ∉ x.f.mt ++ x.f.wr) → (∀ x ∈ pre, ∀ k ∈ x.f.nw, k ∉ e.f.mt ++ e.f.wr) → ∃ v ws b, Ent C all s e.o v ws e.f b ∧ Ch C all s' (upS s e.o.dst v ws) (pre ++ post)
  | [], e, post, s, h, _, _, _, _ => by
    cases h with
    | cons h1 h2 h3 => exact ⟨_, _, _, h1, h3⟩
  | x :: pre, e, post, s, h, ha, hf, h1, h2 => by
    cases h with
    | cons hx hxf hr =>
      obtain ⟨v, ws, b, hi, hc⟩ := Ch.pull (pre := pre) (e := e) (post := post) hr (fun y hy => ha y (List.mem_cons_of_mem _ hy)) (fun k hk => (hf k hk).ent hx (h1 x (by simp) k hk))
        (fun y hy => h1 y (List.mem_cons_of_mem _ hy)) (fun y hy => h2 y (List.mem_cons_of_mem _ hy))
      obtain ⟨ki, kj, eq⟩ := Ent.first (ha x (by simp)) hx hi
      exact ⟨v, ws, b, ki, .cons kj (fun k hk => (hxf k hk).ent ki (h2 x (by simp) k hk)) (hc.eqv eq)⟩

/-! ### who waits for whom -/
theorem ancOf_bit {acc : List Nat} {o : Oper} {j : Nat} (h : (ancOf acc o).testBit j = true) : ∃ e ∈ o.after.toList, Region.binds .any e = true ∧ (e.on = j ∨ (acc.getD e.on 0).testBit j = true) := by
  unfold ancOf at h
  have key : ∀ (l : List Edge) (x : Nat), (l.foldl (fun s e => if Region.binds .any e then s ||| 2 ^ e.on ||| acc.getD e.on 0 else s) x).testBit j = true → x.testBit j = true ∨ ∃ e ∈ l, Region.binds .any e = true ∧ (e.on = j ∨ (acc.getD e.on 0).testBit j = true) := by
    intro l
    induction l with
    | nil => intro x h; exact .inl h
    | cons e l ih =>
      intro x h
      rw [List.foldl_cons] at h
      rcases ih _ h with h1 | ⟨e', h1, h2⟩
      · by_cases hb : Region.binds .any e = true
        · rw [if_pos hb, Nat.testBit_or, Nat.testBit_or, Nat.testBit_two_pow] at h1
          simp only [Bool.or_eq_true, decide_eq_true_eq] at h1
          rcases h1 with (h1 | h1) | h1
          · exact .inl h1
          · exact .inr ⟨e, by simp, hb, .inl h1⟩
          · exact .inr ⟨e, by simp, hb, .inr h1⟩
        · rw [if_neg hb] at h1
          exact .inl h1
      · exact .inr ⟨e', List.mem_cons_of_mem _ h1, h2⟩
  rcases key _ _ h with h1 | h1
  · simp at h1
  · exact h1
theorem ancsFrom_low : ∀ (os : List Oper) (acc : List Nat) (k : Nat), k < acc.length → (ancsFrom acc os)[k]? = acc[k]?
  | [], acc, k, h => rfl
  | o :: os, acc, k, h => by
    rw [ancsFrom, ancsFrom_low os _ k (by simp; omega), List.getElem?_append_left h]
theorem ancsFrom_get : ∀ (os : List Oper) (acc : List Nat) (j : Nat) (o : Oper), os[j]? = some o → ∃ acc', (ancsFrom acc os)[acc.length + j]? = some (ancOf acc' o) ∧ ∀ k, k < acc.length + j → acc'[k]? = (ancsFrom acc os)[k]? 
  | [], acc, j, o, h => by simp at h
  | x :: os, acc, j, o, h => by
    cases j with
    | zero =>
      simp at h
      subst h
      refine ⟨acc, ?_, fun k hk => ?_⟩
      · rw [ancsFrom, ancsFrom_low os _ _ (by simp)]
        simp
      · rw [ancsFrom, ancsFrom_low os _ k (by simp; omega), List.getElem?_append_left (by omega)]
    | succ j =>
      simp at h
      obtain ⟨acc', h1, h2⟩ := ancsFrom_get os (acc ++ [ancOf acc x]) j o h
      refine ⟨acc', ?_, fun k hk => ?_⟩
      · rw [ancsFrom, ← h1]; congr 1; simp; omega
      · rw [ancsFrom, ← h2 k (by simp; omega)]
theorem ancs_bit {ops : List Oper} {i j : Nat} {o : Oper} (ho : ops[i]? = some o) (hb : backOK i o = true) (h : ((ancs ops).getD i 0).testBit j = true) :
    ∃ e ∈ o.after.toList, Region.binds .any e = true ∧ (e.on = j ∨ ((ancs ops).getD e.on 0).testBit j = true) := by
  obtain ⟨acc', h1, h2⟩ := ancsFrom_get ops [] i o ho
  simp only [List.length_nil, Nat.zero_add] at h1 h2
  have h3 : (ancs ops).getD i 0 = ancOf acc' o := by
    rw [List.getD_eq_getElem?_getD]
    unfold ancs
    rw [h1]
    rfl
  rw [h3] at h
  obtain ⟨e, he, hbd, h4⟩ := ancOf_bit h
  refine ⟨e, he, hbd, h4.imp id fun h5 => ?_⟩
  have hlt : e.on < i := by
    unfold backOK at hb
    have := List.all_eq_true.1 hb e he
    simpa [hbd] using this
  rw [List.getD_eq_getElem?_getD] at h5 ⊢
  unfold ancs
  rw [← h2 _ hlt]
  exact h5

theorem orderOK_spec {ops : List Oper} {fs : List Foot} (h : orderOK ops fs = true) {i j : Nat} {oi oj : Oper} {fi fj : Foot} (hi : ops[i]? = some oi) (hfi : fs[i]? = some fi) (hj : ops[j]? = some oj) (hfj : fs[j]? = some fj) :
    backOK i oi = true ∧ (i ≠ j → (j < i → ¬ ((ancs ops).getD i 0).testBit j = true → apartOK ops oi oj fi fj = true) ∧ (¬ (i < j ∧ ((ancs ops).getD j 0).testBit i = true) → ∀ k ∈ fi.nw, k ∉ fj.mt ++ fj.wr)) := by
  unfold orderOK at h
  have h1 := List.all_eq_true.1 h i (List.mem_range.2 (List.getElem?_eq_some_iff.1 hi).1)
  simp only [hi, hfi, Bool.and_eq_true] at h1
  refine ⟨h1.1, fun hne => ?_⟩
  have h2 := List.all_eq_true.1 h1.2 j (List.mem_range.2 (List.getElem?_eq_some_iff.1 hj).1)
  simp only [hj, hfj, Bool.or_eq_true, beq_iff_eq, hne, false_or, Bool.and_eq_true, decide_eq_true_eq] at h2
  obtain ⟨h3, h4⟩ := h2
  refine ⟨fun hlt hnb => ?_, fun hn => ?_⟩
  · rcases h3 with (h3 | h3) | h3
    · omega
    · exact absurd h3 hnb
    · exact h3
  · rcases h4 with h4 | h4
    · exact absurd h4 hn
    · exact disj_spec h4
end

section
variable {C : Ctx} {Ow : Nat → Prop} {m0 m : Mem} {γ : Ga} {w0 w : World} {N : Nat} {s s' : St} {a : Act} {ops : Array Oper} {Q : Exit → Act → World → Prop}

theorem guard_wanted (hR : Rel C Ow m0 w0 N s a w) {o : Oper} {j : Nat} {want : Bool} {t : Tmp} {b w' : Bool} (hg : o.guard = some (j, want)) (h : guardOf ops.toList s o.guard = some (some (t, b, w'))) :
    w' = want ∧ Region.wanted o (yielded ops a.tmps) = (b == want) := by
  rw [hg] at h
  simp only [guardOf] at h
  split at h
  · rename_i t' ht
    split at h
    · rename_i b' hl
      cases h
      obtain ⟨m, γ, hp, htm⟩ := hR.mem
      obtain ⟨u, h1, h2⟩ := htm _ _ hl
      have hu : u = .bool b := h2
      subst hu
      refine ⟨rfl, ?_⟩
      have ht2 : (ops[j]?).bind (·.dst) = some t := by simpa using ht
      simp [Region.wanted, hg, yielded, ht2, h1]
    · cases h
  · cases h

/-- One of a region's operations. -/
theorem Ent.wp (hX : Cx C Ow m0 w0) (hR : Rel C Ow m0 w0 N s a w) {i : Nat} {o : Oper} {v : TV} {ws : List (Nat × SObj)} {f : Foot} {b : Bool} {K : Act → World → Prop} (hd : ∀ t, o.dst = some t → t < N) (hi : ops[i]? = some o)
    (h : Ent C ops.toList s o v ws f b) (hfr : ∀ i ∈ f.nw, SFr s i) (hK : ∀ a' w', Rel C Ow m0 w0 N (upS s o.dst v ws) a' w' → K a' w') : wpOp C.P ops Q i K a w := by
  unfold wpOp
  simp only [hi]
  cases h with
  | plain hg ha =>
    have : Region.wanted o (yielded ops a.tmps) = true := by simp [Region.wanted, hg]
    simp only [this, if_true]
    exact .inl (ha.sound hX hR hd hfr hK)
  | yes hg ha =>
    rename_i t w'
    cases hgo : o.guard with
    | none => rw [hgo] at hg; simp [guardOf] at hg
    | some p =>
      obtain ⟨j, want⟩ := p
      obtain ⟨e1, e2⟩ := guard_wanted hR hgo hg
      subst e1
      have : Region.wanted o (yielded ops a.tmps) = true := by rw [e2]; simp
      simp only [this, if_true]
      exact .inl (ha.sound hX hR hd hfr hK)
  | no hg =>
    rename_i t w'
    cases hgo : o.guard with
    | none => rw [hgo] at hg; simp [guardOf] at hg
    | some p =>
      obtain ⟨j, want⟩ := p
      obtain ⟨e1, e2⟩ := guard_wanted hR hgo hg
      subst e1
      have : Region.wanted o (yielded ops a.tmps) = false := by rw [e2]; cases w' <;> rfl
      simp only [this, Bool.false_eq_true, if_false]
      obtain ⟨m, γ, hp, ht⟩ := hR.mem
      refine hK _ _ ?_
      exact hR.put (nw := []) hd ht (Nx.refl hp []) (by simp) (by simp only [udf, RepT, RepT0, RepV]; rfl)
  | off hg =>
    have : Region.wanted o (yielded ops a.tmps) = false := by
      cases hgo : o.guard with
      | none => rw [hgo] at hg; simp [guardOff] at hg
      | some p =>
        obtain ⟨j, want⟩ := p
        rw [hgo] at hg
        simp only [guardOff] at hg
        split at hg
        · rename_i t ht
          split at hg
          · rename_i x hl
            obtain ⟨m, γ, hp, htm⟩ := hR.mem
            obtain ⟨u, h1, h2⟩ := htm _ _ hl
            have hu : u = .tuple x := h2
            subst hu
            have ht2 : (ops[j]?).bind (·.dst) = some t := by simpa using ht
            simp [Region.wanted, hgo, yielded, ht2, h1]
          · cases hg
        · cases hg
    simp only [this, Bool.false_eq_true, if_false]
    obtain ⟨m, γ, hp, ht⟩ := hR.mem
    refine hK _ _ ?_
    exact hR.put (nw := []) hd ht (Nx.refl hp []) (by simp) (by simp only [udf, RepT, RepT0, RepV]; rfl)

/-- Operations in the text's order. -/
theorem Ch.seq (hX : Cx C Ow m0 w0) (hd : ∀ (i : Nat) (o : Oper), ops[i]? = some o → ∀ t, o.dst = some t → t < N) (hQ : ∀ a w, Rel C Ow m0 w0 N s' a w → Q .normal a w) : ∀ {L : List En} {s : St} {a : Act} {w : World},
    (∀ e ∈ L, ops[e.i]? = some e.o) → Ch C ops.toList s' s L → Rel C Ow m0 w0 N s a w → wpOps C.P ops Q (L.map (·.i)) a w
  | [], s, a, w, _, h, hR => by
    cases h with
    | nil h => exact hQ _ _ (hR.eqv h)
  | e :: L, s, a, w, hm, h, hR => by
    cases h with
    | cons h1 h2 h3 =>
      rw [List.map_cons, wpOps_cons]
      have he := hm e (by simp)
      exact h1.wp hX hR (hd e.i e.o he) he h2 fun a' w' hR' => Ch.seq hX hd hQ (fun x hx => hm x (List.mem_cons_of_mem _ hx)) h3 hR'

theorem getD_of {listed : Array Bool} {j : Nat} (h : j < listed.size) (d d' : Bool) : listed.getD j d = listed.getD j d' := by simp [h]

/-- Operations in any order. -/
theorem Ch.any (hX : Cx C Ow m0 w0) {fs : List Foot} (hOK : orderOK ops.toList fs = true) (hd : ∀ (i : Nat) (o : Oper), ops[i]? = some o → ∀ t, o.dst = some t → t < N) (hQ : ∀ a w, Rel C Ow m0 w0 N s' a w → Q .normal a w) :
    ∀ (n : Nat) (L : List En) (listed : Array Bool) (s : St) (a : Act) (w : World), L.length = n → listed.size = ops.size → L.Pairwise (fun x y => x.i < y.i) → (∀ j, (∃ e ∈ L, e.i = j) ↔ (j < ops.size ∧ listed.getD j true = false)) →
      (∀ e ∈ L, ops[e.i]? = some e.o ∧ fs[e.i]? = some e.f) → (∀ j, listed.getD j false = true → j < ops.size → ∀ u, ((ancs ops.toList).getD j 0).testBit u = true → listed.getD u false = true) →
      (∀ e ∈ L, ∀ k ∈ e.f.nw, SFr s k) → Ch C ops.toList s' s L → Rel C Ow m0 w0 N s a w → wpAny C.P .any ops Q n listed a w := by
  intro n
  induction n with
  | zero =>
    intro L listed s a w hn hsz hpw hmem hent hcl hfr hch hR
    have : L = [] := List.eq_nil_of_length_eq_zero hn
    subst this
    refine ⟨List.eq_nil_iff_forall_not_mem.2 fun j hj => ?_, ?_⟩
    · obtain ⟨h1, o, ho, _⟩ := mem_ready.1 hj
      obtain ⟨e, he, _⟩ := (hmem j).2 ⟨(Array.getElem?_eq_some_iff.1 ho).1, h1⟩
      simp at he
    · cases hch with
      | nil h => exact hQ _ _ (hR.eqv h)
  | succ n ih =>
    intro L listed s a w hn hsz hpw hmem hent hcl hfr hch hR
    refine ⟨fun hnil => ?_, fun i hi => ?_⟩
    · -- the first one is ready
      exfalso
      cases L with
      | nil => simp at hn
      | cons e L =>
        obtain ⟨h1, h2⟩ := (hmem e.i).1 ⟨e, by simp, rfl⟩
        obtain ⟨ho, hf⟩ := hent e (by simp)
        have ho' : ops.toList[e.i]? = some e.o := by simpa using ho
        have hb := (orderOK_spec hOK ho' hf ho' hf).1
        have : e.i ∈ Region.ready .any ops listed := by
          refine mem_ready.2 ⟨h2, e.o, ho, fun ed hed hbd => ?_⟩
          have hlt : ed.on < e.i := by
            unfold backOK at hb
            have := List.all_eq_true.1 hb ed (by simpa using hed)
            simpa [hbd] using this
          cases hl : listed.getD ed.on false with
          | true => rfl
          | false =>
            have hl' : listed.getD ed.on true = false := by rw [getD_of (by omega) true false]; exact hl
            obtain ⟨x, hx, hxi⟩ := (hmem ed.on).2 ⟨by omega, hl'⟩
            rcases List.mem_cons.1 hx with rfl | hx
            · omega
            · have := (List.pairwise_cons.1 hpw).1 x hx
              omega
        rw [hnil] at this
        simp at this
    · obtain ⟨h1, o, ho, haft⟩ := mem_ready.1 hi
      obtain ⟨e, he, hei⟩ := (hmem i).2 ⟨(Array.getElem?_eq_some_iff.1 ho).1, h1⟩
      subst hei
      obtain ⟨ho2, hf⟩ := hent e he
      rw [ho] at ho2
      cases ho2
      have hoL : ops.toList[e.i]? = some e.o := by simpa using ho
      have hback := (orderOK_spec hOK hoL hf hoL hf).1
      have hanc : ∀ u, ((ancs ops.toList).getD e.i 0).testBit u = true → listed.getD u false = true := by
        intro u hu
        obtain ⟨ed, hed, hbd, h3⟩ := ancs_bit hoL hback hu
        have hl := haft ed (by simpa using hed) hbd
        rcases h3 with rfl | h3
        · exact hl
        · refine hcl _ hl ?_ u h3
          unfold backOK at hback
          have := List.all_eq_true.1 hback ed hed
          have h5 : ed.on < e.i := by simpa [hbd] using this
          have := (Array.getElem?_eq_some_iff.1 ho).1
          omega
      obtain ⟨pre, post, rfl⟩ := List.append_of_mem he
      have hunl : ∀ x ∈ pre ++ e :: post, listed.getD x.i false = false := by
        intro x hx
        obtain ⟨h3, h4⟩ := (hmem x.i).1 ⟨x, hx, rfl⟩
        rw [getD_of (by omega) false true]
        exact h4
      have hpre : ∀ x ∈ pre, x.i < e.i := fun x hx => (List.pairwise_append.1 hpw).2.2 x hx e (by simp)
      have hpost : ∀ x ∈ post, e.i < x.i := fun x hx => (List.pairwise_cons.1 (List.pairwise_append.1 hpw).2.1).1 x hx
      have hentL : ∀ x ∈ pre ++ e :: post, ops.toList[x.i]? = some x.o ∧ fs[x.i]? = some x.f := fun x hx => by
        obtain ⟨h3, h4⟩ := hent x hx
        exact ⟨by simpa using h3, h4⟩
      have hnb : ∀ x ∈ pre ++ e :: post, ¬ ((ancs ops.toList).getD e.i 0).testBit x.i = true := fun x hx hb => by
        have := hanc _ hb
        rw [hunl x hx] at this
        cases this
      have hx : ∀ x ∈ pre, x ∈ pre ++ e :: post := fun x hx => List.mem_append_left _ hx
      have hy : ∀ x ∈ post, x ∈ pre ++ e :: post := fun x hx => List.mem_append_right _ (List.mem_cons_of_mem _ hx)
      have sp := fun x (hxm : x ∈ pre ++ e :: post) => orderOK_spec hOK hoL hf (hentL x hxm).1 (hentL x hxm).2
      have sp2 := fun x (hxm : x ∈ pre ++ e :: post) => orderOK_spec hOK (hentL x hxm).1 (hentL x hxm).2 hoL hf
      obtain ⟨v, ws, b, hE, hC⟩ := hch.pull (fun x hxp => ((sp x (hx x hxp)).2 (by have := hpre x hxp; omega)).1 (hpre x hxp) (hnb x (hx x hxp))) (fun k hk => hfr e he k hk)
        (fun x hxp => ((sp x (hx x hxp)).2 (by have := hpre x hxp; omega)).2 fun h => by have := hpre x hxp; omega)
        (fun x hxp => ((sp2 x (hx x hxp)).2 (by have := hpre x hxp; omega)).2 fun h => hnb x (hx x hxp) h.2)
      refine hE.wp hX hR (hd e.i e.o ho) ho (fun k hk => hfr e he k hk) fun a' w' hR' => ?_
      have hmem' : ∀ x, x ∈ pre ++ post → x ∈ pre ++ e :: post ∧ x.i ≠ e.i := by
        intro x hxm
        rcases List.mem_append.1 hxm with h | h
        · exact ⟨hx x h, by have := hpre x h; omega⟩
        · exact ⟨hy x h, by have := hpost x h; omega⟩
      refine ih (pre ++ post) (listed.setIfInBounds e.i true) _ a' w' (by simp at hn ⊢; omega) (by simp [hsz]) ?_ ?_ (fun x hxm => hent x (hmem' x hxm).1) ?_ ?_ hC hR'
      · rw [List.pairwise_append] at hpw ⊢
        obtain ⟨p1, p2, p3⟩ := hpw
        exact ⟨p1, (List.pairwise_cons.1 p2).2, fun x hx y hy => p3 x hx y (List.mem_cons_of_mem _ hy)⟩
      · intro j
        constructor
        · rintro ⟨x, hxm, rfl⟩
          obtain ⟨h3, h4⟩ := hmem' x hxm
          obtain ⟨h5, h6⟩ := (hmem x.i).1 ⟨x, h3, rfl⟩
          exact ⟨h5, by rw [getD_set_ne true (Ne.symm h4)]; exact h6⟩
        · rintro ⟨h3, h4⟩
          have hne : e.i ≠ j := by
            rintro rfl
            rw [getD_of (by simp [hsz]; exact h3) true false, Array.getD_eq_getD_getElem?, Array.getElem?_setIfInBounds_self_of_lt (by omega)] at h4
            simp at h4
          rw [getD_set_ne true hne] at h4
          obtain ⟨x, hxm, hxi⟩ := (hmem j).2 ⟨h3, h4⟩
          refine ⟨x, ?_, hxi⟩
          rcases List.mem_append.1 hxm with h | h
          · exact List.mem_append_left _ h
          · rcases List.mem_cons.1 h with rfl | h
            · exact absurd hxi hne
            · exact List.mem_append_right _ h
      · intro j hj hjs u hu
        by_cases hje : e.i = j
        · subst hje
          exact getD_set_true (hanc u hu)
        · rw [getD_set_ne false hje] at hj
          exact getD_set_true (hcl j hj hjs u hu)
      · intro x hxm k hk
        obtain ⟨h3, h4⟩ := hmem' x hxm
        refine (hfr x h3 k hk).ent hE (((sp2 x h3).2 h4).2 (fun h => ?_) k hk)
        exact hnb x h3 h.2
end
end Go.Sy

/- Soundness, part 23: derivations. -/
set_option linter.unusedVariables false
namespace Go.Sy
open Go.RowKit

/-- A loop whose rounds are counted. -/
theorem wp_loop_idx {P : Program} {Q : Exit → Act → World → Prop} {a : Act} {w : World} {c : Code} (n : Nat) (I : Nat → Act → World → Prop) (h0 : I 0 a w)
    (round : ∀ j, j ≤ n → ∀ a w, I j a w → c.wp P (Exit.then (fun a' w' => j < n ∧ I (j + 1) a' w') Q) a w) : (Code.loop c).wp P Q a w := by
  intro b k cs
  have key : ∀ (d j : Nat) a w, j + d = n → I j a w → ∃ e a' w', Q e a' w' ∧ Arrives P (lone (b.at a (.code c :: .inLoop c :: k)) cs w) b k cs e a' w' := by
    intro d
    induction d with
    | zero =>
      intro j a w hj hI
      obtain ⟨e, a1, w1, hq, harr⟩ := round j (by omega) a w hI b (.inLoop c :: k) cs
      cases e with
      | normal => exact absurd hq.1 (by omega)
      | outgrown => exact ⟨_, a1, w1, hq, .pass (x := .inLoop c) rfl (fun _ _ => .inl (by simp)) harr⟩
      | exit id => exact ⟨_, a1, w1, hq, .pass (x := .inLoop c) rfl (fun _ _ => .inl (by simp)) harr⟩
      | goto l => exact ⟨_, a1, w1, hq, .pass (x := .inLoop c) rfl (fun _ _ => .inl (by simp)) harr⟩
      | ret => exact ⟨_, a1, w1, hq, .pass (x := .inLoop c) rfl (fun _ _ => .inl (by simp)) harr⟩
      | panic ch => exact ⟨_, a1, w1, hq, .pass (x := .inLoop c) rfl (fun _ _ => .inl (by simp)) harr⟩
    | succ d ih =>
      intro j a w hj hI
      obtain ⟨e, a1, w1, hq, harr⟩ := round j (by omega) a w hI b (.inLoop c :: k) cs
      cases e with
      | normal =>
        obtain ⟨e2, a2, w2, hq2, harr2⟩ := ih (j + 1) a1 w1 (by omega) hq.2
        exact ⟨e2, a2, w2, hq2, .of_steps (Steps.trans harr (.one step_inLoop)) harr2⟩
      | outgrown => exact ⟨_, a1, w1, hq, .pass (x := .inLoop c) rfl (fun _ _ => .inl (by simp)) harr⟩
      | exit id => exact ⟨_, a1, w1, hq, .pass (x := .inLoop c) rfl (fun _ _ => .inl (by simp)) harr⟩
      | goto l => exact ⟨_, a1, w1, hq, .pass (x := .inLoop c) rfl (fun _ _ => .inl (by simp)) harr⟩
      | ret => exact ⟨_, a1, w1, hq, .pass (x := .inLoop c) rfl (fun _ _ => .inl (by simp)) harr⟩
      | panic ch => exact ⟨_, a1, w1, hq, .pass (x := .inLoop c) rfl (fun _ _ => .inl (by simp)) harr⟩
  obtain ⟨e, a', w', hq, harr⟩ := key n 0 a w (by omega) h0
  exact ⟨e, a', w', hq, .of_steps (.one step_loop) harr⟩

/-- Each operation's place is one of the function's temporaries. -/
def codeOK (N : Nat) : Code → Bool
  | .region _ ops _ => ops.toList.all fun o => match o.dst with | some t => decide (t < N) | none => true
  | .seq a b => codeOK N a && codeOK N b
  | .cond _ a b => codeOK N a && codeOK N b
  | .block _ c => codeOK N c
  | .loop c => codeOK N c
  | _ => true
def itOK (N : Nat) : It → Bool
  | .code c => codeOK N c
  | .ops _ _ _ _ _ => false
  | .one _ => false
  | _ => true
def itsOK (N : Nat) (k : List It) : Prop := ∀ i ∈ k, itOK N i = true

section
variable {C : Ctx} {Ow : Nat → Prop} {m0 : Mem} {w0 : World} {N : Nat} {fn : Func} {R : Ending → World → Prop}

/-- What is to hold where a piece of code ends. -/
def ExK (C : Ctx) (Ow : Nat → Prop) (m0 : Mem) (w0 : World) (N : Nat) (fn : Func) (R : Ending → World → Prop) : List It → Exit → Act → World → Prop
  | [], e, a, w => bodyPost C.P fn R e a w
  | i :: k, e, a, w => match i with
    | .code c => Exit.then (c.wp C.P (ExK C Ow m0 w0 N fn R k)) (ExK C Ow m0 w0 N fn R k) e a w
    | .blk id => Exit.inBlock id (ExK C Ow m0 w0 N fn R k) e a w
    | .lp n st I j => Exit.then (fun a w => j < n ∧ I (j + 1) ∧ Rel C Ow m0 w0 N (st (j + 1)) a w) (ExK C Ow m0 w0 N fn R k) e a w
    | _ => ExK C Ow m0 w0 N fn R k e a w

theorem ExK.ret {a : Act} {w : World} (h : bodyPost C.P fn R .ret a w) : ∀ k, ExK C Ow m0 w0 N fn R k .ret a w
  | [] => h
  | i :: k => by cases i <;> exact ExK.ret h k
theorem ExK.exit {id : Nat} {a : Act} {w : World} : ∀ {k k' : List It}, popTo id k = some k' → ExK C Ow m0 w0 N fn R k' .normal a w → ExK C Ow m0 w0 N fn R k (.exit id) a w
  | [], k', h, _ => by simp [popTo] at h
  | i :: k, k', h, hx => by
    cases i with
    | blk j =>
      simp only [popTo] at h
      simp only [ExK, Exit.inBlock]
      cases hj : j == id with
      | true =>
        rw [hj] at h
        simp only [cond_true, Option.some.injEq] at h
        have : id = j := by simpa using (beq_iff_eq.1 hj).symm
        rw [if_pos this, h]
        exact hx
      | false =>
        rw [hj] at h
        simp only [cond_false] at h
        have : ¬ id = j := fun e => by subst e; simp at hj
        rw [if_neg this]
        exact ExK.exit h hx
    | _ => exact ExK.exit (k := k) (by simpa [popTo] using h) hx
theorem popTo_sub {id : Nat} : ∀ {k k' : List It}, popTo id k = some k' → ∀ i ∈ k', i ∈ k
  | [], k', h => by simp [popTo] at h
  | i :: k, k', h => by
    cases i with
    | blk j =>
      simp only [popTo] at h
      cases hj : j == id with
      | true => rw [hj] at h; cases h; exact fun i hi => List.mem_cons_of_mem _ hi
      | false => rw [hj] at h; exact fun i hi => List.mem_cons_of_mem _ (popTo_sub h i hi)
    | _ => exact fun i hi => List.mem_cons_of_mem _ (popTo_sub (k := k) (by simpa [popTo] using h) i hi)

/-- The function's end, told of its results. -/
def EndR (C : Ctx) (Ow : Nat → Prop) (m0 : Mem) (w0 : World) (Rr : RI → Prop) (e : Ending) (w : World) : Prop :=
  (∃ v m' res, e = .returned v ∧ Rr (.items res) ∧ MLe m0 m' ∧ (∀ b, ¬ Ow b → m' b = m0 b) ∧ Cons m' w ∧ Fr Ow w0 w ∧ RepRes C.κ m' w Ow res v) ∨
  ∃ v s x m γ, e = .returned v ∧ Rr (.st s x) ∧ Hp C.κ Ow m0 w0 s.g0 m γ w ∧ RepT C.κ m γ s.g0 x v

/-- What a derivation says. -/
def Mean (C : Ctx) (Ow : Nat → Prop) (m0 : Mem) (w0 : World) (N : Nat) (fn : Func) (R : Ending → World → Prop) (k : List It) (s : St) : Prop :=
  match k with
  | .ops d all os s0 tr :: k => ∃ (L : List (Oper × Foot)) (s' : St), L.map (·.1) = os ∧ (d = true → orderOK all (tr ++ L.map (·.2)) = true ∧ freshAll s0 (tr ++ L.map (·.2)) = true) ∧
      (∀ l : List En, l.map (fun e => (e.o, e.f)) = L → Ch C all s' s l) ∧ (itsOK N k → ∀ a w, Rel C Ow m0 w0 N s' a w → ExK C Ow m0 w0 N fn R k .normal a w)
  | .one o :: .ops d all os s0 tr :: k => ∃ v ws f, Act1 C s o v ws f ∧ (∀ i ∈ f.nw, SFr s i) ∧ ∃ (L : List (Oper × Foot)) (s' : St), L.map (·.1) = os ∧
      (d = true → orderOK all (trA d tr f ++ L.map (·.2)) = true ∧ freshAll s0 (trA d tr f ++ L.map (·.2)) = true) ∧
      (∀ l : List En, l.map (fun e => (e.o, e.f)) = L → Ch C all s' (upS s o.dst v ws) l) ∧ (itsOK N k → ∀ a w, Rel C Ow m0 w0 N s' a w → ExK C Ow m0 w0 N fn R k .normal a w)
  | k => itsOK N k → ∀ a w, Rel C Ow m0 w0 N s a w → ExK C Ow m0 w0 N fn R k .normal a w

theorem setT_eqv {s : St} {t : Tmp} {x : TV} (h : look s.tmps t = some x) : StEq s (s.setT (some t) x) := by
  refine ⟨fun u => ?_, rfl⟩
  simp only [St.setT, look_setD]
  split
  · rename_i e; cases e; exact h.symm
  · rfl
theorem guardOf_look {all : List Oper} {s : St} {g : Option (Nat × Bool)} {t : Tmp} {b w : Bool} (h : guardOf all s g = some (some (t, b, w))) : look s.tmps t = some (.av (.v (.bool b))) := by
  unfold guardOf at h
  split at h
  · cases h
  · split at h
    · split at h
      · rename_i hl; cases h; exact hl
      · cases h
    · cases h

theorem freshAll_spec {s : St} {fs : List Foot} (h : freshAll s fs = true) : ∀ f ∈ fs, ∀ i ∈ f.nw, SFr s i := by
  intro f hf i hi
  exact .of (List.all_eq_true.1 (List.all_eq_true.1 h f hf) i hi)

/-- A region, from what is told of it. -/
theorem region_ok (hX : Cx C Ow m0 w0) (hmix : C.P.follows .mixedOrders = true) {id : Nat} {ops : Array Oper} {d : Bool} {k : List It} {s : St} {a : Act} {w : World} (hN : itsOK N (.code (.region id ops d) :: k))
    (h : Mean C Ow m0 w0 N fn R (.ops d ops.toList ops.toList s [] :: k) s) (hR : Rel C Ow m0 w0 N s a w) : (Code.region id ops d).wp C.P (ExK C Ow m0 w0 N fn R k) a w := by
  obtain ⟨L, s', hL, hord, hch, hend⟩ := h
  have hk : itsOK N k := fun i hi => hN i (List.mem_cons_of_mem _ hi)
  have hd : ∀ (i : Nat) (o : Oper), ops[i]? = some o → ∀ t, o.dst = some t → t < N := by
    intro i o hi t ht
    have := hN _ (List.mem_cons_self)
    simp only [itOK, codeOK] at this
    have := List.all_eq_true.1 this o (by rw [Array.mem_toList_iff]; exact Array.mem_of_getElem? hi)
    simpa [ht] using this
  let l : List En := L.zipIdx.map fun p => ⟨p.2, p.1.1, p.1.2⟩
  have hl : l.map (fun e => (e.o, e.f)) = L := by
    simp only [l, List.map_map]
    have : ((fun e : En => (e.o, e.f)) ∘ fun p : (Oper × Foot) × Nat => (⟨p.2, p.1.1, p.1.2⟩ : En)) = Prod.fst := rfl
    rw [this, List.zipIdx_map_fst]
  have hli : l.map (·.i) = List.range ops.size := by
    simp only [l, List.map_map]
    have : ((fun e : En => e.i) ∘ fun p : (Oper × Foot) × Nat => (⟨p.2, p.1.1, p.1.2⟩ : En)) = Prod.snd := rfl
    rw [this, List.zipIdx_map_snd]
    have : L.length = ops.size := by rw [← Array.length_toList, ← hL]; simp
    rw [this, List.range_eq_range']
  have hget : ∀ e ∈ l, L[e.i]? = some (e.o, e.f) := by
    intro e he
    simp only [l, List.mem_map] at he
    obtain ⟨p, hp, rfl⟩ := he
    have := List.mem_zipIdx_iff_getElem?.1 hp
    simpa using this
  have hgo : ∀ e ∈ l, ops[e.i]? = some e.o := by
    intro e he
    have h1 := hget e he
    have : ops.toList[e.i]? = some e.o := by rw [← hL, List.getElem?_map, h1]; rfl
    simpa using this
  have hC := hch l hl
  cases d with
  | false =>
    refine wp_region ?_
    rw [← hli]
    exact hC.seq hX hd (fun a w => hend hk a w) hgo hR
  | true =>
    obtain ⟨ho, hf⟩ := hord rfl
    simp only [List.nil_append] at ho hf
    refine wp_region_any hmix ?_
    have hlen : l.length = ops.size := by rw [← List.length_range (n := ops.size), ← hli]; simp
    refine Ch.any hX ho hd (fun a w => hend hk a w) ops.size l _ s a _ hlen (by simp) ?_ ?_ ?_ ?_ ?_ hC hR.drew
    · have : (l.map (·.i)).Pairwise (· < ·) := by rw [hli]; exact List.pairwise_lt_range
      exact List.pairwise_map.1 this
    · intro j
      have : (∃ e ∈ l, e.i = j) ↔ j ∈ l.map (·.i) := by simp
      rw [this, hli, List.mem_range]
      constructor
      · intro hj; exact ⟨hj, by simp [hj]⟩
      · exact fun h => h.1
    · intro e he
      refine ⟨hgo e he, ?_⟩
      rw [List.getElem?_map, hget e he]; rfl
    · intro j hj hjs
      simp [hjs] at hj
    · intro e he i hi
      refine freshAll_spec hf e.f ?_ i hi
      rw [List.mem_map]
      exact ⟨(e.o, e.f), List.mem_of_getElem? (hget e he), rfl⟩

theorem Mean.use {k : List It} {s : St} (h : Mean C Ow m0 w0 N fn R k s) (hk : itsOK N k) : ∀ a w, Rel C Ow m0 w0 N s a w → ExK C Ow m0 w0 N fn R k .normal a w := by
  unfold Mean at h
  split at h
  · exact absurd (hk _ List.mem_cons_self) (by simp [itOK])
  · exact absurd (hk _ List.mem_cons_self) (by simp [itOK])
  · exact h hk
theorem itsOK.tail {i : It} {k : List It} (h : itsOK N (i :: k)) : itsOK N k := fun j hj => h j (List.mem_cons_of_mem _ hj)
theorem itsOK.cons {i : It} {k : List It} (h : itOK N i = true) (hk : itsOK N k) : itsOK N (i :: k) := fun j hj => by
  rcases List.mem_cons.1 hj with rfl | hj
  · exact h
  · exact hk j hj

theorem body_end (hX : Cx C Ow m0 w0) {Rr : RI → Prop} (hRr : ∀ e w, EndR C Ow m0 w0 Rr e w → R e w) {s : St} {b : Bool} {res : List RItem} {a : Act} {w : World} (h : retItems C s fn.results.toList = some (b, res)) (hb : b = true) (hr : Rr (.items res))
    (hR : Rel C Ow m0 w0 N s a w) : a.defers = [] ∧ ∃ v, (results fn a.tmps).run C.P w = .ok v w ∧ R (.returned v) w := by
  obtain ⟨v, m', h1, h2, h3, h4, h5, h6⟩ := retItems_ok hX h hb hR
  exact ⟨hR.defers, v, h1, hRr _ _ (.inl ⟨v, m', res, rfl, hr, h2, h3, h4, h5, h6⟩)⟩
theorem body_endX {Rr : RI → Prop} (hRr : ∀ e w, EndR C Ow m0 w0 Rr e w → R e w) {s : St} {x : TV} {a : Act} {w : World} (h : retX s fn.results.toList = some x) (hr : Rr (.st s x))
    (hR : Rel C Ow m0 w0 N s a w) : a.defers = [] ∧ ∃ v, (results fn a.tmps).run C.P w = .ok v w ∧ R (.returned v) w := by
  obtain ⟨m, γ, hp, ht⟩ := hR.mem
  obtain ⟨v, h1, h2⟩ := retX_ok (C := C) (w := w) h ht
  exact ⟨hR.defers, v, h1, hRr _ _ (.inr ⟨v, s, x, m, γ, rfl, hr, hp, h2⟩)⟩

theorem adoptS_some {s s' : St} {bid off id : Nat} {e : TypeId} {sz : Nat} (h : adoptS s bid off id e sz = some s') :
    ∃ cs, look s.objs bid = some (.box cs) ∧ cs[off]? = some (.full []) ∧ s.fresh id = true ∧ s' = ⟨s.tmps, put (put s.objs id (.row true e sz [])) bid (.box (cs.set off (.row id 0)))⟩ := by
  unfold adoptS at h
  split at h
  · rename_i cs h1
    split at h
    · rename_i h2
      cases hf : s.fresh id with
      | true => rw [hf] at h; cases h; exact ⟨cs, h1, h2, rfl, rfl⟩
      | false => rw [hf] at h; cases h
    · cases h
  · cases h
theorem Rel.adopt {s s' : St} {bid off id : Nat} {e : TypeId} {sz : Nat} {a : Act} {w : World} (h : adoptS s bid off id e sz = some s') (hR : Rel C Ow m0 w0 N s a w) : Rel C Ow m0 w0 N s' a w := by
  obtain ⟨cs, h1, h2, h3, rfl⟩ := adoptS_some h
  obtain ⟨m, γ, hp, ht⟩ := hR.mem
  have hfr := SFr.of h3
  have hf : Fresh s.g0 id := ⟨(fresh_O (by simp only [St.fresh, Bool.and_eq_true] at h3; exact h3.2)).1, (fresh_O (by simp only [St.fresh, Bool.and_eq_true] at h3; exact h3.2)).2⟩
  have hfT := fresh_T (show freshT id s.tmps = true by simp only [St.fresh, Bool.and_eq_true] at h3; exact h3.1)
  have hne : bid ≠ id := by
    intro e
    subst e
    have := hf.1
    rw [St.g0, h1] at this
    cases this
  obtain ⟨b, arr, e', k1, k2, k3, k4, k5, k6⟩ := hp.objs bid _ h1
  obtain ⟨u, j1, j2, j3⟩ := k6 off _ h2
  obtain ⟨⟨a', rfl⟩, _⟩ : (∃ a', u = .slice a' 0 0) ∧ _ := j3
  have n1 := hp.newObj (w' := w) (u := .slice a' 0 0) (o := .row true e sz []) hf (Fr.refl _ _) (fun _ _ => rfl) (by
    simp only [RepO, updA_same]
    exact .inr (.inl ⟨rfl, a', rfl⟩)) (fun b' _ he => absurd rfl (he.2.2 a' 0))
  have hbu : upd s.g0 id (.row true e sz []) bid = some (.box cs) := by rw [upd_ne hne]; exact h1
  have hid : updA (updA γ id (.slice a' 0 0)) bid (updA γ id (.slice a' 0 0) bid) = updA γ id (.slice a' 0 0) := by
    funext i
    by_cases hj : i = bid
    · subst hj; exact updA_same _ _ _
    · exact updA_ne hj
  have hcmp : Cmp (upd s.g0 id (.row true e sz [])) (updA γ id (.slice a' 0 0)) (upd (upd s.g0 id (.row true e sz [])) bid (.box (cs.set off (.row id 0)))) (updA γ id (.slice a' 0 0)) bid := by
    intro o' ho
    rw [upd_same] at ho
    cases ho
    refine ⟨.box cs, hbu, fun l' hl => ?_, fun _ => ⟨rfl, rfl⟩, fun hr => ?_⟩
    · cases hl
    · cases hr
  have hcm : ∀ j, Cmp (upd s.g0 id (.row true e sz [])) (updA γ id (.slice a' 0 0)) (upd (upd s.g0 id (.row true e sz [])) bid (.box (cs.set off (.row id 0)))) (updA γ id (.slice a' 0 0)) j := fun j => by
    by_cases hj : j = bid
    · subst hj; exact hcmp
    · exact Cmp.same (upd_ne hj) rfl
  have n2 := n1.hp.turn (w' := w) (u' := updA γ id (.slice a' 0 0) bid) (o' := .box (cs.set off (.row id 0))) hbu (fun _ _ _ => rfl) (Fr.refl _ _) (by
    rw [hid]
    refine ⟨b, arr, e', (updA_ne hne).trans k1, k2, k3, k4, by rw [List.length_set]; exact k5, fun j c hj => ?_⟩
    by_cases ho : off = j
    · subst ho
      rw [List.getElem?_set_self (by have := (List.getElem?_eq_some_iff.1 h2).1; exact this)] at hj
      cases hj
      refine ⟨_, j1, j2, ⟨⟨a', 0, rfl⟩, fun o l ho hl => ?_⟩⟩
      rw [upd_ne (Ne.symm hne), upd_same] at ho
      cases ho
      cases hl
      exact ⟨Nat.le_refl _, fun _ => (updA_same _ _ _).symm⟩
    · rw [List.getElem?_set_ne ho] at hj
      obtain ⟨u2, l1, l2, l3⟩ := k6 j _ hj
      exact ⟨u2, l1, l2, (n1.mv c u2 (fun i hi he => by simp at he; subst he; exact hf.2 bid _ h1 (TVs.mem_ment hj _ hi)) l3).move (MLe.refl _) fun i _ => hcm i⟩) (by rw [hid]; exact hcmp) (fun b hl he => .inr ⟨rfl, he⟩)
  rw [hid] at n2
  refine ⟨hR.size, hR.defers, m, updA γ id (.slice a' 0 0), ?_, fun t x hx => ?_⟩
  · have e1 : (St.g0 ⟨s.tmps, Sy.put (Sy.put s.objs id (.row true e sz [])) bid (.box (cs.set off (.row id 0)))⟩) = upd (upd s.g0 id (.row true e sz [])) bid (.box (cs.set off (.row id 0))) := by
      funext i
      show look (Sy.put (Sy.put s.objs id (.row true e sz [])) bid (.box (cs.set off (.row id 0)))) i = _
      rw [look_put, look_put]
      rfl
    rw [e1]
    exact n2.hp
  · obtain ⟨v, v1, v2⟩ := ht t x hx
    have e1 : (St.g0 ⟨s.tmps, Sy.put (Sy.put s.objs id (.row true e sz [])) bid (.box (cs.set off (.row id 0)))⟩) = upd (upd s.g0 id (.row true e sz [])) bid (.box (cs.set off (.row id 0))) := by
      funext i
      show look (Sy.put (Sy.put s.objs id (.row true e sz [])) bid (.box (cs.set off (.row id 0)))) i = _
      rw [look_put, look_put]
      rfl
    rw [e1]
    exact ⟨v, v1, n2.mv x v (by simp) (n1.mv x v (fun i hi he => by simp at he; subst he; exact hfT t x hx hi) v2)⟩

theorem Go.mean (hX : Cx C Ow m0 w0) (hmix : C.P.follows .mixedOrders = true) {Rr : RI → Prop} (hRr : ∀ e w, EndR C Ow m0 w0 Rr e w → R e w) {k : List It} {s : St} (h : Go C fn.results Rr k s) : Mean C Ow m0 w0 N fn R k s := by
  induction h with
  | fin h hb hn hr => exact fun _ a w hR => body_end hX hRr h hb hr hR
  | ret h hb hn hr => exact fun _ a w hR => wp_ret (ExK.ret (body_end hX hRr h hb hr hR) _)
  | finS hx h hr => exact fun _ a w hR => body_endX hRr h hr hR
  | retS hx h hr => exact fun _ a w hR => wp_ret (ExK.ret (body_endX hRr h hr hR) _)
  | adopt _ ha _ ih => exact fun hk a w hR => ih.use hk a w (hR.adopt ha)
  | skip _ ih => exact fun hk a w hR => wp_skip (ih.use hk.tail a w hR)
  | seq _ ih =>
    intro hk a w hR
    have h0 := hk _ List.mem_cons_self
    simp only [itOK, codeOK, Bool.and_eq_true] at h0
    have := ih.use (itsOK.cons h0.1 (itsOK.cons h0.2 hk.tail)) a w hR
    exact wp_seq (wp_mono this fun e a w h => h)
  | region _ ih => exact fun hk a w hR => region_ok hX hmix hk ih hR
  | opsNil hd _ ih =>
    rename_i d all s0 tr k s _
    refine ⟨[], s, rfl, fun h => by simpa using hd h, fun l hl => ?_, fun hk => ih.use hk⟩
    have : l = [] := by simpa using hl
    subst this
    exact .nil (.refl _)
  | opsOp hg _ ih =>
    rename_i d all o os s0 tr k s _
    obtain ⟨v, ws, f, h1, h2, L, s', h3, h4, h5, h6⟩ := ih
    refine ⟨(o, f) :: L, s', by simp [h3], fun hd => ?_, fun l hl => ?_, h6⟩
    · have := h4 hd
      subst hd
      simpa [trA] using this
    · cases l with
      | nil => simp at hl
      | cons e l =>
        simp only [List.map_cons, List.cons.injEq, Prod.mk.injEq] at hl
        obtain ⟨⟨rfl, rfl⟩, hl⟩ := hl
        exact .cons (.plain hg h1) h2 (h5 l hl)
  | opsGuard hg _ _ ih1 ih2 =>
    rename_i d all o os s0 tr k s t b w _ _
    have hlook := guardOf_look hg
    by_cases hbw : b = w
    · subst hbw
      obtain ⟨v, ws, f, h1, h2, L, s', h3, h4, h5, h6⟩ := ih1 rfl
      have heq := setT_eqv hlook
      refine ⟨(o, f) :: L, s', by simp [h3], fun hd => ?_, fun l hl => ?_, h6⟩
      · have := h4 hd
        subst hd
        simpa [trA] using this
      · cases l with
        | nil => simp at hl
        | cons e l =>
          simp only [List.map_cons, List.cons.injEq, Prod.mk.injEq] at hl
          obtain ⟨⟨rfl, rfl⟩, hl⟩ := hl
          exact .cons (.yes hg (h1.congr (all := all) (heq.symm.agr _ _))) (fun i hi => (h2 i hi).eqv heq.symm) ((h5 l hl).eqv (upS_eqv heq.symm))
    · have hbw : b = !w := by cases b <;> cases w <;> simp at hbw ⊢
      subst hbw
      obtain ⟨L, s', h3, h4, h5, h6⟩ := ih2 rfl
      have heq := setT_eqv hlook
      refine ⟨(o, noFoot) :: L, s', by simp [h3], fun hd => ?_, fun l hl => ?_, h6⟩
      · have := h4 hd
        subst hd
        simpa [trA] using this
      · cases l with
        | nil => simp at hl
        | cons e l =>
          simp only [List.map_cons, List.cons.injEq, Prod.mk.injEq] at hl
          obtain ⟨⟨rfl, hf⟩, hl⟩ := hl
          have hno : Ent C all s e.o udf [] noFoot false := .no hg
          rw [← hf] at hno
          refine .cons hno (by rw [hf]; simp [noFoot]) ((h5 l hl).eqv ?_)
          exact (upS_eqv (d := e.o.dst) (v := udf) (ws := []) heq.symm)
  | opsOff hg _ ih =>
    rename_i d all o os s0 tr k s _
    obtain ⟨L, s', h3, h4, h5, h6⟩ := ih
    refine ⟨(o, noFoot) :: L, s', by simp [h3], fun hd => ?_, fun l hl => ?_, h6⟩
    · have := h4 hd
      subst hd
      simpa [trA] using this
    · cases l with
      | nil => simp at hl
      | cons e l =>
        simp only [List.map_cons, List.cons.injEq, Prod.mk.injEq] at hl
        obtain ⟨⟨rfl, hf⟩, hl⟩ := hl
        have hno : Ent C all s e.o udf [] noFoot false := .off hg
        rw [← hf] at hno
        exact .cons hno (by rw [hf]; simp [noFoot]) (h5 l hl)
  | one hs _ ih =>
    rename_i d all o os s0 tr k s s1 f _
    obtain ⟨v, ws, h1, h2, rfl⟩ := hs.act
    obtain ⟨L, s', h3, h4, h5, h6⟩ := ih
    exact ⟨v, ws, f, h1, h2, L, s', h3, h4, h5, h6⟩
  | cond hc _ _ ih1 ih2 =>
    rename_i c x y k s t _ _
    intro hk a w hR
    have h0 := hk _ List.mem_cons_self
    simp only [itOK, codeOK, Bool.and_eq_true] at h0
    obtain ⟨m, γ, hp, ht⟩ := hR.mem
    have hev : a.eval c = .bool t := by
      unfold boolOf at hc
      split at hc
      · rename_i hx; cases hc; exact ev_ok hX hp ht c _ hx
      · cases hc
    exact wp_cond_split hev (fun h => (ih1 h).use (itsOK.cons h0.1 hk.tail) a w hR) (fun h => (ih2 h).use (itsOK.cons h0.2 hk.tail) a w hR)
  | block _ ih =>
    intro hk a w hR
    have h0 := hk _ List.mem_cons_self
    simp only [itOK, codeOK] at h0
    have := ih.use (itsOK.cons h0 (itsOK.cons rfl hk.tail)) a w hR
    exact wp_block (wp_mono this fun e a w h => h)
  | blk _ ih => exact fun hk a w hR => ih.use hk.tail a w hR
  | exit hp _ ih => exact fun hk a w hR => wp_exit (ExK.exit hp (ih.use (fun i hi => hk.tail i (popTo_sub hp i hi)) a w hR))
  | loop n st I h0 hI _ ih =>
    intro hk a w hR
    have hc := hk _ List.mem_cons_self
    simp only [itOK, codeOK] at hc
    refine wp_loop_idx n (fun j a w => I j ∧ Rel C Ow m0 w0 N (st j) a w) ⟨hI, hR.le h0⟩ fun j hj a w hRj => ?_
    have := (ih j hj hRj.1).use (itsOK.cons hc (itsOK.cons rfl hk.tail)) a w hRj.2
    exact wp_mono this fun e a w h => h
  | back hj hI hle => exact fun _ a w hR => ⟨hj, hI, hR.le hle⟩
end

theorem initT_look : ∀ {args : List AV} {i t : Nat} {x : TV}, look (initT i args) t = some x → ∃ j y, args[j]? = some y ∧ x = .av y ∧ t = i + j
  | [], i, t, x, h => by simp [initT, look] at h
  | y :: args, i, t, x, h => by
    simp only [initT, look] at h
    cases hi : i == t with
    | true =>
      rw [hi] at h
      simp only [cond_true, Option.some.injEq] at h
      have : i = t := by simpa using hi
      exact ⟨0, y, by simp, h.symm, by omega⟩
    | false =>
      rw [hi] at h
      simp only [cond_false] at h
      obtain ⟨j, z, h1, h2, h3⟩ := initT_look h
      exact ⟨j + 1, z, by simpa using h1, h2, by omega⟩
theorem RepA.get {κ : Nat → Addr} {m : Mem} : ∀ {xs : List AV} {us : List Value}, RepA κ m xs us → ∀ {j : Nat} {x : AV}, xs[j]? = some x → ∃ u, us[j]? = some u ∧ RepV κ m x u
  | [], us, h, j, x, hx => by simp at hx
  | y :: xs, us, h, j, x, hx => by
    obtain ⟨u, us', rfl, h1, h2⟩ := h
    cases j with
    | zero => simp at hx; subst hx; exact ⟨u, by simp, h1⟩
    | succ j => simp at hx; simpa using RepA.get h2 hx

/-- THE CONTRACT, out of a derivation. -/
theorem Sound.of_go {C : Ctx} {f : FuncId} {fn : Func} {c : Code} {args : List AV} {res : List RItem} (hT : ∀ t i, C.T t = some i → tyOf C.P t = some i) (hmix : C.P.follows .mixedOrders = true) (hf : C.P.funcs[f]? = some fn) (hb : fn.body = some c)
    (hn : fn.name ≠ "runtime.NumGoroutine") (hc : codeOK fn.ntmps c = true) (h : Go C fn.results (· = .items res) [.code c] (St.init args)) (hSX : ∀ f args pre res post, C.M.SX f args pre res post → SoundX C f args pre res post := by exact fun _ _ _ _ _ h => h.elim) : Sound C f args res := by
  refine ⟨by unfold Sy.callee; simp [hf, hb, hn], fun m w vs hcons hglob hW hA => ?_⟩
  refine calls_of_wp hf hb ?_
  have hX : Cx C (w.heap.size ≤ ·) m w := ⟨hT, hglob, hW, fun b hlt => by have := hW.size; omega, hSX⟩
  have hM := Go.mean (N := fn.ntmps) (R := Post C m w res) hX hmix (fun e w' he => by
    rcases he with ⟨v, m', res', rfl, hres, h2, h3, h4, h5, h6⟩ | ⟨v, s, x, m, γ, rfl, hres, _⟩
    case inr => cases hres
    cases hres
    exact ⟨⟨v, m', rfl, h2, fun b hlt => h3 b (by omega), h4, ⟨h5.os, h5.tape, h5.output, h5.size, fun b hlt => h5.block b (by omega)⟩, h6⟩⟩) h
  have := hM.use (itsOK.cons hc (fun i hi => by simp at hi)) { tmps := vs.toArray ++ Array.replicate (fn.ntmps - vs.toArray.size) undef, defers := [] } w ?_
  · exact wp_mono this fun e a w h => h
  · refine ⟨by simp; omega, rfl, m, fun _ => undef, ⟨MLe.refl m, fun _ _ => rfl, hcons, Fr.refl _ _, fun b hb => hb, fun i o ho => ?_, fun i j oi oj b hi => ?_⟩, fun t x hx => ?_⟩
    · simp [St.init, St.g0, look] at ho
    · simp [St.init, St.g0, look] at hi
    · obtain ⟨j, y, h1, rfl, h3⟩ := initT_look hx
      obtain ⟨u, h4, h5⟩ := hA.get h1
      have ht : t = j := by omega
      subst ht
      refine ⟨u, ?_, h5⟩
      have hlt : t < vs.length := (List.getElem?_eq_some_iff.1 h4).1
      rw [Array.getElem?_append_left (by simpa using hlt)]
      simpa using h4

/-- A row that is handed back, told as a value. -/
theorem Sound.frz {C : Ctx} {f : FuncId} {args : List AV} {ex : Bool} {e : TypeId} {sz : Nat} {xs : List AV} (h : Sound C f args [.own ex e sz xs]) : Sound C f args [.av (.sl xs)] := by
  refine ⟨h.callee, fun m w vs h1 h2 h3 hA => (h.run m w vs h1 h2 h3 hA).mono fun e' w' hp => ?_⟩
  obtain ⟨v, m', rfl, q1, q2, q3, q4, q5⟩ := hp.out
  have hO : OwnRow C.κ m' w' (w.heap.size ≤ ·) ex e sz xs v := q5
  rcases hO with ⟨us, b, cap, k1, k2, ⟨k3, k4⟩, k5, k6, k7⟩ | ⟨rfl, a, rfl⟩ | ⟨k1, k4, k5, b, o, k2, k3⟩
  · rcases k4 with ⟨k8, _⟩ | ⟨b2, cap2, cur, k8, _, k9, k10, k11, k12, k13⟩
    · rw [k1] at k8; cases k8
    · rw [k1] at k8; cases k8
      have hle := addRow_le (us := us) k7
      refine ⟨⟨v, addRow m' b us, rfl, q1.trans hle, fun b' hb' => ?_, ?_, q4, ?_⟩⟩
      · have : b' ≠ b := by omega
        funext o
        simp [addRow, this, q2 b' hb']
      · intro b' o u hu
        by_cases hb : b' = b
        · subst hb
          simp [addRow] at hu
          rw [← k13, List.getElem?_take] at hu
          split at hu
          · simp [World.cell?, k9]; simpa using hu
          · cases hu
        · simp only [addRow, hb, if_false] at hu; exact q3 _ _ _ hu
      · show RepV C.κ _ (.sl xs) v
        simp only [RepV]
        refine ⟨some ⟨b, 0, none⟩, cap, k1, k10, sz, b, 0, .inr rfl, ?_⟩
        refine (k5.mono hle).toE fun j u hu => ?_
        simpa [addRow] using hu
  · refine ⟨⟨_, m', rfl, q1, q2, q3, q4, ?_⟩⟩
    show RepV C.κ _ (.sl []) _
    simp only [RepV]
    exact ⟨a, 0, rfl, by simp, 0, 0, 0, .inl trivial, by simp [RepE]⟩
  · refine ⟨⟨_, m', rfl, q1, q2, q3, q4, ?_⟩⟩
    show RepV C.κ _ (.sl xs) _
    simp only [RepV]
    exact ⟨some ⟨b, o, none⟩, _, k2, Nat.le_refl _, sz, b, o, .inr rfl, k3⟩
end Go.Sy

/- The contract of a function that is told of the caller's own, out of a derivation. -/
set_option linter.unusedVariables false
namespace Go.Sy
open Go.RowKit

def ghK : Nat := 1000000
/-- What is remembered of an object while the function runs. -/
def ghO (U : Nat → Value) (i : Nat) : SObj → SObj
  | .row _ _ _ xs => .gh (.row i xs.length) (U i)
  | .box _ => .gh (.box i 0) (U i)
  | _ => .gh .dead (U i)
def ghosts (U : Nat → Value) : List (Nat × SObj) → List (Nat × SObj)
  | [] => []
  | (i, o) :: r => (ghK + i, ghO U i o) :: ghosts U r
def initV : Nat → List TV → List (Nat × TV)
  | _, [] => []
  | i, x :: r => (i, x) :: initV (i + 1) r
def belowB (n : Nat) : List Nat → Bool
  | [] => true
  | x :: r => decide (x < n) && belowB n r
def kindB (post : List (Nat × SObj)) : List (Nat × SObj) → Bool
  | [] => true
  | (i, o) :: r => (match o, look post i with
    | .row _ _ _ _, some (.row _ _ _ _) => true
    | .box _, some (.box _) => true
    | _, _ => false) && kindB post r
def ghOK (args : List TV) (pre post : List (Nat × SObj)) : Bool :=
  nodB (fsts pre) && belowB ghK (fsts pre) && belowB ghK (mentW pre) && belowB ghK (TVs.ment args) && kindB post pre

theorem belowB_mem {n : Nat} : ∀ {l : List Nat}, belowB n l = true → ∀ i ∈ l, i < n
  | [], _, i, hi => by simp at hi
  | x :: l, h, i, hi => by
    simp only [belowB, Bool.and_eq_true, decide_eq_true_eq] at h
    rcases List.mem_cons.1 hi with rfl | hi
    · exact h.1
    · exact belowB_mem h.2 i hi
theorem ghosts_in {U : Nat → Value} : ∀ {l : List (Nat × SObj)} {i : Nat} {o : SObj}, (i, o) ∈ l → (ghK + i, ghO U i o) ∈ ghosts U l
  | [], i, o, h => by simp at h
  | (a, b) :: l, i, o, h => by
    rcases List.mem_cons.1 h with h | h
    · cases h; simp [ghosts]
    · simp [ghosts, ghosts_in h]
theorem ghosts_out {U : Nat → Value} : ∀ {l : List (Nat × SObj)} {j : Nat} {x : SObj}, (j, x) ∈ ghosts U l → ∃ i o, (i, o) ∈ l ∧ j = ghK + i ∧ x = ghO U i o
  | [], j, x, h => by simp [ghosts] at h
  | (a, b) :: l, j, x, h => by
    simp only [ghosts, List.mem_cons] at h
    rcases h with h | h
    · cases h; exact ⟨a, b, by simp, rfl, rfl⟩
    · obtain ⟨i, o, h1, h2⟩ := ghosts_out h
      exact ⟨i, o, List.mem_cons_of_mem _ h1, h2⟩
theorem kindB_in {post : List (Nat × SObj)} : ∀ {l : List (Nat × SObj)}, kindB post l = true → ∀ {i : Nat} {o : SObj}, (i, o) ∈ l → (∃ ex e sz xs ex' e' sz' xs', o = .row ex e sz xs ∧ look post i = some (.row ex' e' sz' xs')) ∨ ∃ cs cs', o = .box cs ∧ look post i = some (.box cs')
  | [], _, i, o, h => by simp at h
  | (a, b) :: l, hk, i, o, h => by
    simp only [kindB, Bool.and_eq_true] at hk
    rcases List.mem_cons.1 h with h | h
    · cases h
      have h1 := hk.1
      split at h1
      · rename_i hl; exact .inl ⟨_, _, _, _, _, _, _, _, rfl, hl⟩
      · rename_i hl; exact .inr ⟨_, _, rfl, hl⟩
      · cases h1
    · exact kindB_in hk.2 h
theorem look_app {α : Type} : ∀ (a b : List (Nat × α)) (t : Nat), look (a ++ b) t = (look a t).or (look b t)
  | [], b, t => rfl
  | (k, x) :: a, b, t => by
    simp only [List.cons_append, look]
    cases hk : k == t with
    | true => simp
    | false => simp [look_app a b t]
theorem mentW_in {l : List (Nat × SObj)} {i id : Nat} {o : SObj} (h : (i, o) ∈ l) (hid : id ∈ o.ment) : id ∈ mentW l := by
  induction l with
  | nil => simp at h
  | cons p l ih =>
    simp only [mentW, List.mem_append]
    rcases List.mem_cons.1 h with h | h
    · rw [← h]; exact .inl hid
    · exact .inr (ih h)
theorem initV_look : ∀ {args : List TV} {i t : Nat} {x : TV}, look (initV i args) t = some x → ∃ j, args[j]? = some x ∧ t = i + j
  | [], i, t, x, h => by simp [initV, look] at h
  | y :: args, i, t, x, h => by
    simp only [initV, look] at h
    cases hi : i == t with
    | true =>
      rw [hi] at h
      cases h
      exact ⟨0, rfl, by simpa using (beq_iff_eq.1 hi).symm⟩
    | false =>
      rw [hi] at h
      obtain ⟨j, h1, h2⟩ := initV_look (i := i + 1) h
      exact ⟨j + 1, by simpa using h1, by omega⟩
theorem TVs.ment_in : ∀ {cs : List TV} {j : Nat} {c : TV}, cs[j]? = some c → ∀ id ∈ c.ment, id ∈ TVs.ment cs := fun h id hid => TVs.mem_ment h id hid

/-- THE CONTRACT, out of a derivation. -/
theorem SoundX.of_go {C : Ctx} {f : FuncId} {fn : Func} {c : Code} {args : List TV} {pre post : List (Nat × SObj)} {res : TV} (hT : ∀ t i, C.T t = some i → tyOf C.P t = some i) (hmix : C.P.follows .mixedOrders = true) (hf : C.P.funcs[f]? = some fn) (hb : fn.body = some c)
    (hn : fn.name ≠ "runtime.NumGoroutine") (hc : codeOK fn.ntmps c = true) (hg : ghOK args pre post = true)
    (h : ∀ U : Nat → Value, Go C fn.results (fun r => ∃ s, r = .st s res ∧ onO s.g0 post ∧ onO s.g0 (ghosts U pre)) [.code c] ⟨initV 0 args, pre ++ ghosts U pre⟩)
    (hSX : ∀ f args pre res post, C.M.SX f args pre res post → SoundX C f args pre res post := by exact fun _ _ _ _ _ h => h.elim) : SoundX C f args pre res post := by
  refine ⟨by unfold Sy.callee; simp [hf, hb, hn], fun m w γ vs hglob hW hlow hA hTs => ?_⟩
  simp only [ghOK, Bool.and_eq_true] at hg
  obtain ⟨⟨⟨⟨hg1, hg2⟩, hg3⟩, hg4⟩, hg5⟩ := hg
  have nd := nodB_nodup hg1
  have hlt := belowB_mem hg2
  refine calls_of_wp hf hb ?_
  have hX : Cx C (OwF (look pre) m γ w) m w := ⟨hT, hglob, hW, hlow, hSX⟩
  have hsame : ∀ id, id < ghK → look (pre ++ ghosts γ pre) id = look pre id := by
    intro id hid
    rw [look_app]
    cases hp : look pre id with
    | some o => rfl
    | none =>
      cases hgh : look (ghosts γ pre) id with
      | none => rfl
      | some x =>
        obtain ⟨i, o, _, h2, _⟩ := ghosts_out (look_in hgh)
        omega
  have hcmp : ∀ id, id < ghK → Cmp (look pre) γ (look (pre ++ ghosts γ pre)) γ id := fun id hid => Cmp.same (hsame id hid) rfl
  have hpre : ∀ i o, look (pre ++ ghosts γ pre) i = some o → look pre i = some o ∨ ∃ j oj, (j, oj) ∈ pre ∧ i = ghK + j ∧ o = ghO γ j oj := by
    intro i o ho
    rw [look_app] at ho
    cases hp : look pre i with
    | some o' => rw [hp] at ho; exact .inl ho
    | none =>
      rw [hp] at ho
      exact .inr (ghosts_out (look_in ho))
  have hnl : ∀ j oj, live (ghO γ j oj) = false := fun j oj => by cases oj <;> rfl
  have hH : Hp C.κ (OwF (look pre) m γ w) m w (look (pre ++ ghosts γ pre)) m γ w := by
    refine ⟨hA.ext, hA.old, hA.cons, hA.fr, hA.new, fun i o ho => ?_, fun i j oi oj b hi hj li lj bi bj => ?_⟩
    · rcases hpre i o ho with h1 | ⟨j, oj, h1, rfl, rfl⟩
      · exact RepO.move (MLe.refl m) rfl (fun id hid => hcmp id (belowB_mem hg3 id (mentW_in (look_in h1) hid))) (fun b _ hb => ⟨rfl, hb.2.1⟩) (hA.objs i o h1)
      · have hl := look_of_in nd h1
        have hj := hlt j (fsts_in h1)
        have hO := hA.objs j oj hl
        cases oj with
        | row ex e sz xs =>
          refine ⟨OwnRow.shape (m := m) hO, fun o l ho hl' => ?_⟩
          rw [hsame j hj, hl] at ho
          cases ho
          cases hl'
          exact ⟨Nat.le_refl _, fun _ => rfl⟩
        | box cs =>
          obtain ⟨b, arr, e, k1, _⟩ := hO
          exact ⟨⟨_, k1⟩, fun o ho hb => ⟨b, k1, k1⟩⟩
        | fbox cs => trivial
        | frow xs => trivial
        | gh x u => trivial
    · have hi' : look pre i = some oi := by
        rcases hpre i oi hi with h1 | ⟨j, oj, _, _, rfl⟩
        · exact h1
        · rw [hnl] at li; cases li
      have hj' : look pre j = some oj := by
        rcases hpre j oj hj with h1 | ⟨k, ok, _, _, rfl⟩
        · exact h1
        · rw [hnl] at lj; cases lj
      exact hA.inj i j oi oj b hi' hj' li lj bi bj
  have hM := Go.mean (N := fn.ntmps) (R := fun e w' => ∃ v m' γ', e = .returned v ∧ Hp C.κ (OwF (look pre) m γ w) m w (look post) m' γ' w' ∧ RepT C.κ m' γ' (look post) res v ∧ ∀ id, (look pre id).isSome = true → Cmp (look pre) γ (look post) γ' id) hX hmix (fun e w' he => by
    rcases he with ⟨v, m', res', rfl, ⟨s, hres, _⟩, _⟩ | ⟨v, s, x, m', γ', rfl, ⟨s', hres, ho1, ho2⟩, hp, hx⟩
    · cases hres
    cases hres
    have hs : ∀ i o, look post i = some o → s.g0 i = some o := fun i o ho => onO_in ho1 (look_in ho)
    have hc : ∀ id, Cmp s.g0 γ' (look post) γ' id := fun id o' ho => ⟨o', hs id o' ho, fun l' hl => ⟨l', hl, Nat.le_refl _, fun _ => rfl⟩, fun hb => ⟨hb, rfl⟩, fun h => h⟩
    refine ⟨v, m', γ', rfl, hp.sub hs, hx.move (MLe.refl _) fun id _ => hc id, fun id hid => ?_⟩
    obtain ⟨o, ho⟩ := Option.isSome_iff_exists.1 hid
    have hin := look_in ho
    have hgo := hp.objs _ _ (onO_in ho2 (ghosts_in (U := γ) hin))
    rcases kindB_in hg5 hin with ⟨ex, e, sz, xs, ex', e', sz', xs', rfl, hpo⟩ | ⟨cs, cs', rfl, hpo⟩
    · intro o' ho'
      rw [hpo] at ho'
      cases ho'
      have hw : RepW γ' s.g0 id xs.length (γ id) := hgo
      obtain ⟨h1, h2⟩ := hw.2 _ _ (hs _ _ hpo) rfl
      refine ⟨_, ho, fun l' hl => ?_, fun hb => (by cases hb), fun _ => rfl⟩
      cases hl
      exact ⟨_, rfl, h1, fun e => (h2 e).symm⟩
    · intro o' ho'
      rw [hpo] at ho'
      cases ho'
      have hw : RepB γ' s.g0 id 0 (γ id) := hgo
      obtain ⟨b, h1, h2⟩ := hw.2 _ (hs _ _ hpo) rfl
      exact ⟨_, ho, fun l' hl => (by cases hl), fun _ => ⟨rfl, h1.trans h2.symm⟩, fun hr => (by cases hr)⟩) (h γ)
  have := hM.use (itsOK.cons hc (fun i hi => by simp at hi)) { tmps := vs.toArray ++ Array.replicate (fn.ntmps - vs.toArray.size) undef, defers := [] } w ?_
  · exact wp_mono this fun e a w h => h
  · refine ⟨by simp; omega, rfl, m, γ, hH, fun t x hx => ?_⟩
    obtain ⟨j, h1, h3⟩ := initV_look hx
    obtain ⟨u, h4, h5⟩ := hTs.get h1
    have ht : t = j := by omega
    subst ht
    refine ⟨u, ?_, h5.move (MLe.refl m) fun id hid => hcmp id (belowB_mem hg4 id (TVs.ment_in h1 id hid))⟩
    have hlt : t < vs.length := (List.getElem?_eq_some_iff.1 h4).1
    rw [Array.getElem?_append_left (by simpa using hlt)]
    simpa using h4
end Go.Sy
