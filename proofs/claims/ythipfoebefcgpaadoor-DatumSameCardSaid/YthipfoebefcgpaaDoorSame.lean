/- PROVED: the tied card of the law DatumSame: for every input the call returns true, and each argument reads behind it as before. Conditions: the two tables of unicode/utf8 hold what the program's text lays; nothing else is asked. -/
import Derived.Test.YthipfoebefcgpaaDoorKb
import Derived.Test.YthipfoebefcgpaaDoorRows
import Derived.Test.YthipfoebefcgpaaDoorTie
import Derived.Lib.LaidIn
import Derived.Lib.LaidU8T
import Derived.LaidLaws
import Derived.LaidMore
import Derived.ProofKit
import Derived.SizedLaws
import Derived.Handed
import Derived.OpenShut
import Derived.Stop.Joined
import Derived.Carry
import Derived.Test.YthipfoebefcgpaaDoorCards
import Derived.SevenTiedAt
set_option linter.unusedVariables false
set_option linter.unusedSimpArgs false
/- Contracts of the program's functions over abstract values. By gen.py. -/
set_option linter.unusedVariables false
set_option linter.unusedSimpArgs false
set_option maxRecDepth 100000
set_option maxHeartbeats 4000000
namespace Go.Sy
open Go.Proofs
attribute [local go_sem] runO_t runO_f band_t band_f bor_t bor_f bnot_t bnot_f gdK_tt gdK_ff gdK_tf gdK_ft brK_t brK_f runE_some runF_some runA_some runG_some runB_some runX_some runR_some run_nil run_skip run_seq run_region run_block run_blk run_exit run_cond run_ret run_loop run_lp run_opsNil run_opsOrd run_opsOp run_opsGuard run_cl run_gd run_br run_fin run_callf run_move run_nilCheck run_assign run_pick run_alloc run_box run_build run_buildSlice run_load run_store run_binOp run_unOp run_convert run_slice run_fieldAddr run_indexAddr run_index run_field run_extract run_makeInterface run_makeFunc run_len run_max run_min run_append St.ev St.evl St.evs St.evo capsOf callOf look drop put putAll toTV_nil toTV_int toTV_bool toTV_str toTV_ptr toTV_ifc toTV_fn toAV_nil toAV_int toAV_bool toAV_str toAV_ptr toAV_ifc toAV_fn aAssign_nil aAssign_tmp aAssign_int aAssign_bool aAssign_str aAssign_ptr aAssign_nilf aAssign_ifc aAssign_func aAssign_glob nilConst_slice nilConst_ptr nilConst_ifc nilConst_tmp plain Option.bind TV.cells TV.one AVone_v AVone_sl AVone_agg AVone_ref AVone_fn AVone_ifc AVone_sent Value.oneCell' oneVs avOf avsOf expo expos asList List.map St.app setD St.setT ownD trA effFoot callFoot callSt callReq St.fresh freshT freshO allFresh TV.ment TVs.ment SObj.ment fsts mentW noFoot List.contains List.elem aPick aAlloc aBox aBuild aBuildSlice nonNil allSz aUn aConv aField aIndex aByte aPart aExtract aIface aFunc aLen ty1 aMax aApp aAppend aCheck emptyL aSlice okHd hdOK_nil hdOK_cons aLoad aStore aBin aNil sBin sInt isSh sameSh nilness fills fillAt fillTV putCells intOf? mkInt AVcells_v AVcells_sl AVcells_agg AVcells_ref AVcells_fn AVcells_ifc AVcells_sent St.g0 St.g guardOf guardOff udf argsOf lends lendBox bindRes bindR bindRs flatR flatV boolOf retItems retItems0 retItem rowsOf disjB ownIds resIds nodupB St.init initT popTo cond_true cond_false Option.getD Option.map List.take List.drop List.length List.zip List.zipWith List.range List.range.loop List.append List.foldr List.nil_append List.cons_append List.append_nil List.getElem?_cons_zero List.getElem?_cons_succ GetElem?.getElem? List.get?Internal Int.toNat_natCast cst0 cst1 cst2 cst3 cst4 cst5 cst6 cst7 cst8 cst9 cst10 cst11 toNat0 toNat1 toNat2 toNat3 getD0 getD1 getD2 getD3 run_zero memN keepT dropO St.re leT leO D_q2  D_q3  D_q4  D_q5  D_q9  D_q12  D_q21  D_q22  D_q24  D_q25  D_q27  D_q28  D_q32  D_q46  D_q48  D_q50  D_q52  D_q53  D_q54  D_q56  D_q57  D_q61  D_q70  D_q72  D_q76  D_q77  D_q79  D_q80  D_q83  D_q85  D_q91  D_q93  D_q104  D_q108  D_q115  D_q118  D_q121  D_q134  D_q136  D_q137
section
variable {W0 : World} {κ : Nat → Addr} {GG : Nat → Option AV}

theorem sameD_comm (a b : Dat) : sameD b a = sameD a b := by
  by_cases h : a = b
  · subst h; rfl
  · have h1 : sameD a b = false := Bool.eq_false_iff.2 fun e => h (sameD_iff.1 e)
    have h2 : sameD b a = false := Bool.eq_false_iff.2 fun e => h (sameD_iff.1 e).symm
    rw [h1, h2]
abbrev heavyD (d : Dat) : Prop := weighD 3000 3000 true d 3000 < 0
theorem D_law_same (hU : D_Tabs W0) (a b : Dat) : Sound (CD W0 κ GG) 4 [encD a, encD b] [.av (.v (.bool true))] := by
  have ha := D_heavy3 (W0 := W0) (κ := κ) (GG := GG) a
  have hb := D_heavy3 (W0 := W0) (κ := κ) (GG := GG) b
  have hw := D_awake (W0 := W0) (κ := κ) (GG := GG) hU
  by_cases h1 : heavyD a
  · have e1 : decide (heavyD a) = true := by simpa using h1
    simp only [e1] at ha
    obtain ⟨k, c, neg, mag, t, l⟩ := a
    obtain ⟨k', c', neg', mag', t', l'⟩ := b
    simp only [encD] at ha hb
    (refine Sound.of_go D_ok D_mix Tryd.func4 rfl (by decide) (by kernel_rfl) (GC.go ?_); refine GC_run2 4000 ?_; dsimp only [Tryd.f4, CD, go_sem, Nat.reduceBEq, Nat.reduceAdd, Nat.reduceMul, Nat.reduceSub, Int.reduceBEq, Int.reduceBNe, Int.reduceAdd, Int.reduceSub, Int.reduceMul, Int.reduceToNat, Int.reduceNeg, encD])
    (refine GC.call (by first | rfl | (simp; done) | (simp [hdOK_encU, hdOK_encL, allSz_encU, allSz_encL, encU_length, encL_length, encD_one, encD_cells, AVone_v, AVone_sl, AVone_agg, AVone_ref, AVone_fn, AVone_ifc, AVcells_v, AVcells_sl, AVcells_agg, AVcells_ref, AVcells_fn, AVcells_ifc, Value.oneCell', allSz]; done) | (simp [hdOK_encU, hdOK_encL, allSz_encU, allSz_encL, encU_length, encL_length, encD_one, encD_cells, AVone_v, AVone_sl, AVone_agg, AVone_ref, AVone_fn, AVone_ifc, AVcells_v, AVcells_sl, AVcells_agg, AVcells_ref, AVcells_fn, AVcells_ifc, Value.oneCell', allSz]; omega)) (ha) ?_; refine GC_run2 4000 ?_; dsimp only [go_sem, Nat.reduceBEq, Nat.reduceAdd, Nat.reduceMul, Nat.reduceSub, Int.reduceBEq, Int.reduceBNe, Int.reduceAdd, Int.reduceSub, Int.reduceMul, Int.reduceToNat, Int.reduceNeg])
    (refine GC.call (by first | rfl | (simp; done) | (simp [hdOK_encU, hdOK_encL, allSz_encU, allSz_encL, encU_length, encL_length, encD_one, encD_cells, AVone_v, AVone_sl, AVone_agg, AVone_ref, AVone_fn, AVone_ifc, AVcells_v, AVcells_sl, AVcells_agg, AVcells_ref, AVcells_fn, AVcells_ifc, Value.oneCell', allSz]; done) | (simp [hdOK_encU, hdOK_encL, allSz_encU, allSz_encL, encU_length, encL_length, encD_one, encD_cells, AVone_v, AVone_sl, AVone_agg, AVone_ref, AVone_fn, AVone_ifc, AVcells_v, AVcells_sl, AVcells_agg, AVcells_ref, AVcells_fn, AVcells_ifc, Value.oneCell', allSz]; omega)) (hw) ?_; refine GC_run2 4000 ?_; dsimp only [go_sem, Nat.reduceBEq, Nat.reduceAdd, Nat.reduceMul, Nat.reduceSub, Int.reduceBEq, Int.reduceBNe, Int.reduceAdd, Int.reduceSub, Int.reduceMul, Int.reduceToNat, Int.reduceNeg])
    refine GC.fin (by first | rfl | (simp; done) | (simp [hdOK_encU, hdOK_encL, allSz_encU, allSz_encL, encU_length, encL_length, encD_one, encD_cells, AVone_v, AVone_sl, AVone_agg, AVone_ref, AVone_fn, AVone_ifc, AVcells_v, AVcells_sl, AVcells_agg, AVcells_ref, AVcells_fn, AVcells_ifc, Value.oneCell', allSz]; done) | (simp [hdOK_encU, hdOK_encL, allSz_encU, allSz_encL, encU_length, encL_length, encD_one, encD_cells, AVone_v, AVone_sl, AVone_agg, AVone_ref, AVone_fn, AVone_ifc, AVcells_v, AVcells_sl, AVcells_agg, AVcells_ref, AVcells_fn, AVcells_ifc, Value.oneCell', allSz]; omega)) ?_
    rfl
  have e1 : decide (heavyD a) = false := by simpa using h1
  simp only [e1] at ha
  by_cases h2 : heavyD b
  · have e2 : decide (heavyD b) = true := by simpa using h2
    simp only [e2] at hb
    obtain ⟨k, c, neg, mag, t, l⟩ := a
    obtain ⟨k', c', neg', mag', t', l'⟩ := b
    simp only [encD] at ha hb
    (refine Sound.of_go D_ok D_mix Tryd.func4 rfl (by decide) (by kernel_rfl) (GC.go ?_); refine GC_run2 4000 ?_; dsimp only [Tryd.f4, CD, go_sem, Nat.reduceBEq, Nat.reduceAdd, Nat.reduceMul, Nat.reduceSub, Int.reduceBEq, Int.reduceBNe, Int.reduceAdd, Int.reduceSub, Int.reduceMul, Int.reduceToNat, Int.reduceNeg, encD])
    (refine GC.call (by first | rfl | (simp; done) | (simp [hdOK_encU, hdOK_encL, allSz_encU, allSz_encL, encU_length, encL_length, encD_one, encD_cells, AVone_v, AVone_sl, AVone_agg, AVone_ref, AVone_fn, AVone_ifc, AVcells_v, AVcells_sl, AVcells_agg, AVcells_ref, AVcells_fn, AVcells_ifc, Value.oneCell', allSz]; done) | (simp [hdOK_encU, hdOK_encL, allSz_encU, allSz_encL, encU_length, encL_length, encD_one, encD_cells, AVone_v, AVone_sl, AVone_agg, AVone_ref, AVone_fn, AVone_ifc, AVcells_v, AVcells_sl, AVcells_agg, AVcells_ref, AVcells_fn, AVcells_ifc, Value.oneCell', allSz]; omega)) (ha) ?_; refine GC_run2 4000 ?_; dsimp only [go_sem, Nat.reduceBEq, Nat.reduceAdd, Nat.reduceMul, Nat.reduceSub, Int.reduceBEq, Int.reduceBNe, Int.reduceAdd, Int.reduceSub, Int.reduceMul, Int.reduceToNat, Int.reduceNeg])
    (refine GC.call (by first | rfl | (simp; done) | (simp [hdOK_encU, hdOK_encL, allSz_encU, allSz_encL, encU_length, encL_length, encD_one, encD_cells, AVone_v, AVone_sl, AVone_agg, AVone_ref, AVone_fn, AVone_ifc, AVcells_v, AVcells_sl, AVcells_agg, AVcells_ref, AVcells_fn, AVcells_ifc, Value.oneCell', allSz]; done) | (simp [hdOK_encU, hdOK_encL, allSz_encU, allSz_encL, encU_length, encL_length, encD_one, encD_cells, AVone_v, AVone_sl, AVone_agg, AVone_ref, AVone_fn, AVone_ifc, AVcells_v, AVcells_sl, AVcells_agg, AVcells_ref, AVcells_fn, AVcells_ifc, Value.oneCell', allSz]; omega)) (hb) ?_; refine GC_run2 4000 ?_; dsimp only [go_sem, Nat.reduceBEq, Nat.reduceAdd, Nat.reduceMul, Nat.reduceSub, Int.reduceBEq, Int.reduceBNe, Int.reduceAdd, Int.reduceSub, Int.reduceMul, Int.reduceToNat, Int.reduceNeg])
    (refine GC.call (by first | rfl | (simp; done) | (simp [hdOK_encU, hdOK_encL, allSz_encU, allSz_encL, encU_length, encL_length, encD_one, encD_cells, AVone_v, AVone_sl, AVone_agg, AVone_ref, AVone_fn, AVone_ifc, AVcells_v, AVcells_sl, AVcells_agg, AVcells_ref, AVcells_fn, AVcells_ifc, Value.oneCell', allSz]; done) | (simp [hdOK_encU, hdOK_encL, allSz_encU, allSz_encL, encU_length, encL_length, encD_one, encD_cells, AVone_v, AVone_sl, AVone_agg, AVone_ref, AVone_fn, AVone_ifc, AVcells_v, AVcells_sl, AVcells_agg, AVcells_ref, AVcells_fn, AVcells_ifc, Value.oneCell', allSz]; omega)) (hw) ?_; refine GC_run2 4000 ?_; dsimp only [go_sem, Nat.reduceBEq, Nat.reduceAdd, Nat.reduceMul, Nat.reduceSub, Int.reduceBEq, Int.reduceBNe, Int.reduceAdd, Int.reduceSub, Int.reduceMul, Int.reduceToNat, Int.reduceNeg])
    refine GC.fin (by first | rfl | (simp; done) | (simp [hdOK_encU, hdOK_encL, allSz_encU, allSz_encL, encU_length, encL_length, encD_one, encD_cells, AVone_v, AVone_sl, AVone_agg, AVone_ref, AVone_fn, AVone_ifc, AVcells_v, AVcells_sl, AVcells_agg, AVcells_ref, AVcells_fn, AVcells_ifc, Value.oneCell', allSz]; done) | (simp [hdOK_encU, hdOK_encL, allSz_encU, allSz_encL, encU_length, encL_length, encD_one, encD_cells, AVone_v, AVone_sl, AVone_agg, AVone_ref, AVone_fn, AVone_ifc, AVcells_v, AVcells_sl, AVcells_agg, AVcells_ref, AVcells_fn, AVcells_ifc, Value.oneCell', allSz]; omega)) ?_
    rfl
  have e2 : decide (heavyD b) = false := by simpa using h2
  simp only [e2] at hb
  have fa := weigh_fine (bt := 3000) (bm := 3000) (dv := true) (x := 3000) (by omega) (by omega) (by omega) (Int.not_lt.1 h1)
  have fb := weigh_fine (bt := 3000) (bm := 3000) (dv := true) (x := 3000) (by omega) (by omega) (by omega) (Int.not_lt.1 h2)
  have s1 := D_same (W0 := W0) (κ := κ) (GG := GG) _ a b (Nat.le_refl _) fa fb
  have s2 := D_rsame (W0 := W0) (κ := κ) (GG := GG) _ a b (Nat.le_refl _) fa fb
  have s3 := D_same (W0 := W0) (κ := κ) (GG := GG) _ b a (Nat.le_refl _) fb fa
  have s4 := D_same (W0 := W0) (κ := κ) (GG := GG) _ a a (Nat.le_refl _) fa fa
  rw [sameD_comm] at s3
  rw [sameD_refl] at s4
  have hz : ∀ x : Bool, (x == x) = true := by simp
  generalize sameD a b = z at *
  obtain ⟨k, c, neg, mag, t, l⟩ := a
  obtain ⟨k', c', neg', mag', t', l'⟩ := b
  simp only [encD] at ha hb s1 s2 s3 s4
  (refine Sound.of_go D_ok D_mix Tryd.func4 rfl (by decide) (by kernel_rfl) (GC.go ?_); refine GC_run2 4000 ?_; dsimp only [Tryd.f4, CD, go_sem, Nat.reduceBEq, Nat.reduceAdd, Nat.reduceMul, Nat.reduceSub, Int.reduceBEq, Int.reduceBNe, Int.reduceAdd, Int.reduceSub, Int.reduceMul, Int.reduceToNat, Int.reduceNeg, encD])
  (refine GC.call (by first | rfl | (simp; done) | (simp [hdOK_encU, hdOK_encL, allSz_encU, allSz_encL, encU_length, encL_length, encD_one, encD_cells, AVone_v, AVone_sl, AVone_agg, AVone_ref, AVone_fn, AVone_ifc, AVcells_v, AVcells_sl, AVcells_agg, AVcells_ref, AVcells_fn, AVcells_ifc, Value.oneCell', allSz]; done) | (simp [hdOK_encU, hdOK_encL, allSz_encU, allSz_encL, encU_length, encL_length, encD_one, encD_cells, AVone_v, AVone_sl, AVone_agg, AVone_ref, AVone_fn, AVone_ifc, AVcells_v, AVcells_sl, AVcells_agg, AVcells_ref, AVcells_fn, AVcells_ifc, Value.oneCell', allSz]; omega)) (ha) ?_; refine GC_run2 4000 ?_; dsimp only [go_sem, Nat.reduceBEq, Nat.reduceAdd, Nat.reduceMul, Nat.reduceSub, Int.reduceBEq, Int.reduceBNe, Int.reduceAdd, Int.reduceSub, Int.reduceMul, Int.reduceToNat, Int.reduceNeg])
  (refine GC.call (by first | rfl | (simp; done) | (simp [hdOK_encU, hdOK_encL, allSz_encU, allSz_encL, encU_length, encL_length, encD_one, encD_cells, AVone_v, AVone_sl, AVone_agg, AVone_ref, AVone_fn, AVone_ifc, AVcells_v, AVcells_sl, AVcells_agg, AVcells_ref, AVcells_fn, AVcells_ifc, Value.oneCell', allSz]; done) | (simp [hdOK_encU, hdOK_encL, allSz_encU, allSz_encL, encU_length, encL_length, encD_one, encD_cells, AVone_v, AVone_sl, AVone_agg, AVone_ref, AVone_fn, AVone_ifc, AVcells_v, AVcells_sl, AVcells_agg, AVcells_ref, AVcells_fn, AVcells_ifc, Value.oneCell', allSz]; omega)) (hb) ?_; refine GC_run2 4000 ?_; dsimp only [go_sem, Nat.reduceBEq, Nat.reduceAdd, Nat.reduceMul, Nat.reduceSub, Int.reduceBEq, Int.reduceBNe, Int.reduceAdd, Int.reduceSub, Int.reduceMul, Int.reduceToNat, Int.reduceNeg])
  (refine GC.call (by first | rfl | (simp; done) | (simp [hdOK_encU, hdOK_encL, allSz_encU, allSz_encL, encU_length, encL_length, encD_one, encD_cells, AVone_v, AVone_sl, AVone_agg, AVone_ref, AVone_fn, AVone_ifc, AVcells_v, AVcells_sl, AVcells_agg, AVcells_ref, AVcells_fn, AVcells_ifc, Value.oneCell', allSz]; done) | (simp [hdOK_encU, hdOK_encL, allSz_encU, allSz_encL, encU_length, encL_length, encD_one, encD_cells, AVone_v, AVone_sl, AVone_agg, AVone_ref, AVone_fn, AVone_ifc, AVcells_v, AVcells_sl, AVcells_agg, AVcells_ref, AVcells_fn, AVcells_ifc, Value.oneCell', allSz]; omega)) (s1) ?_; refine GC_run2 4000 ?_; dsimp only [go_sem, Nat.reduceBEq, Nat.reduceAdd, Nat.reduceMul, Nat.reduceSub, Int.reduceBEq, Int.reduceBNe, Int.reduceAdd, Int.reduceSub, Int.reduceMul, Int.reduceToNat, Int.reduceNeg])
  (refine GC.call (by first | rfl | (simp; done) | (simp [hdOK_encU, hdOK_encL, allSz_encU, allSz_encL, encU_length, encL_length, encD_one, encD_cells, AVone_v, AVone_sl, AVone_agg, AVone_ref, AVone_fn, AVone_ifc, AVcells_v, AVcells_sl, AVcells_agg, AVcells_ref, AVcells_fn, AVcells_ifc, Value.oneCell', allSz]; done) | (simp [hdOK_encU, hdOK_encL, allSz_encU, allSz_encL, encU_length, encL_length, encD_one, encD_cells, AVone_v, AVone_sl, AVone_agg, AVone_ref, AVone_fn, AVone_ifc, AVcells_v, AVcells_sl, AVcells_agg, AVcells_ref, AVcells_fn, AVcells_ifc, Value.oneCell', allSz]; omega)) (s2) ?_; refine GC_run2 4000 ?_; dsimp only [go_sem, Nat.reduceBEq, Nat.reduceAdd, Nat.reduceMul, Nat.reduceSub, Int.reduceBEq, Int.reduceBNe, Int.reduceAdd, Int.reduceSub, Int.reduceMul, Int.reduceToNat, Int.reduceNeg])
  (repeat (simp only [hz]; try (dsimp only [go_sem, Nat.reduceBEq, Nat.reduceAdd, Nat.reduceMul, Nat.reduceSub, Int.reduceBEq, Int.reduceBNe, Int.reduceAdd, Int.reduceSub, Int.reduceMul, Int.reduceToNat, Int.reduceNeg])))
  (refine GC.call (by first | rfl | (simp; done) | (simp [hdOK_encU, hdOK_encL, allSz_encU, allSz_encL, encU_length, encL_length, encD_one, encD_cells, AVone_v, AVone_sl, AVone_agg, AVone_ref, AVone_fn, AVone_ifc, AVcells_v, AVcells_sl, AVcells_agg, AVcells_ref, AVcells_fn, AVcells_ifc, Value.oneCell', allSz]; done) | (simp [hdOK_encU, hdOK_encL, allSz_encU, allSz_encL, encU_length, encL_length, encD_one, encD_cells, AVone_v, AVone_sl, AVone_agg, AVone_ref, AVone_fn, AVone_ifc, AVcells_v, AVcells_sl, AVcells_agg, AVcells_ref, AVcells_fn, AVcells_ifc, Value.oneCell', allSz]; omega)) (s3) ?_; refine GC_run2 4000 ?_; dsimp only [go_sem, Nat.reduceBEq, Nat.reduceAdd, Nat.reduceMul, Nat.reduceSub, Int.reduceBEq, Int.reduceBNe, Int.reduceAdd, Int.reduceSub, Int.reduceMul, Int.reduceToNat, Int.reduceNeg])
  (refine GC.call (by first | rfl | (simp; done) | (simp [hdOK_encU, hdOK_encL, allSz_encU, allSz_encL, encU_length, encL_length, encD_one, encD_cells, AVone_v, AVone_sl, AVone_agg, AVone_ref, AVone_fn, AVone_ifc, AVcells_v, AVcells_sl, AVcells_agg, AVcells_ref, AVcells_fn, AVcells_ifc, Value.oneCell', allSz]; done) | (simp [hdOK_encU, hdOK_encL, allSz_encU, allSz_encL, encU_length, encL_length, encD_one, encD_cells, AVone_v, AVone_sl, AVone_agg, AVone_ref, AVone_fn, AVone_ifc, AVcells_v, AVcells_sl, AVcells_agg, AVcells_ref, AVcells_fn, AVcells_ifc, Value.oneCell', allSz]; omega)) (s1) ?_; refine GC_run2 4000 ?_; dsimp only [go_sem, Nat.reduceBEq, Nat.reduceAdd, Nat.reduceMul, Nat.reduceSub, Int.reduceBEq, Int.reduceBNe, Int.reduceAdd, Int.reduceSub, Int.reduceMul, Int.reduceToNat, Int.reduceNeg])
  (repeat (simp only [hz]; try (dsimp only [go_sem, Nat.reduceBEq, Nat.reduceAdd, Nat.reduceMul, Nat.reduceSub, Int.reduceBEq, Int.reduceBNe, Int.reduceAdd, Int.reduceSub, Int.reduceMul, Int.reduceToNat, Int.reduceNeg])))
  (refine GC.call (by first | rfl | (simp; done) | (simp [hdOK_encU, hdOK_encL, allSz_encU, allSz_encL, encU_length, encL_length, encD_one, encD_cells, AVone_v, AVone_sl, AVone_agg, AVone_ref, AVone_fn, AVone_ifc, AVcells_v, AVcells_sl, AVcells_agg, AVcells_ref, AVcells_fn, AVcells_ifc, Value.oneCell', allSz]; done) | (simp [hdOK_encU, hdOK_encL, allSz_encU, allSz_encL, encU_length, encL_length, encD_one, encD_cells, AVone_v, AVone_sl, AVone_agg, AVone_ref, AVone_fn, AVone_ifc, AVcells_v, AVcells_sl, AVcells_agg, AVcells_ref, AVcells_fn, AVcells_ifc, Value.oneCell', allSz]; omega)) (s4) ?_; refine GC_run2 4000 ?_; dsimp only [go_sem, Nat.reduceBEq, Nat.reduceAdd, Nat.reduceMul, Nat.reduceSub, Int.reduceBEq, Int.reduceBNe, Int.reduceAdd, Int.reduceSub, Int.reduceMul, Int.reduceToNat, Int.reduceNeg])
  (refine GC.call (by first | rfl | (simp; done) | (simp [hdOK_encU, hdOK_encL, allSz_encU, allSz_encL, encU_length, encL_length, encD_one, encD_cells, AVone_v, AVone_sl, AVone_agg, AVone_ref, AVone_fn, AVone_ifc, AVcells_v, AVcells_sl, AVcells_agg, AVcells_ref, AVcells_fn, AVcells_ifc, Value.oneCell', allSz]; done) | (simp [hdOK_encU, hdOK_encL, allSz_encU, allSz_encL, encU_length, encL_length, encD_one, encD_cells, AVone_v, AVone_sl, AVone_agg, AVone_ref, AVone_fn, AVone_ifc, AVcells_v, AVcells_sl, AVcells_agg, AVcells_ref, AVcells_fn, AVcells_ifc, Value.oneCell', allSz]; omega)) (hw) ?_; refine GC_run2 4000 ?_; dsimp only [go_sem, Nat.reduceBEq, Nat.reduceAdd, Nat.reduceMul, Nat.reduceSub, Int.reduceBEq, Int.reduceBNe, Int.reduceAdd, Int.reduceSub, Int.reduceMul, Int.reduceToNat, Int.reduceNeg])
  (refine GC.ord (by first | rfl | (simp; done) | (simp [hdOK_encU, hdOK_encL, allSz_encU, allSz_encL, encU_length, encL_length, encD_one, encD_cells, AVone_v, AVone_sl, AVone_agg, AVone_ref, AVone_fn, AVone_ifc, AVcells_v, AVcells_sl, AVcells_agg, AVcells_ref, AVcells_fn, AVcells_ifc, Value.oneCell', allSz]; done) | (simp [hdOK_encU, hdOK_encL, allSz_encU, allSz_encL, encU_length, encL_length, encD_one, encD_cells, AVone_v, AVone_sl, AVone_agg, AVone_ref, AVone_fn, AVone_ifc, AVcells_v, AVcells_sl, AVcells_agg, AVcells_ref, AVcells_fn, AVcells_ifc, Value.oneCell', allSz]; omega)) (by kernel_rfl) (by kernel_rfl) ?_; refine GC_run2 4000 ?_; dsimp only [go_sem, Nat.reduceBEq, Nat.reduceAdd, Nat.reduceMul, Nat.reduceSub, Int.reduceBEq, Int.reduceBNe, Int.reduceAdd, Int.reduceSub, Int.reduceMul, Int.reduceToNat, Int.reduceNeg])
  refine GC.fin (by first | rfl | (simp; done) | (simp [hdOK_encU, hdOK_encL, allSz_encU, allSz_encL, encU_length, encL_length, encD_one, encD_cells, AVone_v, AVone_sl, AVone_agg, AVone_ref, AVone_fn, AVone_ifc, AVcells_v, AVcells_sl, AVcells_agg, AVcells_ref, AVcells_fn, AVcells_ifc, Value.oneCell', allSz]; done) | (simp [hdOK_encU, hdOK_encL, allSz_encU, allSz_encL, encU_length, encL_length, encD_one, encD_cells, AVone_v, AVone_sl, AVone_agg, AVone_ref, AVone_fn, AVone_ifc, AVcells_v, AVcells_sl, AVcells_agg, AVcells_ref, AVcells_fn, AVcells_ifc, Value.oneCell', allSz]; omega)) ?_
  rfl
end
end Go.Sy

/- The seat's witness world, and what the laid tables give. By gen.py. -/
namespace Go.Proofs.YthipfoebefcgpaaDoor
open Go.ChangeShapes Go.WideShapes Go.ChangeAt Go.RowKit Go.Lib Go.Sy
set_option maxRecDepth 100000
theorem own : ownKnob Tryd.prog.godebug = none := by kernel_rfl
theorem laidOut : laidOutB Tryd.prog = true := by kernel_rfl
def laidVars : List (String × DataW Unit) := [("unicode/utf8.acceptRanges", Rows.laid_unicode_utf8_acceptRanges), ("unicode/utf8.first", Rows.laid_unicode_utf8_first)]
/-- The settled world, the two tables holding what the program's text lays. -/
noncomputable def laidWorld (os : Os) : World :=
  let w0 := World.holding Tryd.prog os ⟨#[], #[], []⟩
  let put (h : Array Obj) (g : Nat) (cs : Array Value) : Array Obj := h.modify g fun
    | .cells _ t frozen => .cells cs t frozen
    | o => o
  let h1 := put w0.heap 0 (Lib.firstTab.map fun z => Value.int .u8 z).toArray
  let h2 := put h1 1 ((List.range 16).flatMap fun i => [Value.int .u8 (Lib.accLo i), Value.int .u8 (Lib.accHi i)]).toArray
  { w0 with heap := h2 }
theorem laid_met (os : Os) (args : Array Value) : laidMet Tryd.prog laidVars ((laidWorld os).forCall (fun _ _ => 0) ⟨#[], args, []⟩).memory :=
  (LaidIn.of_run (l := laidVars) [1, 0] 8 (by kernel_rfl) (by kernel_rfl) (by kernel_rfl) (by kernel_rfl)).met
theorem laid_metH (os : Os) (args : Array Value) : laidMetH Tryd.prog laidVars ((laidWorld os).forCall (fun _ _ => 0) ⟨#[], args, []⟩).memory := by
  rw [MakeChecks.laidMetH_plain _ _ _ (by kernel_rfl)]
  exact laid_met os args
theorem tabs_of {W : World} (h : laidMetH Tryd.prog laidVars W) : D_Tabs W := by
  rw [MakeChecks.laidMetH_plain _ _ _ (by kernel_rfl)] at h
  have e1 : Rows.laid_unicode_utf8_first = Lib.firstData := by kernel_rfl
  have e2 : (Rows.laid_unicode_utf8_acceptRanges : DataW Unit) = Lib.acceptData := by kernel_rfl
  exact utf8Tabs_of_readsT (U8Types.of196 Tryd.laysValid) ⟨by kernel_rfl, by kernel_rfl, by kernel_rfl, by kernel_rfl, by kernel_rfl, by kernel_rfl, by kernel_rfl⟩ (e1 ▸ Lib.laidMet.reads h (.tail _ (.head _))) (e2 ▸ Lib.laidMet.reads h (.head _))
end Go.Proofs.YthipfoebefcgpaaDoor

/- The row and the card of DatumSame. By gen.py. -/
namespace Go.Proofs.YthipfoebefcgpaaDoor
open Go.ChangeShapes Go.WideShapes Go.ChangeAt Go.RowKit Go.Sy
set_option linter.unusedVariables false
set_option maxRecDepth 100000
theorem datumSame_lifted (os : Os) (started : os.Started) (H : Type) (enc : TypeId × Value → H) :
    ReturnsInHanded {} Tryd.checked os 4 .any (fun w args => (Rows.datumSameSpec.pre enc Tryd.prog Tryd.f4 Rows.datumSameRow.domain false w args ∧ laidMetH Tryd.prog laidVars w) ∧ sizedMet enc Tryd.prog Tryd.f4 (OpenSpec.ofChange Rows.datumSameSpec) false w args)
      (Rows.datumSameSpec.post enc Tryd.prog Tryd.f4 false true false false) := by
  refine returnsInHanded_of_change_and (C := Tryd.checked) (X := fun w _ => laidMetH Tryd.prog laidVars w) (fun _ _ _ hh h => h.of_heap hh) own started (by kernel_rfl) Tryd.func4
    (ChangeSpec.witness_shaped (enc := enc) (C := Tryd.checked) (os := os) (X := fun w _ => laidMetH Tryd.prog laidVars w) false (laidWorld os) #[.agg #[.int .i64 0, .int .i32 0, .bool false, .slice none 0 0, .string ⟨#[]⟩, .slice none 0 0], .agg #[.int .i64 0, .int .i32 0, .bool false, .slice none 0 0, .string ⟨#[]⟩, .slice none 0 0]] 8 rfl (World.shaped_of_RefB (by kernel_rfl) (by kernel_rfl)) (by kernel_rfl) (by kernel_rfl) (by kernel_rfl) (laid_metH os _)) ?_
  intro W base args ds gs before hval0 hW _ _ hL _
  have hval : ∀ (j : Nat) t v, Tryd.f4.params[j]? = some t → args[j]? = some v → Value.okWide Tryd.prog W .any base t v := hval0
  have hW' := hW
  obtain ⟨p, q, hA0, hV, rfl, hfz, hnd⟩ := hW
  have hA : DataW.TrodAll enc Tryd.prog W 0 (fun _ => true) true Tryd.f4.params.toList args.toList ds p := hA0
  rw [Tryd.params4] at hA hval
  obtain ⟨v0, vs0, d0, ds0, p0, q0, hargs, rfl, rfl, h0, r0⟩ := trodAll_cons hA
  obtain ⟨v1, vs1, d1, ds1, p1, q1, rfl, rfl, rfl, h1, r1⟩ := trodAll_cons r0
  obtain ⟨rfl, rfl, rfl⟩ := trodAll_nil r1
  obtain rfl : args = #[v0, v1] := by cases args; simp_all
  obtain ⟨rfl, rfl⟩ := trodVars_none hV
  have k0 := h0
  have lt0 : ∀ x ∈ p0, x.block < W.heap.size := by obtain ⟨m, hm⟩ := k0; exact DataW.trod_lt m _ _ _ hm
  obtain ⟨x0, wf0, e0⟩ := D_arg_dat (κ := fun _ => ⟨0, 0, none⟩) (hval 0 27 v0 rfl rfl) h0
  have k1 := h1
  have lt1 : ∀ x ∈ p1, x.block < W.heap.size := by obtain ⟨m, hm⟩ := k1; exact DataW.trod_lt m _ _ _ hm
  obtain ⟨x1, wf1, e1⟩ := D_arg_dat (κ := fun _ => ⟨0, 0, none⟩) (hval 1 27 v1 rfl rfl) h1
  clear hA0 hval0
  have law := D_law_same (W0 := W) (κ := fun _ => ⟨0, 0, none⟩) (GG := fun _ => none) (tabs_of hL) x0 x1
  refine (law.run (memOf W) W [v0, v1] (memOf_cons W) (fun g x h => by cases h) (Below.refl _ _) ⟨_, _, rfl, e0, _, _, rfl, e1, rfl⟩).mono fun e W' hp => ?_
  obtain ⟨v, m', rfl, q1, q2, q3, bel, q5⟩ := hp.out
  have hvt : v = .bool true := q5
  subst hvt
  exact ⟨_, rfl, _, _, _, [], _, [], hW', trodAll_mk1 (shut_bool Tryd.underlying4 _), (trodAll_cons_mk (Below.trod laidOut (by kernel_rfl) (of_decide_eq_true (by kernel_rfl)) k0 bel lt0) (trodAll_cons_mk (Below.trod laidOut (by kernel_rfl) (of_decide_eq_true (by kernel_rfl)) k1 bel lt1) trodAll_mk0)), rfl, bel.frame _, fun h => by cases h⟩
theorem datumSame_holds : Rows.DatumSameSaid :=
  OpenClaim.holds_of_wide 4 Tryd.f4 rfl rfl rfl rfl rfl rfl rfl ⟨rfl, rfl, rfl, rfl, rfl⟩ rfl rfl rfl rfl rfl (by kernel_rfl) Tryd.func4 (by kernel_rfl)
    (of_decide_eq_true (by kernel_rfl)) (by unfold Func.isWrapper; first | (rw [if_pos (by decide +kernel)]; kernel_rfl) | (rw [if_neg (by decide +kernel)]; exact ⟨rfl, rfl⟩))
    (fun os started H enc _ => datumSame_lifted os started H enc)
theorem datumSame_card_holds : Rows.DatumSameCardSaid :=
  Claim7.holds_tied_plain_at .later [] [.data, .pinned] true Rows.datumSameCard.stood.harness false
    datumSame_holds (fun _ h => by cases h) (by kernel_rfl) (fun _ h => by cases h) datumSame_row_tie rfl ⟨rfl, rfl⟩ (by kernel_rfl) rfl
    (fun f fn hf hfn => by
      obtain rfl : f = 4 := Option.some.inj ((show Tryd.prog.funcNamed Rows.datumSameRow.func = some 4 by kernel_rfl).symm.trans hf) |>.symm
      obtain rfl : fn = Tryd.f4 := (Option.some.inj (Tryd.func4.symm.trans hfn)).symm
      exact ⟨by kernel_rfl, fun j t ht => by
        rw [Tryd.params4] at ht
        have hm : t ∈ [27, 27] := by simpa using Array.mem_of_getElem? ht
        have hall : ([27, 27].all fun u => !Tryd.prog.wantsStandIn u) = true := by kernel_rfl
        exact (show Tryd.prog.wantsStandIn t = false by simpa using List.all_eq_true.1 hall t hm)⟩)
    (by kernel_rfl)
#print axioms datumSame_card_holds
end Go.Proofs.YthipfoebefcgpaaDoor
