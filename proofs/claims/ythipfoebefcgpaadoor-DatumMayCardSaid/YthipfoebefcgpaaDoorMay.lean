/- PROVED: the tied card of the law DatumMay: for every input the call returns true, and each argument reads behind it as before. Conditions: the two tables of unicode/utf8 hold what the program's text lays; nothing else is asked. -/
import Derived.Test.YthipfoebefcgpaaDoorKb
import Derived.Test.YthipfoebefcgpaaDoorEx3
import Derived.Test.YthipfoebefcgpaaDoorKc
import Derived.Test.YthipfoebefcgpaaDoorRows
import Derived.Test.YthipfoebefcgpaaDoorTie
import Derived.Lib.LaidIn
import Derived.Lib.LaidU8T
import Derived.LaidLaws
import Derived.LaidMore
import Derived.ProofKit
import Derived.SizedLaws
import Derived.Handed
import Derived.OpenShut
import Derived.Stop.Joined
import Derived.Carry
import Derived.Test.YthipfoebefcgpaaDoorCards
import Derived.SevenTiedAt
set_option linter.unusedVariables false
set_option linter.unusedSimpArgs false
/- Contracts of the program's functions over abstract values. By gen.py. -/
set_option linter.unusedVariables false
set_option linter.unusedSimpArgs false
set_option maxRecDepth 100000
set_option maxHeartbeats 4000000
namespace Go.Sy
open Go.Proofs
attribute [local go_sem] runO_t runO_f band_t band_f bor_t bor_f bnot_t bnot_f gdK_tt gdK_ff gdK_tf gdK_ft brK_t brK_f runE_some runF_some runA_some runG_some runB_some runX_some runR_some run_nil run_skip run_seq run_region run_block run_blk run_exit run_cond run_ret run_loop run_lp run_opsNil run_opsOrd run_opsOp run_opsGuard run_cl run_gd run_br run_fin run_clx run_fst run_callf runY_t runY_f runS_some runV_t runV_f aBuildK_t aBuildK_f Mode.plain run_move run_nilCheck run_assign run_pick run_alloc run_box run_build run_buildSlice run_load run_store run_binOp run_unOp run_convert run_slice run_fieldAddr run_indexAddr run_index run_field run_extract run_makeInterface run_makeFunc run_len run_max run_min run_append St.ev St.evl St.evs St.evo capsOf callOf look drop put putAll toTV_nil toTV_int toTV_bool toTV_str toTV_ptr toTV_ifc toTV_fn toAV_nil toAV_int toAV_bool toAV_str toAV_ptr toAV_ifc toAV_fn aAssign_nil aAssign_tmp aAssign_int aAssign_bool aAssign_str aAssign_ptr aAssign_nilf aAssign_ifc aAssign_func aAssign_glob nilConst_slice nilConst_ptr nilConst_ifc nilConst_tmp plain Option.bind TV.cells TV.one AVone_v AVone_sl AVone_agg AVone_ref AVone_fn AVone_ifc AVone_sent Value.oneCell' oneVs avOf avsOf expo expos expoC exposC TV.isC allC fillsT aBuildT lendR ren renT0 renC renT renO renW xFoot xSt newIds retX retXs isT0 asList List.map St.app setD St.setT ownD trA effFoot callFoot callSt callReq St.fresh freshT freshO allFresh TV.ment TVs.ment SObj.ment fsts mentW noFoot List.contains List.elem aPick aAlloc aBox aBuild aBuildSlice nonNil allSz aUn aConv aField aIndex aByte aPart aExtract aIface aFunc aLen ty1 aMax aApp aAppend aCheck emptyL aSlice okHd hdOK_nil hdOK_cons aLoad aStore aBin aNil sBin sInt isSh sameSh nilness fills fillAt fillTV putCells intOf? mkInt AVcells_v AVcells_sl AVcells_agg AVcells_ref AVcells_fn AVcells_ifc AVcells_sent St.g0 St.g guardOf guardOff udf argsOf lends lendBox bindRes bindR bindRs flatR flatV boolOf retItems retItems0 retItem rowsOf disjB ownIds resIds nodupB St.init initT popTo cond_true cond_false Option.getD Option.map List.take List.drop List.length List.zip List.zipWith List.range List.range.loop List.append List.foldr List.nil_append List.cons_append List.append_nil List.getElem?_cons_zero List.getElem?_cons_succ GetElem?.getElem? List.get?Internal Int.toNat_natCast cst0 cst1 cst2 cst3 cst4 cst5 cst6 cst7 cst8 cst9 cst10 cst11 toNat0 toNat1 toNat2 toNat3 getD0 getD1 getD2 getD3 run_zero memN keepT dropO St.re leT leO D_q2  D_q3  D_q4  D_q5  D_q9  D_q12  D_q21  D_q22  D_q24  D_q25  D_q27  D_q28  D_q32  D_q46  D_q48  D_q50  D_q52  D_q53  D_q54  D_q56  D_q57  D_q61  D_q70  D_q72  D_q76  D_q77  D_q79  D_q80  D_q83  D_q85  D_q91  D_q93  D_q104  D_q108  D_q115  D_q118  D_q121  D_q134  D_q136  D_q137
section
variable {W0 : World} {κ : Nat → Addr} {GG : Nat → Option AV}

theorem sameD_comm (a b : Dat) : sameD b a = sameD a b := by
  by_cases h : a = b
  · subst h; rfl
  · have h1 : sameD a b = false := Bool.eq_false_iff.2 fun e => h (sameD_iff.1 e)
    have h2 : sameD b a = false := Bool.eq_false_iff.2 fun e => h (sameD_iff.1 e).symm
    rw [h1, h2]
abbrev heavyD (d : Dat) : Prop := weighD 3000 3000 true d 3000 < 0
theorem D_law_same (hU : D_Tabs W0) (a b : Dat) : Sound (CD W0 κ GG) 4 [encD a, encD b] [.av (.v (.bool true))] := by
  have ha := D_heavy3 (W0 := W0) (κ := κ) (GG := GG) a
  have hb := D_heavy3 (W0 := W0) (κ := κ) (GG := GG) b
  have hw := D_awake (W0 := W0) (κ := κ) (GG := GG) hU
  by_cases h1 : heavyD a
  · have e1 : decide (heavyD a) = true := by simpa using h1
    simp only [e1] at ha
    obtain ⟨k, c, neg, mag, t, l⟩ := a
    obtain ⟨k', c', neg', mag', t', l'⟩ := b
    simp only [encD] at ha hb
    (refine Sound.of_go D_ok D_mix Tryd.func4 rfl (by decide) (by kernel_rfl) (GC.go ?_); refine GC_run2 4000 ?_; dsimp only [Tryd.f4, CD, go_sem, Nat.reduceBEq, Nat.reduceAdd, Nat.reduceMul, Nat.reduceSub, Int.reduceBEq, Int.reduceBNe, Int.reduceAdd, Int.reduceSub, Int.reduceMul, Int.reduceToNat, Int.reduceNeg, encD])
    (refine GC.call (by first | rfl | (simp; done) | (simp [hdOK_encU, hdOK_encL, allSz_encU, allSz_encL, encU_length, encL_length, encD_one, encD_cells, AVone_v, AVone_sl, AVone_agg, AVone_ref, AVone_fn, AVone_ifc, AVcells_v, AVcells_sl, AVcells_agg, AVcells_ref, AVcells_fn, AVcells_ifc, Value.oneCell', allSz]; done) | (simp [hdOK_encU, hdOK_encL, allSz_encU, allSz_encL, encU_length, encL_length, encD_one, encD_cells, AVone_v, AVone_sl, AVone_agg, AVone_ref, AVone_fn, AVone_ifc, AVcells_v, AVcells_sl, AVcells_agg, AVcells_ref, AVcells_fn, AVcells_ifc, Value.oneCell', allSz]; omega)) (ha) ?_; refine GC_run2 4000 ?_; dsimp only [go_sem, Nat.reduceBEq, Nat.reduceAdd, Nat.reduceMul, Nat.reduceSub, Int.reduceBEq, Int.reduceBNe, Int.reduceAdd, Int.reduceSub, Int.reduceMul, Int.reduceToNat, Int.reduceNeg])
    (refine GC.call (by first | rfl | (simp; done) | (simp [hdOK_encU, hdOK_encL, allSz_encU, allSz_encL, encU_length, encL_length, encD_one, encD_cells, AVone_v, AVone_sl, AVone_agg, AVone_ref, AVone_fn, AVone_ifc, AVcells_v, AVcells_sl, AVcells_agg, AVcells_ref, AVcells_fn, AVcells_ifc, Value.oneCell', allSz]; done) | (simp [hdOK_encU, hdOK_encL, allSz_encU, allSz_encL, encU_length, encL_length, encD_one, encD_cells, AVone_v, AVone_sl, AVone_agg, AVone_ref, AVone_fn, AVone_ifc, AVcells_v, AVcells_sl, AVcells_agg, AVcells_ref, AVcells_fn, AVcells_ifc, Value.oneCell', allSz]; omega)) (hw) ?_; refine GC_run2 4000 ?_; dsimp only [go_sem, Nat.reduceBEq, Nat.reduceAdd, Nat.reduceMul, Nat.reduceSub, Int.reduceBEq, Int.reduceBNe, Int.reduceAdd, Int.reduceSub, Int.reduceMul, Int.reduceToNat, Int.reduceNeg])
    refine GC.finE (by first | rfl | (simp; done) | (simp [hdOK_encU, hdOK_encL, allSz_encU, allSz_encL, encU_length, encL_length, encD_one, encD_cells, AVone_v, AVone_sl, AVone_agg, AVone_ref, AVone_fn, AVone_ifc, AVcells_v, AVcells_sl, AVcells_agg, AVcells_ref, AVcells_fn, AVcells_ifc, Value.oneCell', allSz]; done) | (simp [hdOK_encU, hdOK_encL, allSz_encU, allSz_encL, encU_length, encL_length, encD_one, encD_cells, AVone_v, AVone_sl, AVone_agg, AVone_ref, AVone_fn, AVone_ifc, AVcells_v, AVcells_sl, AVcells_agg, AVcells_ref, AVcells_fn, AVcells_ifc, Value.oneCell', allSz]; omega)) ?_
    rfl
  have e1 : decide (heavyD a) = false := by simpa using h1
  simp only [e1] at ha
  by_cases h2 : heavyD b
  · have e2 : decide (heavyD b) = true := by simpa using h2
    simp only [e2] at hb
    obtain ⟨k, c, neg, mag, t, l⟩ := a
    obtain ⟨k', c', neg', mag', t', l'⟩ := b
    simp only [encD] at ha hb
    (refine Sound.of_go D_ok D_mix Tryd.func4 rfl (by decide) (by kernel_rfl) (GC.go ?_); refine GC_run2 4000 ?_; dsimp only [Tryd.f4, CD, go_sem, Nat.reduceBEq, Nat.reduceAdd, Nat.reduceMul, Nat.reduceSub, Int.reduceBEq, Int.reduceBNe, Int.reduceAdd, Int.reduceSub, Int.reduceMul, Int.reduceToNat, Int.reduceNeg, encD])
    (refine GC.call (by first | rfl | (simp; done) | (simp [hdOK_encU, hdOK_encL, allSz_encU, allSz_encL, encU_length, encL_length, encD_one, encD_cells, AVone_v, AVone_sl, AVone_agg, AVone_ref, AVone_fn, AVone_ifc, AVcells_v, AVcells_sl, AVcells_agg, AVcells_ref, AVcells_fn, AVcells_ifc, Value.oneCell', allSz]; done) | (simp [hdOK_encU, hdOK_encL, allSz_encU, allSz_encL, encU_length, encL_length, encD_one, encD_cells, AVone_v, AVone_sl, AVone_agg, AVone_ref, AVone_fn, AVone_ifc, AVcells_v, AVcells_sl, AVcells_agg, AVcells_ref, AVcells_fn, AVcells_ifc, Value.oneCell', allSz]; omega)) (ha) ?_; refine GC_run2 4000 ?_; dsimp only [go_sem, Nat.reduceBEq, Nat.reduceAdd, Nat.reduceMul, Nat.reduceSub, Int.reduceBEq, Int.reduceBNe, Int.reduceAdd, Int.reduceSub, Int.reduceMul, Int.reduceToNat, Int.reduceNeg])
    (refine GC.call (by first | rfl | (simp; done) | (simp [hdOK_encU, hdOK_encL, allSz_encU, allSz_encL, encU_length, encL_length, encD_one, encD_cells, AVone_v, AVone_sl, AVone_agg, AVone_ref, AVone_fn, AVone_ifc, AVcells_v, AVcells_sl, AVcells_agg, AVcells_ref, AVcells_fn, AVcells_ifc, Value.oneCell', allSz]; done) | (simp [hdOK_encU, hdOK_encL, allSz_encU, allSz_encL, encU_length, encL_length, encD_one, encD_cells, AVone_v, AVone_sl, AVone_agg, AVone_ref, AVone_fn, AVone_ifc, AVcells_v, AVcells_sl, AVcells_agg, AVcells_ref, AVcells_fn, AVcells_ifc, Value.oneCell', allSz]; omega)) (hb) ?_; refine GC_run2 4000 ?_; dsimp only [go_sem, Nat.reduceBEq, Nat.reduceAdd, Nat.reduceMul, Nat.reduceSub, Int.reduceBEq, Int.reduceBNe, Int.reduceAdd, Int.reduceSub, Int.reduceMul, Int.reduceToNat, Int.reduceNeg])
    (refine GC.call (by first | rfl | (simp; done) | (simp [hdOK_encU, hdOK_encL, allSz_encU, allSz_encL, encU_length, encL_length, encD_one, encD_cells, AVone_v, AVone_sl, AVone_agg, AVone_ref, AVone_fn, AVone_ifc, AVcells_v, AVcells_sl, AVcells_agg, AVcells_ref, AVcells_fn, AVcells_ifc, Value.oneCell', allSz]; done) | (simp [hdOK_encU, hdOK_encL, allSz_encU, allSz_encL, encU_length, encL_length, encD_one, encD_cells, AVone_v, AVone_sl, AVone_agg, AVone_ref, AVone_fn, AVone_ifc, AVcells_v, AVcells_sl, AVcells_agg, AVcells_ref, AVcells_fn, AVcells_ifc, Value.oneCell', allSz]; omega)) (hw) ?_; refine GC_run2 4000 ?_; dsimp only [go_sem, Nat.reduceBEq, Nat.reduceAdd, Nat.reduceMul, Nat.reduceSub, Int.reduceBEq, Int.reduceBNe, Int.reduceAdd, Int.reduceSub, Int.reduceMul, Int.reduceToNat, Int.reduceNeg])
    refine GC.finE (by first | rfl | (simp; done) | (simp [hdOK_encU, hdOK_encL, allSz_encU, allSz_encL, encU_length, encL_length, encD_one, encD_cells, AVone_v, AVone_sl, AVone_agg, AVone_ref, AVone_fn, AVone_ifc, AVcells_v, AVcells_sl, AVcells_agg, AVcells_ref, AVcells_fn, AVcells_ifc, Value.oneCell', allSz]; done) | (simp [hdOK_encU, hdOK_encL, allSz_encU, allSz_encL, encU_length, encL_length, encD_one, encD_cells, AVone_v, AVone_sl, AVone_agg, AVone_ref, AVone_fn, AVone_ifc, AVcells_v, AVcells_sl, AVcells_agg, AVcells_ref, AVcells_fn, AVcells_ifc, Value.oneCell', allSz]; omega)) ?_
    rfl
  have e2 : decide (heavyD b) = false := by simpa using h2
  simp only [e2] at hb
  have fa := weigh_fine (bt := 3000) (bm := 3000) (dv := true) (x := 3000) (by omega) (by omega) (by omega) (Int.not_lt.1 h1)
  have fb := weigh_fine (bt := 3000) (bm := 3000) (dv := true) (x := 3000) (by omega) (by omega) (by omega) (Int.not_lt.1 h2)
  have s1 := D_same (W0 := W0) (κ := κ) (GG := GG) _ a b (Nat.le_refl _) fa fb
  have s2 := D_rsame (W0 := W0) (κ := κ) (GG := GG) _ a b (Nat.le_refl _) fa fb
  have s3 := D_same (W0 := W0) (κ := κ) (GG := GG) _ b a (Nat.le_refl _) fb fa
  have s4 := D_same (W0 := W0) (κ := κ) (GG := GG) _ a a (Nat.le_refl _) fa fa
  rw [sameD_comm] at s3
  rw [sameD_refl] at s4
  have hz : ∀ x : Bool, (x == x) = true := by simp
  generalize sameD a b = z at *
  obtain ⟨k, c, neg, mag, t, l⟩ := a
  obtain ⟨k', c', neg', mag', t', l'⟩ := b
  simp only [encD] at ha hb s1 s2 s3 s4
  (refine Sound.of_go D_ok D_mix Tryd.func4 rfl (by decide) (by kernel_rfl) (GC.go ?_); refine GC_run2 4000 ?_; dsimp only [Tryd.f4, CD, go_sem, Nat.reduceBEq, Nat.reduceAdd, Nat.reduceMul, Nat.reduceSub, Int.reduceBEq, Int.reduceBNe, Int.reduceAdd, Int.reduceSub, Int.reduceMul, Int.reduceToNat, Int.reduceNeg, encD])
  (refine GC.call (by first | rfl | (simp; done) | (simp [hdOK_encU, hdOK_encL, allSz_encU, allSz_encL, encU_length, encL_length, encD_one, encD_cells, AVone_v, AVone_sl, AVone_agg, AVone_ref, AVone_fn, AVone_ifc, AVcells_v, AVcells_sl, AVcells_agg, AVcells_ref, AVcells_fn, AVcells_ifc, Value.oneCell', allSz]; done) | (simp [hdOK_encU, hdOK_encL, allSz_encU, allSz_encL, encU_length, encL_length, encD_one, encD_cells, AVone_v, AVone_sl, AVone_agg, AVone_ref, AVone_fn, AVone_ifc, AVcells_v, AVcells_sl, AVcells_agg, AVcells_ref, AVcells_fn, AVcells_ifc, Value.oneCell', allSz]; omega)) (ha) ?_; refine GC_run2 4000 ?_; dsimp only [go_sem, Nat.reduceBEq, Nat.reduceAdd, Nat.reduceMul, Nat.reduceSub, Int.reduceBEq, Int.reduceBNe, Int.reduceAdd, Int.reduceSub, Int.reduceMul, Int.reduceToNat, Int.reduceNeg])
  (refine GC.call (by first | rfl | (simp; done) | (simp [hdOK_encU, hdOK_encL, allSz_encU, allSz_encL, encU_length, encL_length, encD_one, encD_cells, AVone_v, AVone_sl, AVone_agg, AVone_ref, AVone_fn, AVone_ifc, AVcells_v, AVcells_sl, AVcells_agg, AVcells_ref, AVcells_fn, AVcells_ifc, Value.oneCell', allSz]; done) | (simp [hdOK_encU, hdOK_encL, allSz_encU, allSz_encL, encU_length, encL_length, encD_one, encD_cells, AVone_v, AVone_sl, AVone_agg, AVone_ref, AVone_fn, AVone_ifc, AVcells_v, AVcells_sl, AVcells_agg, AVcells_ref, AVcells_fn, AVcells_ifc, Value.oneCell', allSz]; omega)) (hb) ?_; refine GC_run2 4000 ?_; dsimp only [go_sem, Nat.reduceBEq, Nat.reduceAdd, Nat.reduceMul, Nat.reduceSub, Int.reduceBEq, Int.reduceBNe, Int.reduceAdd, Int.reduceSub, Int.reduceMul, Int.reduceToNat, Int.reduceNeg])
  (refine GC.call (by first | rfl | (simp; done) | (simp [hdOK_encU, hdOK_encL, allSz_encU, allSz_encL, encU_length, encL_length, encD_one, encD_cells, AVone_v, AVone_sl, AVone_agg, AVone_ref, AVone_fn, AVone_ifc, AVcells_v, AVcells_sl, AVcells_agg, AVcells_ref, AVcells_fn, AVcells_ifc, Value.oneCell', allSz]; done) | (simp [hdOK_encU, hdOK_encL, allSz_encU, allSz_encL, encU_length, encL_length, encD_one, encD_cells, AVone_v, AVone_sl, AVone_agg, AVone_ref, AVone_fn, AVone_ifc, AVcells_v, AVcells_sl, AVcells_agg, AVcells_ref, AVcells_fn, AVcells_ifc, Value.oneCell', allSz]; omega)) (s1) ?_; refine GC_run2 4000 ?_; dsimp only [go_sem, Nat.reduceBEq, Nat.reduceAdd, Nat.reduceMul, Nat.reduceSub, Int.reduceBEq, Int.reduceBNe, Int.reduceAdd, Int.reduceSub, Int.reduceMul, Int.reduceToNat, Int.reduceNeg])
  (refine GC.call (by first | rfl | (simp; done) | (simp [hdOK_encU, hdOK_encL, allSz_encU, allSz_encL, encU_length, encL_length, encD_one, encD_cells, AVone_v, AVone_sl, AVone_agg, AVone_ref, AVone_fn, AVone_ifc, AVcells_v, AVcells_sl, AVcells_agg, AVcells_ref, AVcells_fn, AVcells_ifc, Value.oneCell', allSz]; done) | (simp [hdOK_encU, hdOK_encL, allSz_encU, allSz_encL, encU_length, encL_length, encD_one, encD_cells, AVone_v, AVone_sl, AVone_agg, AVone_ref, AVone_fn, AVone_ifc, AVcells_v, AVcells_sl, AVcells_agg, AVcells_ref, AVcells_fn, AVcells_ifc, Value.oneCell', allSz]; omega)) (s2) ?_; refine GC_run2 4000 ?_; dsimp only [go_sem, Nat.reduceBEq, Nat.reduceAdd, Nat.reduceMul, Nat.reduceSub, Int.reduceBEq, Int.reduceBNe, Int.reduceAdd, Int.reduceSub, Int.reduceMul, Int.reduceToNat, Int.reduceNeg])
  (repeat (simp only [hz]; try (dsimp only [go_sem, Nat.reduceBEq, Nat.reduceAdd, Nat.reduceMul, Nat.reduceSub, Int.reduceBEq, Int.reduceBNe, Int.reduceAdd, Int.reduceSub, Int.reduceMul, Int.reduceToNat, Int.reduceNeg])))
  (refine GC.call (by first | rfl | (simp; done) | (simp [hdOK_encU, hdOK_encL, allSz_encU, allSz_encL, encU_length, encL_length, encD_one, encD_cells, AVone_v, AVone_sl, AVone_agg, AVone_ref, AVone_fn, AVone_ifc, AVcells_v, AVcells_sl, AVcells_agg, AVcells_ref, AVcells_fn, AVcells_ifc, Value.oneCell', allSz]; done) | (simp [hdOK_encU, hdOK_encL, allSz_encU, allSz_encL, encU_length, encL_length, encD_one, encD_cells, AVone_v, AVone_sl, AVone_agg, AVone_ref, AVone_fn, AVone_ifc, AVcells_v, AVcells_sl, AVcells_agg, AVcells_ref, AVcells_fn, AVcells_ifc, Value.oneCell', allSz]; omega)) (s3) ?_; refine GC_run2 4000 ?_; dsimp only [go_sem, Nat.reduceBEq, Nat.reduceAdd, Nat.reduceMul, Nat.reduceSub, Int.reduceBEq, Int.reduceBNe, Int.reduceAdd, Int.reduceSub, Int.reduceMul, Int.reduceToNat, Int.reduceNeg])
  (refine GC.call (by first | rfl | (simp; done) | (simp [hdOK_encU, hdOK_encL, allSz_encU, allSz_encL, encU_length, encL_length, encD_one, encD_cells, AVone_v, AVone_sl, AVone_agg, AVone_ref, AVone_fn, AVone_ifc, AVcells_v, AVcells_sl, AVcells_agg, AVcells_ref, AVcells_fn, AVcells_ifc, Value.oneCell', allSz]; done) | (simp [hdOK_encU, hdOK_encL, allSz_encU, allSz_encL, encU_length, encL_length, encD_one, encD_cells, AVone_v, AVone_sl, AVone_agg, AVone_ref, AVone_fn, AVone_ifc, AVcells_v, AVcells_sl, AVcells_agg, AVcells_ref, AVcells_fn, AVcells_ifc, Value.oneCell', allSz]; omega)) (s1) ?_; refine GC_run2 4000 ?_; dsimp only [go_sem, Nat.reduceBEq, Nat.reduceAdd, Nat.reduceMul, Nat.reduceSub, Int.reduceBEq, Int.reduceBNe, Int.reduceAdd, Int.reduceSub, Int.reduceMul, Int.reduceToNat, Int.reduceNeg])
  (repeat (simp only [hz]; try (dsimp only [go_sem, Nat.reduceBEq, Nat.reduceAdd, Nat.reduceMul, Nat.reduceSub, Int.reduceBEq, Int.reduceBNe, Int.reduceAdd, Int.reduceSub, Int.reduceMul, Int.reduceToNat, Int.reduceNeg])))
  (refine GC.call (by first | rfl | (simp; done) | (simp [hdOK_encU, hdOK_encL, allSz_encU, allSz_encL, encU_length, encL_length, encD_one, encD_cells, AVone_v, AVone_sl, AVone_agg, AVone_ref, AVone_fn, AVone_ifc, AVcells_v, AVcells_sl, AVcells_agg, AVcells_ref, AVcells_fn, AVcells_ifc, Value.oneCell', allSz]; done) | (simp [hdOK_encU, hdOK_encL, allSz_encU, allSz_encL, encU_length, encL_length, encD_one, encD_cells, AVone_v, AVone_sl, AVone_agg, AVone_ref, AVone_fn, AVone_ifc, AVcells_v, AVcells_sl, AVcells_agg, AVcells_ref, AVcells_fn, AVcells_ifc, Value.oneCell', allSz]; omega)) (s4) ?_; refine GC_run2 4000 ?_; dsimp only [go_sem, Nat.reduceBEq, Nat.reduceAdd, Nat.reduceMul, Nat.reduceSub, Int.reduceBEq, Int.reduceBNe, Int.reduceAdd, Int.reduceSub, Int.reduceMul, Int.reduceToNat, Int.reduceNeg])
  (refine GC.call (by first | rfl | (simp; done) | (simp [hdOK_encU, hdOK_encL, allSz_encU, allSz_encL, encU_length, encL_length, encD_one, encD_cells, AVone_v, AVone_sl, AVone_agg, AVone_ref, AVone_fn, AVone_ifc, AVcells_v, AVcells_sl, AVcells_agg, AVcells_ref, AVcells_fn, AVcells_ifc, Value.oneCell', allSz]; done) | (simp [hdOK_encU, hdOK_encL, allSz_encU, allSz_encL, encU_length, encL_length, encD_one, encD_cells, AVone_v, AVone_sl, AVone_agg, AVone_ref, AVone_fn, AVone_ifc, AVcells_v, AVcells_sl, AVcells_agg, AVcells_ref, AVcells_fn, AVcells_ifc, Value.oneCell', allSz]; omega)) (hw) ?_; refine GC_run2 4000 ?_; dsimp only [go_sem, Nat.reduceBEq, Nat.reduceAdd, Nat.reduceMul, Nat.reduceSub, Int.reduceBEq, Int.reduceBNe, Int.reduceAdd, Int.reduceSub, Int.reduceMul, Int.reduceToNat, Int.reduceNeg])
  (refine GC.ord (by first | rfl | (simp; done) | (simp [hdOK_encU, hdOK_encL, allSz_encU, allSz_encL, encU_length, encL_length, encD_one, encD_cells, AVone_v, AVone_sl, AVone_agg, AVone_ref, AVone_fn, AVone_ifc, AVcells_v, AVcells_sl, AVcells_agg, AVcells_ref, AVcells_fn, AVcells_ifc, Value.oneCell', allSz]; done) | (simp [hdOK_encU, hdOK_encL, allSz_encU, allSz_encL, encU_length, encL_length, encD_one, encD_cells, AVone_v, AVone_sl, AVone_agg, AVone_ref, AVone_fn, AVone_ifc, AVcells_v, AVcells_sl, AVcells_agg, AVcells_ref, AVcells_fn, AVcells_ifc, Value.oneCell', allSz]; omega)) (by kernel_rfl) (by kernel_rfl) ?_; refine GC_run2 4000 ?_; dsimp only [go_sem, Nat.reduceBEq, Nat.reduceAdd, Nat.reduceMul, Nat.reduceSub, Int.reduceBEq, Int.reduceBNe, Int.reduceAdd, Int.reduceSub, Int.reduceMul, Int.reduceToNat, Int.reduceNeg])
  refine GC.finE (by first | rfl | (simp; done) | (simp [hdOK_encU, hdOK_encL, allSz_encU, allSz_encL, encU_length, encL_length, encD_one, encD_cells, AVone_v, AVone_sl, AVone_agg, AVone_ref, AVone_fn, AVone_ifc, AVcells_v, AVcells_sl, AVcells_agg, AVcells_ref, AVcells_fn, AVcells_ifc, Value.oneCell', allSz]; done) | (simp [hdOK_encU, hdOK_encL, allSz_encU, allSz_encL, encU_length, encL_length, encD_one, encD_cells, AVone_v, AVone_sl, AVone_agg, AVone_ref, AVone_fn, AVone_ifc, AVcells_v, AVcells_sl, AVcells_agg, AVcells_ref, AVcells_fn, AVcells_ifc, Value.oneCell', allSz]; omega)) ?_
  rfl
end
end Go.Sy

/- Plain words of the laws of data. -/
set_option linter.unusedVariables false
namespace Go.Sy
def deep (l : List Dat) : Nat := l.foldl (fun m x => max m (depthD x + 1)) 0
theorem deep_snoc (l : List Dat) (x : Dat) : deep (l ++ [x]) = max (deep l) (depthD x + 1) := by simp [deep]
theorem foldl_max (l : List Dat) (a : Nat) : l.foldl (fun m x => max m (depthD x + 1)) a = max a (l.foldl (fun m x => max m (depthD x + 1)) 0) := by
  induction l generalizing a with
  | nil => simp
  | cons x l ih => rw [List.foldl_cons, List.foldl_cons, ih, ih (max 0 _)]; omega
theorem listE_kind (x : Dat) (l : List Dat) (e : Dat) : (listE (x :: l) e).kind = 7 := rfl
theorem depth_list (l : List Dat) : depthD (listD l) = deep l := by
  unfold listD deep
  induction l with
  | nil => simp [listE, nilD, depthD, depthL]
  | cons x l ih =>
    rw [List.foldl_cons, foldl_max, ← ih]
    cases l with
    | nil => simp [listE, nilD, depthD, depthL, Dat.kind]
    | cons y l =>
      have h : depthD (listE (x :: y :: l) nilD) = max (depthD x + 1) (max (depthD (listE (y :: l) nilD)) 0) := by
        conv => lhs; rw [listE, depthD]
        simp [depthL, listE_kind]
      rw [h]
      omega
theorem cnt_list (l : List Dat) : cnt (listD l) = cntL l + l.length + 1 := by
  rw [listD, cntL_rev]; simp [nilD, cnt, cntL]
theorem cntL_snoc (l : List Dat) (x : Dat) : cntL (l ++ [x]) = cntL l + cnt x := by
  induction l with
  | nil => simp [cntL]
  | cons y l ih => simp only [List.cons_append, cntL, ih]; omega
theorem cntL_le (l : List Dat) (n : Nat) (h : ∀ x ∈ l, cnt x ≤ n) : cntL l ≤ l.length * n := by
  induction l with
  | nil => simp [cntL]
  | cons y l ih =>
    simp only [cntL, List.length_cons, Nat.succ_mul]
    have := ih fun x hx => h x (List.mem_cons_of_mem _ hx)
    have := h y (by simp)
    omega
theorem deep_le (l : List Dat) (n : Nat) (h : ∀ x ∈ l, depthD x ≤ n) : deep l ≤ n + 1 := by
  rw [← depth_list]
  rw [depth_list]
  unfold deep
  induction l with
  | nil => simp
  | cons y l ih =>
    rw [List.foldl_cons, foldl_max]
    have := ih fun x hx => h x (List.mem_cons_of_mem _ hx)
    have := h y (by simp)
    omega
end Go.Sy

/- Contracts of the program's functions over abstract values. By gen.py. -/
set_option linter.unusedVariables false
set_option linter.unusedSimpArgs false
set_option maxRecDepth 100000
set_option maxHeartbeats 4000000
namespace Go.Sy
open Go.Proofs
attribute [local go_sem] runO_t runO_f band_t band_f bor_t bor_f bnot_t bnot_f gdK_tt gdK_ff gdK_tf gdK_ft brK_t brK_f runE_some runF_some runA_some runG_some runB_some runX_some runR_some run_nil run_skip run_seq run_region run_block run_blk run_exit run_cond run_ret run_loop run_lp run_opsNil run_opsOrd run_opsOp run_opsGuard run_cl run_gd run_br run_fin run_clx run_fst run_callf runY_t runY_f runS_some runV_t runV_f aBuildK_t aBuildK_f Mode.plain run_move run_nilCheck run_assign run_pick run_alloc run_box run_build run_buildSlice run_load run_store run_binOp run_unOp run_convert run_slice run_fieldAddr run_indexAddr run_index run_field run_extract run_makeInterface run_makeFunc run_len run_max run_min run_append St.ev St.evl St.evs St.evo capsOf callOf look drop put putAll toTV_nil toTV_int toTV_bool toTV_str toTV_ptr toTV_ifc toTV_fn toAV_nil toAV_int toAV_bool toAV_str toAV_ptr toAV_ifc toAV_fn aAssign_nil aAssign_tmp aAssign_int aAssign_bool aAssign_str aAssign_ptr aAssign_nilf aAssign_ifc aAssign_func aAssign_glob nilConst_slice nilConst_ptr nilConst_ifc nilConst_tmp plain Option.bind TV.cells TV.one AVone_v AVone_sl AVone_agg AVone_ref AVone_fn AVone_ifc AVone_sent Value.oneCell' oneVs avOf avsOf expo expos expoC exposC TV.isC allC fillsT aBuildT lendR ren renT0 renC renT renO renW xFoot xSt newIds retX retXs isT0 asList List.map St.app setD St.setT ownD trA effFoot callFoot callSt callReq St.fresh freshT freshO allFresh TV.ment TVs.ment SObj.ment fsts mentW noFoot List.contains List.elem aPick aAlloc aBox aBuild aBuildSlice nonNil allSz aUn aConv aField aIndex aByte aPart aExtract aIface aFunc aLen ty1 aMax aApp aAppend aCheck emptyL aSlice okHd hdOK_nil hdOK_cons aLoad aStore aBin aNil sBin sInt isSh sameSh nilness fills fillAt fillTV putCells intOf? mkInt AVcells_v AVcells_sl AVcells_agg AVcells_ref AVcells_fn AVcells_ifc AVcells_sent St.g0 St.g guardOf guardOff udf argsOf lends lendBox bindRes bindR bindRs flatR flatV boolOf retItems retItems0 retItem rowsOf disjB ownIds resIds nodupB St.init initT popTo cond_true cond_false Option.getD Option.map List.take List.drop List.length List.zip List.zipWith List.range List.range.loop List.append List.foldr List.nil_append List.cons_append List.append_nil List.getElem?_cons_zero List.getElem?_cons_succ GetElem?.getElem? List.get?Internal Int.toNat_natCast cst0 cst1 cst2 cst3 cst4 cst5 cst6 cst7 cst8 cst9 cst10 cst11 toNat0 toNat1 toNat2 toNat3 getD0 getD1 getD2 getD3 run_zero memN keepT dropO St.re leT leO D_q2  D_q3  D_q4  D_q5  D_q9  D_q12  D_q21  D_q22  D_q24  D_q25  D_q27  D_q28  D_q32  D_q46  D_q48  D_q50  D_q52  D_q53  D_q54  D_q56  D_q57  D_q61  D_q70  D_q72  D_q76  D_q77  D_q79  D_q80  D_q83  D_q85  D_q91  D_q93  D_q104  D_q108  D_q115  D_q118  D_q121  D_q134  D_q136  D_q137
section
variable {W0 : World} {κ : Nat → Addr} {GG : Nat → Option AV}

theorem heavy_fine {d : Dat} (h : ¬ heavyD d) : fine d := weigh_fine (bt := 3000) (bm := 3000) (dv := true) (x := 3000) (by omega) (by omega) (by omega) (Int.not_lt.1 h)
theorem heavy_cnt {d : Dat} (h : ¬ heavyD d) : cnt d ≤ 3000 := by
  have h0 : 0 ≤ weighD 3000 3000 true d 3000 := Int.not_lt.1 h
  rcases weighD_le 3000 3000 true d 3000 with h3 | h3 | h3 <;> omega
theorem list_fine {l : List Dat} (h : ∀ x ∈ l, ¬ heavyD x) (hl : l.length ≤ 50) : fine (listD l) := by
  refine ⟨?_, ?_⟩
  · rw [cnt_list]
    have := cntL_le l 3000 fun x hx => heavy_cnt (h x hx)
    have := Nat.mul_le_mul_right 3000 hl
    omega
  · unfold listD
    clear hl
    induction l with
    | nil => exact fine_nil.2
    | cons x l ih =>
      rw [listE]
      exact ⟨by decide, by decide, (heavy_fine (h x (by simp))).2, ih fun y hy => h y (List.mem_cons_of_mem _ hy), trivial⟩
theorem D_heavy_t {d : Dat} (h : heavyD d) : Sound (CD W0 κ GG) 15 [encD d] [.av (.v (.bool true))] := by
  have h1 := D_heavy3 (W0 := W0) (κ := κ) (GG := GG) d
  have e1 : decide (heavyD d) = true := by simpa using h
  simpa only [e1] using h1
theorem D_heavy_f {d : Dat} (h : ¬ heavyD d) : Sound (CD W0 κ GG) 15 [encD d] [.av (.v (.bool false))] := by
  have h1 := D_heavy3 (W0 := W0) (κ := κ) (GG := GG) d
  have e1 : decide (heavyD d) = false := by simpa using h
  simpa only [e1] using h1
theorem D_law_like (hU : D_Tabs W0) (a b : Dat) (l : List Dat) (hlm : l.length ≤ maxLen) : Sound (CD W0 κ GG) 5 [encD a, encD b, .sl (encL l)] [.av (.v (.bool true))] := by
  have hw := D_awake (W0 := W0) (κ := κ) (GG := GG) hU
  have hll := encL_length l
  by_cases h1 : heavyD a
  · have ha := D_heavy_t (W0 := W0) (κ := κ) (GG := GG) h1
    obtain ⟨k, c, neg, mag, t, la⟩ := a
    obtain ⟨k', c', neg', mag', t', lb⟩ := b
    simp only [encD] at ha
    (refine Sound.of_go D_ok D_mix Tryd.func5 rfl (by decide) (by kernel_rfl) (GC.go ?_); refine GC_run2 4000 ?_; dsimp only [Tryd.f5, CD, go_sem, Nat.reduceBEq, Nat.reduceAdd, Nat.reduceMul, Nat.reduceSub, Int.reduceBEq, Int.reduceBNe, Int.reduceAdd, Int.reduceSub, Int.reduceMul, Int.reduceToNat, Int.reduceNeg, encD])
    (refine GC.call (by first | rfl | (simp; done) | (simp [hdOK_encU, hdOK_encL, allSz_encU, allSz_encL, encU_length, encL_length, encD_one, encD_cells, AVone_v, AVone_sl, AVone_agg, AVone_ref, AVone_fn, AVone_ifc, AVcells_v, AVcells_sl, AVcells_agg, AVcells_ref, AVcells_fn, AVcells_ifc, Value.oneCell', allSz]; done) | (simp [hdOK_encU, hdOK_encL, allSz_encU, allSz_encL, encU_length, encL_length, encD_one, encD_cells, AVone_v, AVone_sl, AVone_agg, AVone_ref, AVone_fn, AVone_ifc, AVcells_v, AVcells_sl, AVcells_agg, AVcells_ref, AVcells_fn, AVcells_ifc, Value.oneCell', allSz]; omega)) (ha) ?_; refine GC_run2 4000 ?_; dsimp only [go_sem, Nat.reduceBEq, Nat.reduceAdd, Nat.reduceMul, Nat.reduceSub, Int.reduceBEq, Int.reduceBNe, Int.reduceAdd, Int.reduceSub, Int.reduceMul, Int.reduceToNat, Int.reduceNeg])
    (refine GC.call (by first | rfl | (simp; done) | (simp [hdOK_encU, hdOK_encL, allSz_encU, allSz_encL, encU_length, encL_length, encD_one, encD_cells, AVone_v, AVone_sl, AVone_agg, AVone_ref, AVone_fn, AVone_ifc, AVcells_v, AVcells_sl, AVcells_agg, AVcells_ref, AVcells_fn, AVcells_ifc, Value.oneCell', allSz]; done) | (simp [hdOK_encU, hdOK_encL, allSz_encU, allSz_encL, encU_length, encL_length, encD_one, encD_cells, AVone_v, AVone_sl, AVone_agg, AVone_ref, AVone_fn, AVone_ifc, AVcells_v, AVcells_sl, AVcells_agg, AVcells_ref, AVcells_fn, AVcells_ifc, Value.oneCell', allSz]; omega)) (hw) ?_; refine GC_run2 4000 ?_; dsimp only [go_sem, Nat.reduceBEq, Nat.reduceAdd, Nat.reduceMul, Nat.reduceSub, Int.reduceBEq, Int.reduceBNe, Int.reduceAdd, Int.reduceSub, Int.reduceMul, Int.reduceToNat, Int.reduceNeg])
    refine GC.finE (by first | rfl | (simp; done) | (simp [hdOK_encU, hdOK_encL, allSz_encU, allSz_encL, encU_length, encL_length, encD_one, encD_cells, AVone_v, AVone_sl, AVone_agg, AVone_ref, AVone_fn, AVone_ifc, AVcells_v, AVcells_sl, AVcells_agg, AVcells_ref, AVcells_fn, AVcells_ifc, Value.oneCell', allSz]; done) | (simp [hdOK_encU, hdOK_encL, allSz_encU, allSz_encL, encU_length, encL_length, encD_one, encD_cells, AVone_v, AVone_sl, AVone_agg, AVone_ref, AVone_fn, AVone_ifc, AVcells_v, AVcells_sl, AVcells_agg, AVcells_ref, AVcells_fn, AVcells_ifc, Value.oneCell', allSz]; omega)) ?_
    rfl
  have ha := D_heavy_f (W0 := W0) (κ := κ) (GG := GG) h1
  by_cases h2 : heavyD b
  · have hb := D_heavy_t (W0 := W0) (κ := κ) (GG := GG) h2
    obtain ⟨k, c, neg, mag, t, la⟩ := a
    obtain ⟨k', c', neg', mag', t', lb⟩ := b
    simp only [encD] at ha hb
    (refine Sound.of_go D_ok D_mix Tryd.func5 rfl (by decide) (by kernel_rfl) (GC.go ?_); refine GC_run2 4000 ?_; dsimp only [Tryd.f5, CD, go_sem, Nat.reduceBEq, Nat.reduceAdd, Nat.reduceMul, Nat.reduceSub, Int.reduceBEq, Int.reduceBNe, Int.reduceAdd, Int.reduceSub, Int.reduceMul, Int.reduceToNat, Int.reduceNeg, encD])
    (refine GC.call (by first | rfl | (simp; done) | (simp [hdOK_encU, hdOK_encL, allSz_encU, allSz_encL, encU_length, encL_length, encD_one, encD_cells, AVone_v, AVone_sl, AVone_agg, AVone_ref, AVone_fn, AVone_ifc, AVcells_v, AVcells_sl, AVcells_agg, AVcells_ref, AVcells_fn, AVcells_ifc, Value.oneCell', allSz]; done) | (simp [hdOK_encU, hdOK_encL, allSz_encU, allSz_encL, encU_length, encL_length, encD_one, encD_cells, AVone_v, AVone_sl, AVone_agg, AVone_ref, AVone_fn, AVone_ifc, AVcells_v, AVcells_sl, AVcells_agg, AVcells_ref, AVcells_fn, AVcells_ifc, Value.oneCell', allSz]; omega)) (ha) ?_; refine GC_run2 4000 ?_; dsimp only [go_sem, Nat.reduceBEq, Nat.reduceAdd, Nat.reduceMul, Nat.reduceSub, Int.reduceBEq, Int.reduceBNe, Int.reduceAdd, Int.reduceSub, Int.reduceMul, Int.reduceToNat, Int.reduceNeg])
    (refine GC.call (by first | rfl | (simp; done) | (simp [hdOK_encU, hdOK_encL, allSz_encU, allSz_encL, encU_length, encL_length, encD_one, encD_cells, AVone_v, AVone_sl, AVone_agg, AVone_ref, AVone_fn, AVone_ifc, AVcells_v, AVcells_sl, AVcells_agg, AVcells_ref, AVcells_fn, AVcells_ifc, Value.oneCell', allSz]; done) | (simp [hdOK_encU, hdOK_encL, allSz_encU, allSz_encL, encU_length, encL_length, encD_one, encD_cells, AVone_v, AVone_sl, AVone_agg, AVone_ref, AVone_fn, AVone_ifc, AVcells_v, AVcells_sl, AVcells_agg, AVcells_ref, AVcells_fn, AVcells_ifc, Value.oneCell', allSz]; omega)) (hb) ?_; refine GC_run2 4000 ?_; dsimp only [go_sem, Nat.reduceBEq, Nat.reduceAdd, Nat.reduceMul, Nat.reduceSub, Int.reduceBEq, Int.reduceBNe, Int.reduceAdd, Int.reduceSub, Int.reduceMul, Int.reduceToNat, Int.reduceNeg])
    (refine GC.call (by first | rfl | (simp; done) | (simp [hdOK_encU, hdOK_encL, allSz_encU, allSz_encL, encU_length, encL_length, encD_one, encD_cells, AVone_v, AVone_sl, AVone_agg, AVone_ref, AVone_fn, AVone_ifc, AVcells_v, AVcells_sl, AVcells_agg, AVcells_ref, AVcells_fn, AVcells_ifc, Value.oneCell', allSz]; done) | (simp [hdOK_encU, hdOK_encL, allSz_encU, allSz_encL, encU_length, encL_length, encD_one, encD_cells, AVone_v, AVone_sl, AVone_agg, AVone_ref, AVone_fn, AVone_ifc, AVcells_v, AVcells_sl, AVcells_agg, AVcells_ref, AVcells_fn, AVcells_ifc, Value.oneCell', allSz]; omega)) (hw) ?_; refine GC_run2 4000 ?_; dsimp only [go_sem, Nat.reduceBEq, Nat.reduceAdd, Nat.reduceMul, Nat.reduceSub, Int.reduceBEq, Int.reduceBNe, Int.reduceAdd, Int.reduceSub, Int.reduceMul, Int.reduceToNat, Int.reduceNeg])
    refine GC.finE (by first | rfl | (simp; done) | (simp [hdOK_encU, hdOK_encL, allSz_encU, allSz_encL, encU_length, encL_length, encD_one, encD_cells, AVone_v, AVone_sl, AVone_agg, AVone_ref, AVone_fn, AVone_ifc, AVcells_v, AVcells_sl, AVcells_agg, AVcells_ref, AVcells_fn, AVcells_ifc, Value.oneCell', allSz]; done) | (simp [hdOK_encU, hdOK_encL, allSz_encU, allSz_encL, encU_length, encL_length, encD_one, encD_cells, AVone_v, AVone_sl, AVone_agg, AVone_ref, AVone_fn, AVone_ifc, AVcells_v, AVcells_sl, AVcells_agg, AVcells_ref, AVcells_fn, AVcells_ifc, Value.oneCell', allSz]; omega)) ?_
    rfl
  have hb := D_heavy_f (W0 := W0) (κ := κ) (GG := GG) h2
  by_cases h3 : 50 < l.length
  · have hd : decide (((encL l).length : Int) > 50) = true := by simp; omega
    obtain ⟨k, c, neg, mag, t, la⟩ := a
    obtain ⟨k', c', neg', mag', t', lb⟩ := b
    simp only [encD] at ha hb
    (refine Sound.of_go D_ok D_mix Tryd.func5 rfl (by decide) (by kernel_rfl) (GC.go ?_); refine GC_run2 4000 ?_; dsimp only [Tryd.f5, CD, go_sem, Nat.reduceBEq, Nat.reduceAdd, Nat.reduceMul, Nat.reduceSub, Int.reduceBEq, Int.reduceBNe, Int.reduceAdd, Int.reduceSub, Int.reduceMul, Int.reduceToNat, Int.reduceNeg, encD])
    (refine GC.call (by first | rfl | (simp; done) | (simp [hdOK_encU, hdOK_encL, allSz_encU, allSz_encL, encU_length, encL_length, encD_one, encD_cells, AVone_v, AVone_sl, AVone_agg, AVone_ref, AVone_fn, AVone_ifc, AVcells_v, AVcells_sl, AVcells_agg, AVcells_ref, AVcells_fn, AVcells_ifc, Value.oneCell', allSz]; done) | (simp [hdOK_encU, hdOK_encL, allSz_encU, allSz_encL, encU_length, encL_length, encD_one, encD_cells, AVone_v, AVone_sl, AVone_agg, AVone_ref, AVone_fn, AVone_ifc, AVcells_v, AVcells_sl, AVcells_agg, AVcells_ref, AVcells_fn, AVcells_ifc, Value.oneCell', allSz]; omega)) (ha) ?_; refine GC_run2 4000 ?_; dsimp only [go_sem, Nat.reduceBEq, Nat.reduceAdd, Nat.reduceMul, Nat.reduceSub, Int.reduceBEq, Int.reduceBNe, Int.reduceAdd, Int.reduceSub, Int.reduceMul, Int.reduceToNat, Int.reduceNeg])
    (refine GC.call (by first | rfl | (simp; done) | (simp [hdOK_encU, hdOK_encL, allSz_encU, allSz_encL, encU_length, encL_length, encD_one, encD_cells, AVone_v, AVone_sl, AVone_agg, AVone_ref, AVone_fn, AVone_ifc, AVcells_v, AVcells_sl, AVcells_agg, AVcells_ref, AVcells_fn, AVcells_ifc, Value.oneCell', allSz]; done) | (simp [hdOK_encU, hdOK_encL, allSz_encU, allSz_encL, encU_length, encL_length, encD_one, encD_cells, AVone_v, AVone_sl, AVone_agg, AVone_ref, AVone_fn, AVone_ifc, AVcells_v, AVcells_sl, AVcells_agg, AVcells_ref, AVcells_fn, AVcells_ifc, Value.oneCell', allSz]; omega)) (hb) ?_; refine GC_run2 4000 ?_; dsimp only [go_sem, Nat.reduceBEq, Nat.reduceAdd, Nat.reduceMul, Nat.reduceSub, Int.reduceBEq, Int.reduceBNe, Int.reduceAdd, Int.reduceSub, Int.reduceMul, Int.reduceToNat, Int.reduceNeg])
    (repeat (simp only [hd]; try (dsimp only [go_sem, Nat.reduceBEq, Nat.reduceAdd, Nat.reduceMul, Nat.reduceSub, Int.reduceBEq, Int.reduceBNe, Int.reduceAdd, Int.reduceSub, Int.reduceMul, Int.reduceToNat, Int.reduceNeg])))
    (refine GC.call (by first | rfl | (simp; done) | (simp [hdOK_encU, hdOK_encL, allSz_encU, allSz_encL, encU_length, encL_length, encD_one, encD_cells, AVone_v, AVone_sl, AVone_agg, AVone_ref, AVone_fn, AVone_ifc, AVcells_v, AVcells_sl, AVcells_agg, AVcells_ref, AVcells_fn, AVcells_ifc, Value.oneCell', allSz]; done) | (simp [hdOK_encU, hdOK_encL, allSz_encU, allSz_encL, encU_length, encL_length, encD_one, encD_cells, AVone_v, AVone_sl, AVone_agg, AVone_ref, AVone_fn, AVone_ifc, AVcells_v, AVcells_sl, AVcells_agg, AVcells_ref, AVcells_fn, AVcells_ifc, Value.oneCell', allSz]; omega)) (hw) ?_; refine GC_run2 4000 ?_; dsimp only [go_sem, Nat.reduceBEq, Nat.reduceAdd, Nat.reduceMul, Nat.reduceSub, Int.reduceBEq, Int.reduceBNe, Int.reduceAdd, Int.reduceSub, Int.reduceMul, Int.reduceToNat, Int.reduceNeg])
    refine GC.finE (by first | rfl | (simp; done) | (simp [hdOK_encU, hdOK_encL, allSz_encU, allSz_encL, encU_length, encL_length, encD_one, encD_cells, AVone_v, AVone_sl, AVone_agg, AVone_ref, AVone_fn, AVone_ifc, AVcells_v, AVcells_sl, AVcells_agg, AVcells_ref, AVcells_fn, AVcells_ifc, Value.oneCell', allSz]; done) | (simp [hdOK_encU, hdOK_encL, allSz_encU, allSz_encL, encU_length, encL_length, encD_one, encD_cells, AVone_v, AVone_sl, AVone_agg, AVone_ref, AVone_fn, AVone_ifc, AVcells_v, AVcells_sl, AVcells_agg, AVcells_ref, AVcells_fn, AVcells_ifc, Value.oneCell', allSz]; omega)) ?_
    rfl
  have hd : decide (((encL l).length : Int) > 50) = false := by simp; omega
  have fa := heavy_fine h1
  have fb := heavy_fine h2
  have s1 := D_same (W0 := W0) (κ := κ) (GG := GG) _ a b (Nat.le_refl _) fa fb
  have da := D_depth (W0 := W0) (κ := κ) (GG := GG) _ a (Nat.le_refl _) fa
  have ca := D_count (W0 := W0) (κ := κ) (GG := GG) _ a (Nat.le_refl _) fa
  have ma := D_may (W0 := W0) (κ := κ) (GG := GG) hU a fa
  have hsame : sameD a b = true → a = b := sameD_iff.1
  obtain ⟨k, c, neg, mag, t, la⟩ := a
  obtain ⟨k', c', neg', mag', t', lb⟩ := b
  simp only [encD] at ha hb s1 da ca ma
  generalize sameD (.mk k c neg mag t la) (.mk k' c' neg' mag' t' lb) = z at s1 hsame
  generalize depthD (.mk k c neg mag t la) = dda at *
  generalize cnt (.mk k c neg mag t la) = cca at *
  generalize mayD (.mk k c neg mag t la) = mma at *
  (refine Sound.of_go D_ok D_mix Tryd.func5 rfl (by decide) (by kernel_rfl) (GC.go ?_); refine GC_run2 4000 ?_; dsimp only [Tryd.f5, CD, go_sem, Nat.reduceBEq, Nat.reduceAdd, Nat.reduceMul, Nat.reduceSub, Int.reduceBEq, Int.reduceBNe, Int.reduceAdd, Int.reduceSub, Int.reduceMul, Int.reduceToNat, Int.reduceNeg, encD])
  (refine GC.call (by first | rfl | (simp; done) | (simp [hdOK_encU, hdOK_encL, allSz_encU, allSz_encL, encU_length, encL_length, encD_one, encD_cells, AVone_v, AVone_sl, AVone_agg, AVone_ref, AVone_fn, AVone_ifc, AVcells_v, AVcells_sl, AVcells_agg, AVcells_ref, AVcells_fn, AVcells_ifc, Value.oneCell', allSz]; done) | (simp [hdOK_encU, hdOK_encL, allSz_encU, allSz_encL, encU_length, encL_length, encD_one, encD_cells, AVone_v, AVone_sl, AVone_agg, AVone_ref, AVone_fn, AVone_ifc, AVcells_v, AVcells_sl, AVcells_agg, AVcells_ref, AVcells_fn, AVcells_ifc, Value.oneCell', allSz]; omega)) (ha) ?_; refine GC_run2 4000 ?_; dsimp only [go_sem, Nat.reduceBEq, Nat.reduceAdd, Nat.reduceMul, Nat.reduceSub, Int.reduceBEq, Int.reduceBNe, Int.reduceAdd, Int.reduceSub, Int.reduceMul, Int.reduceToNat, Int.reduceNeg])
  (refine GC.call (by first | rfl | (simp; done) | (simp [hdOK_encU, hdOK_encL, allSz_encU, allSz_encL, encU_length, encL_length, encD_one, encD_cells, AVone_v, AVone_sl, AVone_agg, AVone_ref, AVone_fn, AVone_ifc, AVcells_v, AVcells_sl, AVcells_agg, AVcells_ref, AVcells_fn, AVcells_ifc, Value.oneCell', allSz]; done) | (simp [hdOK_encU, hdOK_encL, allSz_encU, allSz_encL, encU_length, encL_length, encD_one, encD_cells, AVone_v, AVone_sl, AVone_agg, AVone_ref, AVone_fn, AVone_ifc, AVcells_v, AVcells_sl, AVcells_agg, AVcells_ref, AVcells_fn, AVcells_ifc, Value.oneCell', allSz]; omega)) (hb) ?_; refine GC_run2 4000 ?_; dsimp only [go_sem, Nat.reduceBEq, Nat.reduceAdd, Nat.reduceMul, Nat.reduceSub, Int.reduceBEq, Int.reduceBNe, Int.reduceAdd, Int.reduceSub, Int.reduceMul, Int.reduceToNat, Int.reduceNeg])
  (repeat (simp only [hd]; try (dsimp only [go_sem, Nat.reduceBEq, Nat.reduceAdd, Nat.reduceMul, Nat.reduceSub, Int.reduceBEq, Int.reduceBNe, Int.reduceAdd, Int.reduceSub, Int.reduceMul, Int.reduceToNat, Int.reduceNeg])))
  refine GC.loopR (by first | rfl | (simp; done) | (simp [hdOK_encU, hdOK_encL, allSz_encU, allSz_encL, encU_length, encL_length, encD_one, encD_cells, AVone_v, AVone_sl, AVone_agg, AVone_ref, AVone_fn, AVone_ifc, AVcells_v, AVcells_sl, AVcells_agg, AVcells_ref, AVcells_fn, AVcells_ifc, Value.oneCell', allSz]; done) | (simp [hdOK_encU, hdOK_encL, allSz_encU, allSz_encL, encU_length, encL_length, encD_one, encD_cells, AVone_v, AVone_sl, AVone_agg, AVone_ref, AVone_fn, AVone_ifc, AVcells_v, AVcells_sl, AVcells_agg, AVcells_ref, AVcells_fn, AVcells_ifc, Value.oneCell', allSz]; omega)) l.length [2, 3, 4] (fun j => [(7, .av (.v (.int .i64 (deep (l.take j) : Nat)))), (8, .av (.v (.int .i64 ((1 + j + cntL (l.take j) : Nat) : Int)))), (9, .av (.v (.int .i64 j)))]) (fun j => []) (fun j => ∀ x ∈ l.take j, ¬ heavyD x) ⟨rfl, rfl, rfl, trivial⟩ trivial (by simp) (fun j hj hI => ?_)
  rcases Nat.lt_or_ge j l.length with hlt | hge
  · have hd1 : decide ((j : Int) < (encL l).length) = true := by simp [hll]; omega
    have hx : (encL l).getD j dflt = _ := encL_get hlt
    have htk : l.take (j + 1) = l.take j ++ [l[j]] := List.take_succ_eq_append_getElem hlt
    by_cases hh : heavyD l[j]
    · have hx1 := D_heavy_t (W0 := W0) (κ := κ) (GG := GG) hh
      generalize l[j] = x at *
      obtain ⟨xk, xc, xneg, xmag, xt, xl⟩ := x
      simp only [encD] at hx hx1
      (refine GC_run2 4000 ?_; dsimp only [go_sem, Nat.reduceBEq, Nat.reduceAdd, Nat.reduceMul, Nat.reduceSub, Int.reduceBEq, Int.reduceBNe, Int.reduceAdd, Int.reduceSub, Int.reduceMul, Int.reduceToNat, Int.reduceNeg])
      (repeat (simp only [hd1, hx]; try (dsimp only [go_sem, Nat.reduceBEq, Nat.reduceAdd, Nat.reduceMul, Nat.reduceSub, Int.reduceBEq, Int.reduceBNe, Int.reduceAdd, Int.reduceSub, Int.reduceMul, Int.reduceToNat, Int.reduceNeg])))
      (refine GC.call (by first | rfl | (simp; done) | (simp [hdOK_encU, hdOK_encL, allSz_encU, allSz_encL, encU_length, encL_length, encD_one, encD_cells, AVone_v, AVone_sl, AVone_agg, AVone_ref, AVone_fn, AVone_ifc, AVcells_v, AVcells_sl, AVcells_agg, AVcells_ref, AVcells_fn, AVcells_ifc, Value.oneCell', allSz]; done) | (simp [hdOK_encU, hdOK_encL, allSz_encU, allSz_encL, encU_length, encL_length, encD_one, encD_cells, AVone_v, AVone_sl, AVone_agg, AVone_ref, AVone_fn, AVone_ifc, AVcells_v, AVcells_sl, AVcells_agg, AVcells_ref, AVcells_fn, AVcells_ifc, Value.oneCell', allSz]; omega)) (hx1) ?_; refine GC_run2 4000 ?_; dsimp only [go_sem, Nat.reduceBEq, Nat.reduceAdd, Nat.reduceMul, Nat.reduceSub, Int.reduceBEq, Int.reduceBNe, Int.reduceAdd, Int.reduceSub, Int.reduceMul, Int.reduceToNat, Int.reduceNeg])
      (refine GC.call (by first | rfl | (simp; done) | (simp [hdOK_encU, hdOK_encL, allSz_encU, allSz_encL, encU_length, encL_length, encD_one, encD_cells, AVone_v, AVone_sl, AVone_agg, AVone_ref, AVone_fn, AVone_ifc, AVcells_v, AVcells_sl, AVcells_agg, AVcells_ref, AVcells_fn, AVcells_ifc, Value.oneCell', allSz]; done) | (simp [hdOK_encU, hdOK_encL, allSz_encU, allSz_encL, encU_length, encL_length, encD_one, encD_cells, AVone_v, AVone_sl, AVone_agg, AVone_ref, AVone_fn, AVone_ifc, AVcells_v, AVcells_sl, AVcells_agg, AVcells_ref, AVcells_fn, AVcells_ifc, Value.oneCell', allSz]; omega)) (hw) ?_; refine GC_run2 4000 ?_; dsimp only [go_sem, Nat.reduceBEq, Nat.reduceAdd, Nat.reduceMul, Nat.reduceSub, Int.reduceBEq, Int.reduceBNe, Int.reduceAdd, Int.reduceSub, Int.reduceMul, Int.reduceToNat, Int.reduceNeg])
      refine GC.finE (by first | rfl | (simp; done) | (simp [hdOK_encU, hdOK_encL, allSz_encU, allSz_encL, encU_length, encL_length, encD_one, encD_cells, AVone_v, AVone_sl, AVone_agg, AVone_ref, AVone_fn, AVone_ifc, AVcells_v, AVcells_sl, AVcells_agg, AVcells_ref, AVcells_fn, AVcells_ifc, Value.oneCell', allSz]; done) | (simp [hdOK_encU, hdOK_encL, allSz_encU, allSz_encL, encU_length, encL_length, encD_one, encD_cells, AVone_v, AVone_sl, AVone_agg, AVone_ref, AVone_fn, AVone_ifc, AVcells_v, AVcells_sl, AVcells_agg, AVcells_ref, AVcells_fn, AVcells_ifc, Value.oneCell', allSz]; omega)) ?_
      rfl
    · have hx1 := D_heavy_f (W0 := W0) (κ := κ) (GG := GG) hh
      have fx := heavy_fine hh
      have hx2 := D_depth (W0 := W0) (κ := κ) (GG := GG) _ _ (Nat.le_refl _) fx
      have hx3 := D_count (W0 := W0) (κ := κ) (GG := GG) _ _ (Nat.le_refl _) fx
      have hb1 := depthD_le l[j]
      have hb2 := fx.1
      have hb3 := deep_le (l.take j) 1099511627776 fun y hy => by have := (heavy_fine (hI y hy)).1; have := depthD_le y; omega
      have hb4 := cntL_le (l.take j) 1099511627776 fun y hy => by have := (heavy_fine (hI y hy)).1; omega
      have hb5 : (l.take j).length = j := by rw [List.length_take]; omega
      rw [hb5] at hb4
      have hI2 : ∀ y ∈ l.take (j + 1), ¬ heavyD y := by
        intro y hy
        rw [htk, List.mem_append] at hy
        rcases hy with hy | hy
        · exact hI y hy
        · simp at hy; subst hy; exact hh
      have hdp := deep_snoc (l.take j) l[j]
      have hcn := cntL_snoc (l.take j) l[j]
      rw [← htk] at hdp hcn
      generalize l[j] = x at *
      generalize depthD x = dx at *
      generalize cnt x = cx at *
      generalize deep (l.take j) = dj at *
      generalize cntL (l.take j) = cj at *
      obtain ⟨xk, xc, xneg, xmag, xt, xl⟩ := x
      simp only [encD] at hx hx1 hx2 hx3
      have w1 : IntKind.i64.wrap ((dx : Int) + 1) = ((dx + 1 : Nat) : Int) := by rw [wrap_i64 (by omega) (by omega)]; omega
      (refine GC_run2 4000 ?_; dsimp only [go_sem, Nat.reduceBEq, Nat.reduceAdd, Nat.reduceMul, Nat.reduceSub, Int.reduceBEq, Int.reduceBNe, Int.reduceAdd, Int.reduceSub, Int.reduceMul, Int.reduceToNat, Int.reduceNeg])
      (repeat (simp only [hd1, hx]; try (dsimp only [go_sem, Nat.reduceBEq, Nat.reduceAdd, Nat.reduceMul, Nat.reduceSub, Int.reduceBEq, Int.reduceBNe, Int.reduceAdd, Int.reduceSub, Int.reduceMul, Int.reduceToNat, Int.reduceNeg])))
      (refine GC.call (by first | rfl | (simp; done) | (simp [hdOK_encU, hdOK_encL, allSz_encU, allSz_encL, encU_length, encL_length, encD_one, encD_cells, AVone_v, AVone_sl, AVone_agg, AVone_ref, AVone_fn, AVone_ifc, AVcells_v, AVcells_sl, AVcells_agg, AVcells_ref, AVcells_fn, AVcells_ifc, Value.oneCell', allSz]; done) | (simp [hdOK_encU, hdOK_encL, allSz_encU, allSz_encL, encU_length, encL_length, encD_one, encD_cells, AVone_v, AVone_sl, AVone_agg, AVone_ref, AVone_fn, AVone_ifc, AVcells_v, AVcells_sl, AVcells_agg, AVcells_ref, AVcells_fn, AVcells_ifc, Value.oneCell', allSz]; omega)) (hx1) ?_; refine GC_run2 4000 ?_; dsimp only [go_sem, Nat.reduceBEq, Nat.reduceAdd, Nat.reduceMul, Nat.reduceSub, Int.reduceBEq, Int.reduceBNe, Int.reduceAdd, Int.reduceSub, Int.reduceMul, Int.reduceToNat, Int.reduceNeg])
      (repeat (simp only [hx]; try (dsimp only [go_sem, Nat.reduceBEq, Nat.reduceAdd, Nat.reduceMul, Nat.reduceSub, Int.reduceBEq, Int.reduceBNe, Int.reduceAdd, Int.reduceSub, Int.reduceMul, Int.reduceToNat, Int.reduceNeg])))
      (refine GC.call (by first | rfl | (simp; done) | (simp [hdOK_encU, hdOK_encL, allSz_encU, allSz_encL, encU_length, encL_length, encD_one, encD_cells, AVone_v, AVone_sl, AVone_agg, AVone_ref, AVone_fn, AVone_ifc, AVcells_v, AVcells_sl, AVcells_agg, AVcells_ref, AVcells_fn, AVcells_ifc, Value.oneCell', allSz]; done) | (simp [hdOK_encU, hdOK_encL, allSz_encU, allSz_encL, encU_length, encL_length, encD_one, encD_cells, AVone_v, AVone_sl, AVone_agg, AVone_ref, AVone_fn, AVone_ifc, AVcells_v, AVcells_sl, AVcells_agg, AVcells_ref, AVcells_fn, AVcells_ifc, Value.oneCell', allSz]; omega)) (hx2) ?_; refine GC_run2 4000 ?_; dsimp only [go_sem, Nat.reduceBEq, Nat.reduceAdd, Nat.reduceMul, Nat.reduceSub, Int.reduceBEq, Int.reduceBNe, Int.reduceAdd, Int.reduceSub, Int.reduceMul, Int.reduceToNat, Int.reduceNeg])
      have wm : (if ((dx + 1 : Nat) : Int) > (dj : Int) then ((dx + 1 : Nat) : Int) else (dj : Int)) = ((max dj (dx + 1) : Nat) : Int) := by split <;> omega
      have w2 : IntKind.i64.wrap (((1 + j + cj : Nat) : Int) + 1) = ((1 + j + cj : Nat) : Int) + 1 := wrap_i64 (by omega) (by omega)
      have w3 : IntKind.i64.wrap (((1 + j + cj : Nat) : Int) + 1 + cx) = ((1 + (j + 1) + (cj + cx) : Nat) : Int) := by rw [wrap_i64 (by omega) (by omega)]; omega
      have w4 : IntKind.i64.wrap ((j : Int) + 1) = ((j + 1 : Nat) : Int) := by rw [wrap_i64 (by omega) (by omega)]; omega
      rw [← hdp] at wm
      rw [← hcn] at w3
      (repeat (simp only [w1, hx]; try (dsimp only [go_sem, Nat.reduceBEq, Nat.reduceAdd, Nat.reduceMul, Nat.reduceSub, Int.reduceBEq, Int.reduceBNe, Int.reduceAdd, Int.reduceSub, Int.reduceMul, Int.reduceToNat, Int.reduceNeg])))
      (refine GC.call (by first | rfl | (simp; done) | (simp [hdOK_encU, hdOK_encL, allSz_encU, allSz_encL, encU_length, encL_length, encD_one, encD_cells, AVone_v, AVone_sl, AVone_agg, AVone_ref, AVone_fn, AVone_ifc, AVcells_v, AVcells_sl, AVcells_agg, AVcells_ref, AVcells_fn, AVcells_ifc, Value.oneCell', allSz]; done) | (simp [hdOK_encU, hdOK_encL, allSz_encU, allSz_encL, encU_length, encL_length, encD_one, encD_cells, AVone_v, AVone_sl, AVone_agg, AVone_ref, AVone_fn, AVone_ifc, AVcells_v, AVcells_sl, AVcells_agg, AVcells_ref, AVcells_fn, AVcells_ifc, Value.oneCell', allSz]; omega)) (hx3) ?_; refine GC_run2 4000 ?_; dsimp only [go_sem, Nat.reduceBEq, Nat.reduceAdd, Nat.reduceMul, Nat.reduceSub, Int.reduceBEq, Int.reduceBNe, Int.reduceAdd, Int.reduceSub, Int.reduceMul, Int.reduceToNat, Int.reduceNeg])
      (refine GC.backR ((by first | (simp [hdOK_encU, hdOK_encL, allSz_encU, allSz_encL, encU_length, encL_length, encD_one, encD_cells, AVone_v, AVone_sl, AVone_agg, AVone_ref, AVone_fn, AVone_ifc, AVcells_v, AVcells_sl, AVcells_agg, AVcells_ref, AVcells_fn, AVcells_ifc, Value.oneCell', allSz, hll]; done) | (simp [hdOK_encU, hdOK_encL, allSz_encU, allSz_encL, encU_length, encL_length, encD_one, encD_cells, AVone_v, AVone_sl, AVone_agg, AVone_ref, AVone_fn, AVone_ifc, AVcells_v, AVcells_sl, AVcells_agg, AVcells_ref, AVcells_fn, AVcells_ifc, Value.oneCell', allSz, hll]; omega))) (by omega) (hI2) ?_ ?_ <;> (repeat' (first | exact trivial | refine And.intro ?_ ?_)) <;> (try (dsimp only [go_sem, Nat.reduceBEq, Nat.reduceAdd, Nat.reduceMul, Nat.reduceSub, Int.reduceBEq, Int.reduceBNe, Int.reduceAdd, Int.reduceSub, Int.reduceMul, Int.reduceToNat, Int.reduceNeg])))
      · exact congrArg (fun n => some (TV.av (.v (.int .i64 n)))) wm
      · rw [w2]
        exact congrArg (fun n => some (TV.av (.v (.int .i64 n)))) w3
      · exact congrArg (fun n => some (TV.av (.v (.int .i64 n)))) w4
  · have : j = l.length := by omega
    subst this
    rw [List.take_length] at hI
    simp only [List.take_length]
    have hd1 : decide ((l.length : Int) < (encL l).length) = false := by simp [hll]
    have cL := D_list (W0 := W0) (κ := κ) (GG := GG) l (by omega) (fun x hx => heavy_fine (hI x hx))
    have hb3 := deep_le l 1099511627776 fun y hy => by have := (heavy_fine (hI y hy)).1; have := depthD_le y; omega
    have fL : fine (listD l) := list_fine hI (by omega)
    have dL := D_depth (W0 := W0) (κ := κ) (GG := GG) _ _ (Nat.le_refl _) fL
    have nL := D_count (W0 := W0) (κ := κ) (GG := GG) _ _ (Nat.le_refl _) fL
    rw [depth_list] at dL
    rw [cnt_list] at nL
    have hz1 : ((deep l : Int) == (deep l : Int)) = true := by simp
    have hz2 : ((cntL l + l.length + 1 : Nat) : Int) = ((1 + l.length + cntL l : Nat) : Int) := by omega
    rw [hz2] at nL
    have hz3 : (((1 + l.length + cntL l : Nat) : Int) == ((1 + l.length + cntL l : Nat) : Int)) = true := by simp
    generalize listD l = L at *
    obtain ⟨Lk, Lc, Lneg, Lmag, Lt, Ll⟩ := L
    simp only [encD] at cL dL nL
    cases z with
    | false =>
      (refine GC_run2 4000 ?_; dsimp only [go_sem, Nat.reduceBEq, Nat.reduceAdd, Nat.reduceMul, Nat.reduceSub, Int.reduceBEq, Int.reduceBNe, Int.reduceAdd, Int.reduceSub, Int.reduceMul, Int.reduceToNat, Int.reduceNeg])
      (repeat (simp only [hd1]; try (dsimp only [go_sem, Nat.reduceBEq, Nat.reduceAdd, Nat.reduceMul, Nat.reduceSub, Int.reduceBEq, Int.reduceBNe, Int.reduceAdd, Int.reduceSub, Int.reduceMul, Int.reduceToNat, Int.reduceNeg])))
      (refine GC.call (by first | rfl | (simp; done) | (simp [hdOK_encU, hdOK_encL, allSz_encU, allSz_encL, encU_length, encL_length, encD_one, encD_cells, AVone_v, AVone_sl, AVone_agg, AVone_ref, AVone_fn, AVone_ifc, AVcells_v, AVcells_sl, AVcells_agg, AVcells_ref, AVcells_fn, AVcells_ifc, Value.oneCell', allSz]; done) | (simp [hdOK_encU, hdOK_encL, allSz_encU, allSz_encL, encU_length, encL_length, encD_one, encD_cells, AVone_v, AVone_sl, AVone_agg, AVone_ref, AVone_fn, AVone_ifc, AVcells_v, AVcells_sl, AVcells_agg, AVcells_ref, AVcells_fn, AVcells_ifc, Value.oneCell', allSz]; omega)) (s1) ?_; refine GC_run2 4000 ?_; dsimp only [go_sem, Nat.reduceBEq, Nat.reduceAdd, Nat.reduceMul, Nat.reduceSub, Int.reduceBEq, Int.reduceBNe, Int.reduceAdd, Int.reduceSub, Int.reduceMul, Int.reduceToNat, Int.reduceNeg])
      (refine GC.ord (by first | rfl | (simp; done) | (simp [hdOK_encU, hdOK_encL, allSz_encU, allSz_encL, encU_length, encL_length, encD_one, encD_cells, AVone_v, AVone_sl, AVone_agg, AVone_ref, AVone_fn, AVone_ifc, AVcells_v, AVcells_sl, AVcells_agg, AVcells_ref, AVcells_fn, AVcells_ifc, Value.oneCell', allSz]; done) | (simp [hdOK_encU, hdOK_encL, allSz_encU, allSz_encL, encU_length, encL_length, encD_one, encD_cells, AVone_v, AVone_sl, AVone_agg, AVone_ref, AVone_fn, AVone_ifc, AVcells_v, AVcells_sl, AVcells_agg, AVcells_ref, AVcells_fn, AVcells_ifc, Value.oneCell', allSz]; omega)) (by kernel_rfl) (by kernel_rfl) ?_; refine GC_run2 4000 ?_; dsimp only [go_sem, Nat.reduceBEq, Nat.reduceAdd, Nat.reduceMul, Nat.reduceSub, Int.reduceBEq, Int.reduceBNe, Int.reduceAdd, Int.reduceSub, Int.reduceMul, Int.reduceToNat, Int.reduceNeg])
      (refine GC.call (by first | rfl | (simp; done) | (simp [hdOK_encU, hdOK_encL, allSz_encU, allSz_encL, encU_length, encL_length, encD_one, encD_cells, AVone_v, AVone_sl, AVone_agg, AVone_ref, AVone_fn, AVone_ifc, AVcells_v, AVcells_sl, AVcells_agg, AVcells_ref, AVcells_fn, AVcells_ifc, Value.oneCell', allSz]; done) | (simp [hdOK_encU, hdOK_encL, allSz_encU, allSz_encL, encU_length, encL_length, encD_one, encD_cells, AVone_v, AVone_sl, AVone_agg, AVone_ref, AVone_fn, AVone_ifc, AVcells_v, AVcells_sl, AVcells_agg, AVcells_ref, AVcells_fn, AVcells_ifc, Value.oneCell', allSz]; omega)) (cL) ?_; refine GC_run2 4000 ?_; dsimp only [go_sem, Nat.reduceBEq, Nat.reduceAdd, Nat.reduceMul, Nat.reduceSub, Int.reduceBEq, Int.reduceBNe, Int.reduceAdd, Int.reduceSub, Int.reduceMul, Int.reduceToNat, Int.reduceNeg])
      (refine GC.call (by first | rfl | (simp; done) | (simp [hdOK_encU, hdOK_encL, allSz_encU, allSz_encL, encU_length, encL_length, encD_one, encD_cells, AVone_v, AVone_sl, AVone_agg, AVone_ref, AVone_fn, AVone_ifc, AVcells_v, AVcells_sl, AVcells_agg, AVcells_ref, AVcells_fn, AVcells_ifc, Value.oneCell', allSz]; done) | (simp [hdOK_encU, hdOK_encL, allSz_encU, allSz_encL, encU_length, encL_length, encD_one, encD_cells, AVone_v, AVone_sl, AVone_agg, AVone_ref, AVone_fn, AVone_ifc, AVcells_v, AVcells_sl, AVcells_agg, AVcells_ref, AVcells_fn, AVcells_ifc, Value.oneCell', allSz]; omega)) (dL) ?_; refine GC_run2 4000 ?_; dsimp only [go_sem, Nat.reduceBEq, Nat.reduceAdd, Nat.reduceMul, Nat.reduceSub, Int.reduceBEq, Int.reduceBNe, Int.reduceAdd, Int.reduceSub, Int.reduceMul, Int.reduceToNat, Int.reduceNeg])
      (repeat (simp only [hz1]; try (dsimp only [go_sem, Nat.reduceBEq, Nat.reduceAdd, Nat.reduceMul, Nat.reduceSub, Int.reduceBEq, Int.reduceBNe, Int.reduceAdd, Int.reduceSub, Int.reduceMul, Int.reduceToNat, Int.reduceNeg])))
      (refine GC.call (by first | rfl | (simp; done) | (simp [hdOK_encU, hdOK_encL, allSz_encU, allSz_encL, encU_length, encL_length, encD_one, encD_cells, AVone_v, AVone_sl, AVone_agg, AVone_ref, AVone_fn, AVone_ifc, AVcells_v, AVcells_sl, AVcells_agg, AVcells_ref, AVcells_fn, AVcells_ifc, Value.oneCell', allSz]; done) | (simp [hdOK_encU, hdOK_encL, allSz_encU, allSz_encL, encU_length, encL_length, encD_one, encD_cells, AVone_v, AVone_sl, AVone_agg, AVone_ref, AVone_fn, AVone_ifc, AVcells_v, AVcells_sl, AVcells_agg, AVcells_ref, AVcells_fn, AVcells_ifc, Value.oneCell', allSz]; omega)) (nL) ?_; refine GC_run2 4000 ?_; dsimp only [go_sem, Nat.reduceBEq, Nat.reduceAdd, Nat.reduceMul, Nat.reduceSub, Int.reduceBEq, Int.reduceBNe, Int.reduceAdd, Int.reduceSub, Int.reduceMul, Int.reduceToNat, Int.reduceNeg])
      (repeat (simp only [hz3]; try (dsimp only [go_sem, Nat.reduceBEq, Nat.reduceAdd, Nat.reduceMul, Nat.reduceSub, Int.reduceBEq, Int.reduceBNe, Int.reduceAdd, Int.reduceSub, Int.reduceMul, Int.reduceToNat, Int.reduceNeg])))
      (refine GC.call (by first | rfl | (simp; done) | (simp [hdOK_encU, hdOK_encL, allSz_encU, allSz_encL, encU_length, encL_length, encD_one, encD_cells, AVone_v, AVone_sl, AVone_agg, AVone_ref, AVone_fn, AVone_ifc, AVcells_v, AVcells_sl, AVcells_agg, AVcells_ref, AVcells_fn, AVcells_ifc, Value.oneCell', allSz]; done) | (simp [hdOK_encU, hdOK_encL, allSz_encU, allSz_encL, encU_length, encL_length, encD_one, encD_cells, AVone_v, AVone_sl, AVone_agg, AVone_ref, AVone_fn, AVone_ifc, AVcells_v, AVcells_sl, AVcells_agg, AVcells_ref, AVcells_fn, AVcells_ifc, Value.oneCell', allSz]; omega)) (hw) ?_; refine GC_run2 4000 ?_; dsimp only [go_sem, Nat.reduceBEq, Nat.reduceAdd, Nat.reduceMul, Nat.reduceSub, Int.reduceBEq, Int.reduceBNe, Int.reduceAdd, Int.reduceSub, Int.reduceMul, Int.reduceToNat, Int.reduceNeg])
      refine GC.finE (by first | rfl | (simp; done) | (simp [hdOK_encU, hdOK_encL, allSz_encU, allSz_encL, encU_length, encL_length, encD_one, encD_cells, AVone_v, AVone_sl, AVone_agg, AVone_ref, AVone_fn, AVone_ifc, AVcells_v, AVcells_sl, AVcells_agg, AVcells_ref, AVcells_fn, AVcells_ifc, Value.oneCell', allSz]; done) | (simp [hdOK_encU, hdOK_encL, allSz_encU, allSz_encL, encU_length, encL_length, encD_one, encD_cells, AVone_v, AVone_sl, AVone_agg, AVone_ref, AVone_fn, AVone_ifc, AVcells_v, AVcells_sl, AVcells_agg, AVcells_ref, AVcells_fn, AVcells_ifc, Value.oneCell', allSz]; omega)) ?_
      rfl
    | true =>
      cases hsame rfl
      have hy1 : ((dda : Int) != (dda : Int)) = false := by simp
      have hy2 : ((cca : Int) != (cca : Int)) = false := by simp
      have hy3 : (!(mma == mma)) = false := by simp
      (refine GC_run2 4000 ?_; dsimp only [go_sem, Nat.reduceBEq, Nat.reduceAdd, Nat.reduceMul, Nat.reduceSub, Int.reduceBEq, Int.reduceBNe, Int.reduceAdd, Int.reduceSub, Int.reduceMul, Int.reduceToNat, Int.reduceNeg])
      (repeat (simp only [hd1]; try (dsimp only [go_sem, Nat.reduceBEq, Nat.reduceAdd, Nat.reduceMul, Nat.reduceSub, Int.reduceBEq, Int.reduceBNe, Int.reduceAdd, Int.reduceSub, Int.reduceMul, Int.reduceToNat, Int.reduceNeg])))
      (refine GC.call (by first | rfl | (simp; done) | (simp [hdOK_encU, hdOK_encL, allSz_encU, allSz_encL, encU_length, encL_length, encD_one, encD_cells, AVone_v, AVone_sl, AVone_agg, AVone_ref, AVone_fn, AVone_ifc, AVcells_v, AVcells_sl, AVcells_agg, AVcells_ref, AVcells_fn, AVcells_ifc, Value.oneCell', allSz]; done) | (simp [hdOK_encU, hdOK_encL, allSz_encU, allSz_encL, encU_length, encL_length, encD_one, encD_cells, AVone_v, AVone_sl, AVone_agg, AVone_ref, AVone_fn, AVone_ifc, AVcells_v, AVcells_sl, AVcells_agg, AVcells_ref, AVcells_fn, AVcells_ifc, Value.oneCell', allSz]; omega)) (s1) ?_; refine GC_run2 4000 ?_; dsimp only [go_sem, Nat.reduceBEq, Nat.reduceAdd, Nat.reduceMul, Nat.reduceSub, Int.reduceBEq, Int.reduceBNe, Int.reduceAdd, Int.reduceSub, Int.reduceMul, Int.reduceToNat, Int.reduceNeg])
      (refine GC.call (by first | rfl | (simp; done) | (simp [hdOK_encU, hdOK_encL, allSz_encU, allSz_encL, encU_length, encL_length, encD_one, encD_cells, AVone_v, AVone_sl, AVone_agg, AVone_ref, AVone_fn, AVone_ifc, AVcells_v, AVcells_sl, AVcells_agg, AVcells_ref, AVcells_fn, AVcells_ifc, Value.oneCell', allSz]; done) | (simp [hdOK_encU, hdOK_encL, allSz_encU, allSz_encL, encU_length, encL_length, encD_one, encD_cells, AVone_v, AVone_sl, AVone_agg, AVone_ref, AVone_fn, AVone_ifc, AVcells_v, AVcells_sl, AVcells_agg, AVcells_ref, AVcells_fn, AVcells_ifc, Value.oneCell', allSz]; omega)) (da) ?_; refine GC_run2 4000 ?_; dsimp only [go_sem, Nat.reduceBEq, Nat.reduceAdd, Nat.reduceMul, Nat.reduceSub, Int.reduceBEq, Int.reduceBNe, Int.reduceAdd, Int.reduceSub, Int.reduceMul, Int.reduceToNat, Int.reduceNeg])
      (refine GC.call (by first | rfl | (simp; done) | (simp [hdOK_encU, hdOK_encL, allSz_encU, allSz_encL, encU_length, encL_length, encD_one, encD_cells, AVone_v, AVone_sl, AVone_agg, AVone_ref, AVone_fn, AVone_ifc, AVcells_v, AVcells_sl, AVcells_agg, AVcells_ref, AVcells_fn, AVcells_ifc, Value.oneCell', allSz]; done) | (simp [hdOK_encU, hdOK_encL, allSz_encU, allSz_encL, encU_length, encL_length, encD_one, encD_cells, AVone_v, AVone_sl, AVone_agg, AVone_ref, AVone_fn, AVone_ifc, AVcells_v, AVcells_sl, AVcells_agg, AVcells_ref, AVcells_fn, AVcells_ifc, Value.oneCell', allSz]; omega)) (da) ?_; refine GC_run2 4000 ?_; dsimp only [go_sem, Nat.reduceBEq, Nat.reduceAdd, Nat.reduceMul, Nat.reduceSub, Int.reduceBEq, Int.reduceBNe, Int.reduceAdd, Int.reduceSub, Int.reduceMul, Int.reduceToNat, Int.reduceNeg])
      (repeat (simp only [hy1]; try (dsimp only [go_sem, Nat.reduceBEq, Nat.reduceAdd, Nat.reduceMul, Nat.reduceSub, Int.reduceBEq, Int.reduceBNe, Int.reduceAdd, Int.reduceSub, Int.reduceMul, Int.reduceToNat, Int.reduceNeg])))
      (refine GC.call (by first | rfl | (simp; done) | (simp [hdOK_encU, hdOK_encL, allSz_encU, allSz_encL, encU_length, encL_length, encD_one, encD_cells, AVone_v, AVone_sl, AVone_agg, AVone_ref, AVone_fn, AVone_ifc, AVcells_v, AVcells_sl, AVcells_agg, AVcells_ref, AVcells_fn, AVcells_ifc, Value.oneCell', allSz]; done) | (simp [hdOK_encU, hdOK_encL, allSz_encU, allSz_encL, encU_length, encL_length, encD_one, encD_cells, AVone_v, AVone_sl, AVone_agg, AVone_ref, AVone_fn, AVone_ifc, AVcells_v, AVcells_sl, AVcells_agg, AVcells_ref, AVcells_fn, AVcells_ifc, Value.oneCell', allSz]; omega)) (ca) ?_; refine GC_run2 4000 ?_; dsimp only [go_sem, Nat.reduceBEq, Nat.reduceAdd, Nat.reduceMul, Nat.reduceSub, Int.reduceBEq, Int.reduceBNe, Int.reduceAdd, Int.reduceSub, Int.reduceMul, Int.reduceToNat, Int.reduceNeg])
      (refine GC.call (by first | rfl | (simp; done) | (simp [hdOK_encU, hdOK_encL, allSz_encU, allSz_encL, encU_length, encL_length, encD_one, encD_cells, AVone_v, AVone_sl, AVone_agg, AVone_ref, AVone_fn, AVone_ifc, AVcells_v, AVcells_sl, AVcells_agg, AVcells_ref, AVcells_fn, AVcells_ifc, Value.oneCell', allSz]; done) | (simp [hdOK_encU, hdOK_encL, allSz_encU, allSz_encL, encU_length, encL_length, encD_one, encD_cells, AVone_v, AVone_sl, AVone_agg, AVone_ref, AVone_fn, AVone_ifc, AVcells_v, AVcells_sl, AVcells_agg, AVcells_ref, AVcells_fn, AVcells_ifc, Value.oneCell', allSz]; omega)) (ca) ?_; refine GC_run2 4000 ?_; dsimp only [go_sem, Nat.reduceBEq, Nat.reduceAdd, Nat.reduceMul, Nat.reduceSub, Int.reduceBEq, Int.reduceBNe, Int.reduceAdd, Int.reduceSub, Int.reduceMul, Int.reduceToNat, Int.reduceNeg])
      (repeat (simp only [hy2]; try (dsimp only [go_sem, Nat.reduceBEq, Nat.reduceAdd, Nat.reduceMul, Nat.reduceSub, Int.reduceBEq, Int.reduceBNe, Int.reduceAdd, Int.reduceSub, Int.reduceMul, Int.reduceToNat, Int.reduceNeg])))
      (refine GC.call (by first | rfl | (simp; done) | (simp [hdOK_encU, hdOK_encL, allSz_encU, allSz_encL, encU_length, encL_length, encD_one, encD_cells, AVone_v, AVone_sl, AVone_agg, AVone_ref, AVone_fn, AVone_ifc, AVcells_v, AVcells_sl, AVcells_agg, AVcells_ref, AVcells_fn, AVcells_ifc, Value.oneCell', allSz]; done) | (simp [hdOK_encU, hdOK_encL, allSz_encU, allSz_encL, encU_length, encL_length, encD_one, encD_cells, AVone_v, AVone_sl, AVone_agg, AVone_ref, AVone_fn, AVone_ifc, AVcells_v, AVcells_sl, AVcells_agg, AVcells_ref, AVcells_fn, AVcells_ifc, Value.oneCell', allSz]; omega)) (ma) ?_; refine GC_run2 4000 ?_; dsimp only [go_sem, Nat.reduceBEq, Nat.reduceAdd, Nat.reduceMul, Nat.reduceSub, Int.reduceBEq, Int.reduceBNe, Int.reduceAdd, Int.reduceSub, Int.reduceMul, Int.reduceToNat, Int.reduceNeg])
      (refine GC.call (by first | rfl | (simp; done) | (simp [hdOK_encU, hdOK_encL, allSz_encU, allSz_encL, encU_length, encL_length, encD_one, encD_cells, AVone_v, AVone_sl, AVone_agg, AVone_ref, AVone_fn, AVone_ifc, AVcells_v, AVcells_sl, AVcells_agg, AVcells_ref, AVcells_fn, AVcells_ifc, Value.oneCell', allSz]; done) | (simp [hdOK_encU, hdOK_encL, allSz_encU, allSz_encL, encU_length, encL_length, encD_one, encD_cells, AVone_v, AVone_sl, AVone_agg, AVone_ref, AVone_fn, AVone_ifc, AVcells_v, AVcells_sl, AVcells_agg, AVcells_ref, AVcells_fn, AVcells_ifc, Value.oneCell', allSz]; omega)) (ma) ?_; refine GC_run2 4000 ?_; dsimp only [go_sem, Nat.reduceBEq, Nat.reduceAdd, Nat.reduceMul, Nat.reduceSub, Int.reduceBEq, Int.reduceBNe, Int.reduceAdd, Int.reduceSub, Int.reduceMul, Int.reduceToNat, Int.reduceNeg])
      (repeat (simp only [hy3]; try (dsimp only [go_sem, Nat.reduceBEq, Nat.reduceAdd, Nat.reduceMul, Nat.reduceSub, Int.reduceBEq, Int.reduceBNe, Int.reduceAdd, Int.reduceSub, Int.reduceMul, Int.reduceToNat, Int.reduceNeg])))
      (refine GC.ord (by first | rfl | (simp; done) | (simp [hdOK_encU, hdOK_encL, allSz_encU, allSz_encL, encU_length, encL_length, encD_one, encD_cells, AVone_v, AVone_sl, AVone_agg, AVone_ref, AVone_fn, AVone_ifc, AVcells_v, AVcells_sl, AVcells_agg, AVcells_ref, AVcells_fn, AVcells_ifc, Value.oneCell', allSz]; done) | (simp [hdOK_encU, hdOK_encL, allSz_encU, allSz_encL, encU_length, encL_length, encD_one, encD_cells, AVone_v, AVone_sl, AVone_agg, AVone_ref, AVone_fn, AVone_ifc, AVcells_v, AVcells_sl, AVcells_agg, AVcells_ref, AVcells_fn, AVcells_ifc, Value.oneCell', allSz]; omega)) (by kernel_rfl) (by kernel_rfl) ?_; refine GC_run2 4000 ?_; dsimp only [go_sem, Nat.reduceBEq, Nat.reduceAdd, Nat.reduceMul, Nat.reduceSub, Int.reduceBEq, Int.reduceBNe, Int.reduceAdd, Int.reduceSub, Int.reduceMul, Int.reduceToNat, Int.reduceNeg])
      (refine GC.call (by first | rfl | (simp; done) | (simp [hdOK_encU, hdOK_encL, allSz_encU, allSz_encL, encU_length, encL_length, encD_one, encD_cells, AVone_v, AVone_sl, AVone_agg, AVone_ref, AVone_fn, AVone_ifc, AVcells_v, AVcells_sl, AVcells_agg, AVcells_ref, AVcells_fn, AVcells_ifc, Value.oneCell', allSz]; done) | (simp [hdOK_encU, hdOK_encL, allSz_encU, allSz_encL, encU_length, encL_length, encD_one, encD_cells, AVone_v, AVone_sl, AVone_agg, AVone_ref, AVone_fn, AVone_ifc, AVcells_v, AVcells_sl, AVcells_agg, AVcells_ref, AVcells_fn, AVcells_ifc, Value.oneCell', allSz]; omega)) (cL) ?_; refine GC_run2 4000 ?_; dsimp only [go_sem, Nat.reduceBEq, Nat.reduceAdd, Nat.reduceMul, Nat.reduceSub, Int.reduceBEq, Int.reduceBNe, Int.reduceAdd, Int.reduceSub, Int.reduceMul, Int.reduceToNat, Int.reduceNeg])
      (refine GC.call (by first | rfl | (simp; done) | (simp [hdOK_encU, hdOK_encL, allSz_encU, allSz_encL, encU_length, encL_length, encD_one, encD_cells, AVone_v, AVone_sl, AVone_agg, AVone_ref, AVone_fn, AVone_ifc, AVcells_v, AVcells_sl, AVcells_agg, AVcells_ref, AVcells_fn, AVcells_ifc, Value.oneCell', allSz]; done) | (simp [hdOK_encU, hdOK_encL, allSz_encU, allSz_encL, encU_length, encL_length, encD_one, encD_cells, AVone_v, AVone_sl, AVone_agg, AVone_ref, AVone_fn, AVone_ifc, AVcells_v, AVcells_sl, AVcells_agg, AVcells_ref, AVcells_fn, AVcells_ifc, Value.oneCell', allSz]; omega)) (dL) ?_; refine GC_run2 4000 ?_; dsimp only [go_sem, Nat.reduceBEq, Nat.reduceAdd, Nat.reduceMul, Nat.reduceSub, Int.reduceBEq, Int.reduceBNe, Int.reduceAdd, Int.reduceSub, Int.reduceMul, Int.reduceToNat, Int.reduceNeg])
      (repeat (simp only [hz1]; try (dsimp only [go_sem, Nat.reduceBEq, Nat.reduceAdd, Nat.reduceMul, Nat.reduceSub, Int.reduceBEq, Int.reduceBNe, Int.reduceAdd, Int.reduceSub, Int.reduceMul, Int.reduceToNat, Int.reduceNeg])))
      (refine GC.call (by first | rfl | (simp; done) | (simp [hdOK_encU, hdOK_encL, allSz_encU, allSz_encL, encU_length, encL_length, encD_one, encD_cells, AVone_v, AVone_sl, AVone_agg, AVone_ref, AVone_fn, AVone_ifc, AVcells_v, AVcells_sl, AVcells_agg, AVcells_ref, AVcells_fn, AVcells_ifc, Value.oneCell', allSz]; done) | (simp [hdOK_encU, hdOK_encL, allSz_encU, allSz_encL, encU_length, encL_length, encD_one, encD_cells, AVone_v, AVone_sl, AVone_agg, AVone_ref, AVone_fn, AVone_ifc, AVcells_v, AVcells_sl, AVcells_agg, AVcells_ref, AVcells_fn, AVcells_ifc, Value.oneCell', allSz]; omega)) (nL) ?_; refine GC_run2 4000 ?_; dsimp only [go_sem, Nat.reduceBEq, Nat.reduceAdd, Nat.reduceMul, Nat.reduceSub, Int.reduceBEq, Int.reduceBNe, Int.reduceAdd, Int.reduceSub, Int.reduceMul, Int.reduceToNat, Int.reduceNeg])
      (repeat (simp only [hz3]; try (dsimp only [go_sem, Nat.reduceBEq, Nat.reduceAdd, Nat.reduceMul, Nat.reduceSub, Int.reduceBEq, Int.reduceBNe, Int.reduceAdd, Int.reduceSub, Int.reduceMul, Int.reduceToNat, Int.reduceNeg])))
      (refine GC.call (by first | rfl | (simp; done) | (simp [hdOK_encU, hdOK_encL, allSz_encU, allSz_encL, encU_length, encL_length, encD_one, encD_cells, AVone_v, AVone_sl, AVone_agg, AVone_ref, AVone_fn, AVone_ifc, AVcells_v, AVcells_sl, AVcells_agg, AVcells_ref, AVcells_fn, AVcells_ifc, Value.oneCell', allSz]; done) | (simp [hdOK_encU, hdOK_encL, allSz_encU, allSz_encL, encU_length, encL_length, encD_one, encD_cells, AVone_v, AVone_sl, AVone_agg, AVone_ref, AVone_fn, AVone_ifc, AVcells_v, AVcells_sl, AVcells_agg, AVcells_ref, AVcells_fn, AVcells_ifc, Value.oneCell', allSz]; omega)) (hw) ?_; refine GC_run2 4000 ?_; dsimp only [go_sem, Nat.reduceBEq, Nat.reduceAdd, Nat.reduceMul, Nat.reduceSub, Int.reduceBEq, Int.reduceBNe, Int.reduceAdd, Int.reduceSub, Int.reduceMul, Int.reduceToNat, Int.reduceNeg])
      refine GC.finE (by first | rfl | (simp; done) | (simp [hdOK_encU, hdOK_encL, allSz_encU, allSz_encL, encU_length, encL_length, encD_one, encD_cells, AVone_v, AVone_sl, AVone_agg, AVone_ref, AVone_fn, AVone_ifc, AVcells_v, AVcells_sl, AVcells_agg, AVcells_ref, AVcells_fn, AVcells_ifc, Value.oneCell', allSz]; done) | (simp [hdOK_encU, hdOK_encL, allSz_encU, allSz_encL, encU_length, encL_length, encD_one, encD_cells, AVone_v, AVone_sl, AVone_agg, AVone_ref, AVone_fn, AVone_ifc, AVcells_v, AVcells_sl, AVcells_agg, AVcells_ref, AVcells_fn, AVcells_ifc, Value.oneCell', allSz]; omega)) ?_
      rfl
end
end Go.Sy

/- Contracts of the program's functions over abstract values. By gen.py. -/
set_option linter.unusedVariables false
set_option linter.unusedSimpArgs false
set_option maxRecDepth 100000
set_option maxHeartbeats 4000000
namespace Go.Sy
open Go.Proofs
attribute [local go_sem] runO_t runO_f band_t band_f bor_t bor_f bnot_t bnot_f gdK_tt gdK_ff gdK_tf gdK_ft brK_t brK_f runE_some runF_some runA_some runG_some runB_some runX_some runR_some run_nil run_skip run_seq run_region run_block run_blk run_exit run_cond run_ret run_loop run_lp run_opsNil run_opsOrd run_opsOp run_opsGuard run_cl run_gd run_br run_fin run_clx run_fst run_callf runY_t runY_f runS_some runV_t runV_f aBuildK_t aBuildK_f Mode.plain run_move run_nilCheck run_assign run_pick run_alloc run_box run_build run_buildSlice run_load run_store run_binOp run_unOp run_convert run_slice run_fieldAddr run_indexAddr run_index run_field run_extract run_makeInterface run_makeFunc run_len run_max run_min run_append St.ev St.evl St.evs St.evo capsOf callOf look drop put putAll toTV_nil toTV_int toTV_bool toTV_str toTV_ptr toTV_ifc toTV_fn toAV_nil toAV_int toAV_bool toAV_str toAV_ptr toAV_ifc toAV_fn aAssign_nil aAssign_tmp aAssign_int aAssign_bool aAssign_str aAssign_ptr aAssign_nilf aAssign_ifc aAssign_func aAssign_glob nilConst_slice nilConst_ptr nilConst_ifc nilConst_tmp plain Option.bind TV.cells TV.one AVone_v AVone_sl AVone_agg AVone_ref AVone_fn AVone_ifc AVone_sent Value.oneCell' oneVs avOf avsOf expo expos expoC exposC TV.isC allC fillsT aBuildT lendR ren renT0 renC renT renO renW xFoot xSt newIds retX retXs isT0 asList List.map St.app setD St.setT ownD trA effFoot callFoot callSt callReq St.fresh freshT freshO allFresh TV.ment TVs.ment SObj.ment fsts mentW noFoot List.contains List.elem aPick aAlloc aBox aBuild aBuildSlice nonNil allSz aUn aConv aField aIndex aByte aPart aExtract aIface aFunc aLen ty1 aMax aApp aAppend aCheck emptyL aSlice okHd hdOK_nil hdOK_cons aLoad aStore aBin aNil sBin sInt isSh sameSh nilness fills fillAt fillTV putCells intOf? mkInt AVcells_v AVcells_sl AVcells_agg AVcells_ref AVcells_fn AVcells_ifc AVcells_sent St.g0 St.g guardOf guardOff udf argsOf lends lendBox bindRes bindR bindRs flatR flatV boolOf retItems retItems0 retItem rowsOf disjB ownIds resIds nodupB St.init initT popTo cond_true cond_false Option.getD Option.map List.take List.drop List.length List.zip List.zipWith List.range List.range.loop List.append List.foldr List.nil_append List.cons_append List.append_nil List.getElem?_cons_zero List.getElem?_cons_succ GetElem?.getElem? List.get?Internal Int.toNat_natCast cst0 cst1 cst2 cst3 cst4 cst5 cst6 cst7 cst8 cst9 cst10 cst11 toNat0 toNat1 toNat2 toNat3 getD0 getD1 getD2 getD3 run_zero memN keepT dropO St.re leT leO D_q2  D_q3  D_q4  D_q5  D_q9  D_q12  D_q21  D_q22  D_q24  D_q25  D_q27  D_q28  D_q32  D_q46  D_q48  D_q50  D_q52  D_q53  D_q54  D_q56  D_q57  D_q61  D_q70  D_q72  D_q76  D_q77  D_q79  D_q80  D_q83  D_q85  D_q91  D_q93  D_q104  D_q108  D_q115  D_q118  D_q121  D_q134  D_q136  D_q137
section
variable {W0 : World} {κ : Nat → Addr} {GG : Nat → Option AV}

mutual
theorem weigh_wf2 (bt bm : Nat) (dv : Bool) (h2 : bm < 1000000) : ∀ (d : Dat) (x : Int), 0 ≤ weighD bt bm dv d x → wfD d → wfD2 d
  | .mk _ _ _ mag t l, x, h, hw => by
    simp only [weighD] at h
    split at h
    · omega
    · obtain ⟨_, _, w3, _, _, _, w7⟩ := hw
      refine ⟨by omega, fun z hz => ?_, weighL_wf2 bt bm dv h2 l _ h w7⟩
      have := w3 z hz
      simp only [Lit.wf, Bool.and_eq_true, decide_eq_true_eq] at this
      have e1 : IntKind.u32.min = 0 := rfl
      have e2 : IntKind.u32.max = 4294967295 := rfl
      rw [e1, e2] at this
      exact ⟨this.1, by omega⟩
theorem weighL_wf2 (bt bm : Nat) (dv : Bool) (h2 : bm < 1000000) : ∀ (l : List Dat) (x : Int), 0 ≤ weighL bt bm dv l x → wfL l → wfL2 l
  | [], x, h, _ => trivial
  | d :: r, x, h, hw => by
    simp only [weighL] at h
    split at h
    · refine ⟨weigh_wf2 bt bm dv h2 d x ?_ hw.1, weighL_wf2 bt bm dv h2 r _ h hw.2⟩
      rcases Int.lt_or_le (weighD bt bm dv d x) 0 with h3 | h3
      · rw [weighL_neg bt bm dv r h3] at h; omega
      · exact h3
    · omega
end
theorem D_law_may (hU : D_Tabs W0) (d : Dat) (hw : wfD d) : Sound (CD W0 κ GG) 3 [encD d] [.av (.v (.bool true))] := by
  have hwk := D_awake (W0 := W0) (κ := κ) (GG := GG) hU
  by_cases h1 : heavyD d
  · have ha := D_heavy_t (W0 := W0) (κ := κ) (GG := GG) h1
    obtain ⟨k, c, neg, mag, t, l⟩ := d
    simp only [encD] at ha
    (refine Sound.of_go D_ok D_mix Tryd.func3 rfl (by decide) (by kernel_rfl) (GC.go ?_); refine GC_run2 4000 ?_; dsimp only [Tryd.f3, CD, go_sem, Nat.reduceBEq, Nat.reduceAdd, Nat.reduceMul, Nat.reduceSub, Int.reduceBEq, Int.reduceBNe, Int.reduceAdd, Int.reduceSub, Int.reduceMul, Int.reduceToNat, Int.reduceNeg, encD])
    (refine GC.call (by first | rfl | (simp; done) | (simp [hdOK_encU, hdOK_encL, allSz_encU, allSz_encL, encU_length, encL_length, encD_one, encD_cells, AVone_v, AVone_sl, AVone_agg, AVone_ref, AVone_fn, AVone_ifc, AVcells_v, AVcells_sl, AVcells_agg, AVcells_ref, AVcells_fn, AVcells_ifc, Value.oneCell', allSz]; done) | (simp [hdOK_encU, hdOK_encL, allSz_encU, allSz_encL, encU_length, encL_length, encD_one, encD_cells, AVone_v, AVone_sl, AVone_agg, AVone_ref, AVone_fn, AVone_ifc, AVcells_v, AVcells_sl, AVcells_agg, AVcells_ref, AVcells_fn, AVcells_ifc, Value.oneCell', allSz]; omega)) (ha) ?_; refine GC_run2 4000 ?_; dsimp only [go_sem, Nat.reduceBEq, Nat.reduceAdd, Nat.reduceMul, Nat.reduceSub, Int.reduceBEq, Int.reduceBNe, Int.reduceAdd, Int.reduceSub, Int.reduceMul, Int.reduceToNat, Int.reduceNeg])
    (refine GC.call (by first | rfl | (simp; done) | (simp [hdOK_encU, hdOK_encL, allSz_encU, allSz_encL, encU_length, encL_length, encD_one, encD_cells, AVone_v, AVone_sl, AVone_agg, AVone_ref, AVone_fn, AVone_ifc, AVcells_v, AVcells_sl, AVcells_agg, AVcells_ref, AVcells_fn, AVcells_ifc, Value.oneCell', allSz]; done) | (simp [hdOK_encU, hdOK_encL, allSz_encU, allSz_encL, encU_length, encL_length, encD_one, encD_cells, AVone_v, AVone_sl, AVone_agg, AVone_ref, AVone_fn, AVone_ifc, AVcells_v, AVcells_sl, AVcells_agg, AVcells_ref, AVcells_fn, AVcells_ifc, Value.oneCell', allSz]; omega)) (hwk) ?_; refine GC_run2 4000 ?_; dsimp only [go_sem, Nat.reduceBEq, Nat.reduceAdd, Nat.reduceMul, Nat.reduceSub, Int.reduceBEq, Int.reduceBNe, Int.reduceAdd, Int.reduceSub, Int.reduceMul, Int.reduceToNat, Int.reduceNeg])
    refine GC.finE (by first | rfl | (simp; done) | (simp [hdOK_encU, hdOK_encL, allSz_encU, allSz_encL, encU_length, encL_length, encD_one, encD_cells, AVone_v, AVone_sl, AVone_agg, AVone_ref, AVone_fn, AVone_ifc, AVcells_v, AVcells_sl, AVcells_agg, AVcells_ref, AVcells_fn, AVcells_ifc, Value.oneCell', allSz]; done) | (simp [hdOK_encU, hdOK_encL, allSz_encU, allSz_encL, encU_length, encL_length, encD_one, encD_cells, AVone_v, AVone_sl, AVone_agg, AVone_ref, AVone_fn, AVone_ifc, AVcells_v, AVcells_sl, AVcells_agg, AVcells_ref, AVcells_fn, AVcells_ifc, Value.oneCell', allSz]; omega)) ?_
    rfl
  have ha := D_heavy_f (W0 := W0) (κ := κ) (GG := GG) h1
  have fd := heavy_fine h1
  have w2 := weigh_wf2 3000 3000 true (by omega) d 3000 (Int.not_lt.1 h1) hw
  have cp := D_rcopy (W0 := W0) (κ := κ) (GG := GG) _ d (Nat.le_refl _) fd
  have m1 := D_may (W0 := W0) (κ := κ) (GG := GG) hU d fd
  have m2 := D_rmay (W0 := W0) (κ := κ) (GG := GG) d fd w2
  have d1 := D_depth (W0 := W0) (κ := κ) (GG := GG) _ d (Nat.le_refl _) fd
  have d2 := D_rdepth (W0 := W0) (κ := κ) (GG := GG) _ d (Nat.le_refl _) fd
  have c1 := D_count (W0 := W0) (κ := κ) (GG := GG) _ d (Nat.le_refl _) fd
  have c2 := D_rcount3 (W0 := W0) (κ := κ) (GG := GG) _ d (Nat.le_refl _) fd
  have s1 := D_rsame (W0 := W0) (κ := κ) (GG := GG) _ d d (Nat.le_refl _) fd fd
  rw [sameD_refl] at s1
  generalize mayD d = m at *
  generalize depthD d = dd at *
  generalize cnt d = cd at *
  have z1 : (m == m) = true := by simp
  have z2 : ((dd : Int) == (dd : Int)) = true := by simp
  have z3 : ((cd : Int) == (cd : Int)) = true := by simp
  obtain ⟨k, c, neg, mag, t, l⟩ := d
  simp only [encD] at ha cp m1 m2 d1 d2 c1 c2 s1
  (refine Sound.of_go D_ok D_mix Tryd.func3 rfl (by decide) (by kernel_rfl) (GC.go ?_); refine GC_run2 4000 ?_; dsimp only [Tryd.f3, CD, go_sem, Nat.reduceBEq, Nat.reduceAdd, Nat.reduceMul, Nat.reduceSub, Int.reduceBEq, Int.reduceBNe, Int.reduceAdd, Int.reduceSub, Int.reduceMul, Int.reduceToNat, Int.reduceNeg, encD])
  (refine GC.call (by first | rfl | (simp; done) | (simp [hdOK_encU, hdOK_encL, allSz_encU, allSz_encL, encU_length, encL_length, encD_one, encD_cells, AVone_v, AVone_sl, AVone_agg, AVone_ref, AVone_fn, AVone_ifc, AVcells_v, AVcells_sl, AVcells_agg, AVcells_ref, AVcells_fn, AVcells_ifc, Value.oneCell', allSz]; done) | (simp [hdOK_encU, hdOK_encL, allSz_encU, allSz_encL, encU_length, encL_length, encD_one, encD_cells, AVone_v, AVone_sl, AVone_agg, AVone_ref, AVone_fn, AVone_ifc, AVcells_v, AVcells_sl, AVcells_agg, AVcells_ref, AVcells_fn, AVcells_ifc, Value.oneCell', allSz]; omega)) (ha) ?_; refine GC_run2 4000 ?_; dsimp only [go_sem, Nat.reduceBEq, Nat.reduceAdd, Nat.reduceMul, Nat.reduceSub, Int.reduceBEq, Int.reduceBNe, Int.reduceAdd, Int.reduceSub, Int.reduceMul, Int.reduceToNat, Int.reduceNeg])
  (refine GC.call (by first | rfl | (simp; done) | (simp [hdOK_encU, hdOK_encL, allSz_encU, allSz_encL, encU_length, encL_length, encD_one, encD_cells, AVone_v, AVone_sl, AVone_agg, AVone_ref, AVone_fn, AVone_ifc, AVcells_v, AVcells_sl, AVcells_agg, AVcells_ref, AVcells_fn, AVcells_ifc, Value.oneCell', allSz]; done) | (simp [hdOK_encU, hdOK_encL, allSz_encU, allSz_encL, encU_length, encL_length, encD_one, encD_cells, AVone_v, AVone_sl, AVone_agg, AVone_ref, AVone_fn, AVone_ifc, AVcells_v, AVcells_sl, AVcells_agg, AVcells_ref, AVcells_fn, AVcells_ifc, Value.oneCell', allSz]; omega)) (cp) ?_; refine GC_run2 4000 ?_; dsimp only [go_sem, Nat.reduceBEq, Nat.reduceAdd, Nat.reduceMul, Nat.reduceSub, Int.reduceBEq, Int.reduceBNe, Int.reduceAdd, Int.reduceSub, Int.reduceMul, Int.reduceToNat, Int.reduceNeg])
  (refine GC.call (by first | rfl | (simp; done) | (simp [hdOK_encU, hdOK_encL, allSz_encU, allSz_encL, encU_length, encL_length, encD_one, encD_cells, AVone_v, AVone_sl, AVone_agg, AVone_ref, AVone_fn, AVone_ifc, AVcells_v, AVcells_sl, AVcells_agg, AVcells_ref, AVcells_fn, AVcells_ifc, Value.oneCell', allSz]; done) | (simp [hdOK_encU, hdOK_encL, allSz_encU, allSz_encL, encU_length, encL_length, encD_one, encD_cells, AVone_v, AVone_sl, AVone_agg, AVone_ref, AVone_fn, AVone_ifc, AVcells_v, AVcells_sl, AVcells_agg, AVcells_ref, AVcells_fn, AVcells_ifc, Value.oneCell', allSz]; omega)) (m1) ?_; refine GC_run2 4000 ?_; dsimp only [go_sem, Nat.reduceBEq, Nat.reduceAdd, Nat.reduceMul, Nat.reduceSub, Int.reduceBEq, Int.reduceBNe, Int.reduceAdd, Int.reduceSub, Int.reduceMul, Int.reduceToNat, Int.reduceNeg])
  (refine GC.call (by first | rfl | (simp; done) | (simp [hdOK_encU, hdOK_encL, allSz_encU, allSz_encL, encU_length, encL_length, encD_one, encD_cells, AVone_v, AVone_sl, AVone_agg, AVone_ref, AVone_fn, AVone_ifc, AVcells_v, AVcells_sl, AVcells_agg, AVcells_ref, AVcells_fn, AVcells_ifc, Value.oneCell', allSz]; done) | (simp [hdOK_encU, hdOK_encL, allSz_encU, allSz_encL, encU_length, encL_length, encD_one, encD_cells, AVone_v, AVone_sl, AVone_agg, AVone_ref, AVone_fn, AVone_ifc, AVcells_v, AVcells_sl, AVcells_agg, AVcells_ref, AVcells_fn, AVcells_ifc, Value.oneCell', allSz]; omega)) (m2) ?_; refine GC_run2 4000 ?_; dsimp only [go_sem, Nat.reduceBEq, Nat.reduceAdd, Nat.reduceMul, Nat.reduceSub, Int.reduceBEq, Int.reduceBNe, Int.reduceAdd, Int.reduceSub, Int.reduceMul, Int.reduceToNat, Int.reduceNeg])
  (repeat (simp only [z1]; try (dsimp only [go_sem, Nat.reduceBEq, Nat.reduceAdd, Nat.reduceMul, Nat.reduceSub, Int.reduceBEq, Int.reduceBNe, Int.reduceAdd, Int.reduceSub, Int.reduceMul, Int.reduceToNat, Int.reduceNeg])))
  (refine GC.call (by first | rfl | (simp; done) | (simp [hdOK_encU, hdOK_encL, allSz_encU, allSz_encL, encU_length, encL_length, encD_one, encD_cells, AVone_v, AVone_sl, AVone_agg, AVone_ref, AVone_fn, AVone_ifc, AVcells_v, AVcells_sl, AVcells_agg, AVcells_ref, AVcells_fn, AVcells_ifc, Value.oneCell', allSz]; done) | (simp [hdOK_encU, hdOK_encL, allSz_encU, allSz_encL, encU_length, encL_length, encD_one, encD_cells, AVone_v, AVone_sl, AVone_agg, AVone_ref, AVone_fn, AVone_ifc, AVcells_v, AVcells_sl, AVcells_agg, AVcells_ref, AVcells_fn, AVcells_ifc, Value.oneCell', allSz]; omega)) (d1) ?_; refine GC_run2 4000 ?_; dsimp only [go_sem, Nat.reduceBEq, Nat.reduceAdd, Nat.reduceMul, Nat.reduceSub, Int.reduceBEq, Int.reduceBNe, Int.reduceAdd, Int.reduceSub, Int.reduceMul, Int.reduceToNat, Int.reduceNeg])
  (refine GC.call (by first | rfl | (simp; done) | (simp [hdOK_encU, hdOK_encL, allSz_encU, allSz_encL, encU_length, encL_length, encD_one, encD_cells, AVone_v, AVone_sl, AVone_agg, AVone_ref, AVone_fn, AVone_ifc, AVcells_v, AVcells_sl, AVcells_agg, AVcells_ref, AVcells_fn, AVcells_ifc, Value.oneCell', allSz]; done) | (simp [hdOK_encU, hdOK_encL, allSz_encU, allSz_encL, encU_length, encL_length, encD_one, encD_cells, AVone_v, AVone_sl, AVone_agg, AVone_ref, AVone_fn, AVone_ifc, AVcells_v, AVcells_sl, AVcells_agg, AVcells_ref, AVcells_fn, AVcells_ifc, Value.oneCell', allSz]; omega)) (d2) ?_; refine GC_run2 4000 ?_; dsimp only [go_sem, Nat.reduceBEq, Nat.reduceAdd, Nat.reduceMul, Nat.reduceSub, Int.reduceBEq, Int.reduceBNe, Int.reduceAdd, Int.reduceSub, Int.reduceMul, Int.reduceToNat, Int.reduceNeg])
  (repeat (simp only [z2]; try (dsimp only [go_sem, Nat.reduceBEq, Nat.reduceAdd, Nat.reduceMul, Nat.reduceSub, Int.reduceBEq, Int.reduceBNe, Int.reduceAdd, Int.reduceSub, Int.reduceMul, Int.reduceToNat, Int.reduceNeg])))
  (refine GC.call (by first | rfl | (simp; done) | (simp [hdOK_encU, hdOK_encL, allSz_encU, allSz_encL, encU_length, encL_length, encD_one, encD_cells, AVone_v, AVone_sl, AVone_agg, AVone_ref, AVone_fn, AVone_ifc, AVcells_v, AVcells_sl, AVcells_agg, AVcells_ref, AVcells_fn, AVcells_ifc, Value.oneCell', allSz]; done) | (simp [hdOK_encU, hdOK_encL, allSz_encU, allSz_encL, encU_length, encL_length, encD_one, encD_cells, AVone_v, AVone_sl, AVone_agg, AVone_ref, AVone_fn, AVone_ifc, AVcells_v, AVcells_sl, AVcells_agg, AVcells_ref, AVcells_fn, AVcells_ifc, Value.oneCell', allSz]; omega)) (c1) ?_; refine GC_run2 4000 ?_; dsimp only [go_sem, Nat.reduceBEq, Nat.reduceAdd, Nat.reduceMul, Nat.reduceSub, Int.reduceBEq, Int.reduceBNe, Int.reduceAdd, Int.reduceSub, Int.reduceMul, Int.reduceToNat, Int.reduceNeg])
  (refine GC.call (by first | rfl | (simp; done) | (simp [hdOK_encU, hdOK_encL, allSz_encU, allSz_encL, encU_length, encL_length, encD_one, encD_cells, AVone_v, AVone_sl, AVone_agg, AVone_ref, AVone_fn, AVone_ifc, AVcells_v, AVcells_sl, AVcells_agg, AVcells_ref, AVcells_fn, AVcells_ifc, Value.oneCell', allSz]; done) | (simp [hdOK_encU, hdOK_encL, allSz_encU, allSz_encL, encU_length, encL_length, encD_one, encD_cells, AVone_v, AVone_sl, AVone_agg, AVone_ref, AVone_fn, AVone_ifc, AVcells_v, AVcells_sl, AVcells_agg, AVcells_ref, AVcells_fn, AVcells_ifc, Value.oneCell', allSz]; omega)) (c2) ?_; refine GC_run2 4000 ?_; dsimp only [go_sem, Nat.reduceBEq, Nat.reduceAdd, Nat.reduceMul, Nat.reduceSub, Int.reduceBEq, Int.reduceBNe, Int.reduceAdd, Int.reduceSub, Int.reduceMul, Int.reduceToNat, Int.reduceNeg])
  (repeat (simp only [z3]; try (dsimp only [go_sem, Nat.reduceBEq, Nat.reduceAdd, Nat.reduceMul, Nat.reduceSub, Int.reduceBEq, Int.reduceBNe, Int.reduceAdd, Int.reduceSub, Int.reduceMul, Int.reduceToNat, Int.reduceNeg])))
  (refine GC.call (by first | rfl | (simp; done) | (simp [hdOK_encU, hdOK_encL, allSz_encU, allSz_encL, encU_length, encL_length, encD_one, encD_cells, AVone_v, AVone_sl, AVone_agg, AVone_ref, AVone_fn, AVone_ifc, AVcells_v, AVcells_sl, AVcells_agg, AVcells_ref, AVcells_fn, AVcells_ifc, Value.oneCell', allSz]; done) | (simp [hdOK_encU, hdOK_encL, allSz_encU, allSz_encL, encU_length, encL_length, encD_one, encD_cells, AVone_v, AVone_sl, AVone_agg, AVone_ref, AVone_fn, AVone_ifc, AVcells_v, AVcells_sl, AVcells_agg, AVcells_ref, AVcells_fn, AVcells_ifc, Value.oneCell', allSz]; omega)) (s1) ?_; refine GC_run2 4000 ?_; dsimp only [go_sem, Nat.reduceBEq, Nat.reduceAdd, Nat.reduceMul, Nat.reduceSub, Int.reduceBEq, Int.reduceBNe, Int.reduceAdd, Int.reduceSub, Int.reduceMul, Int.reduceToNat, Int.reduceNeg])
  (refine GC.call (by first | rfl | (simp; done) | (simp [hdOK_encU, hdOK_encL, allSz_encU, allSz_encL, encU_length, encL_length, encD_one, encD_cells, AVone_v, AVone_sl, AVone_agg, AVone_ref, AVone_fn, AVone_ifc, AVcells_v, AVcells_sl, AVcells_agg, AVcells_ref, AVcells_fn, AVcells_ifc, Value.oneCell', allSz]; done) | (simp [hdOK_encU, hdOK_encL, allSz_encU, allSz_encL, encU_length, encL_length, encD_one, encD_cells, AVone_v, AVone_sl, AVone_agg, AVone_ref, AVone_fn, AVone_ifc, AVcells_v, AVcells_sl, AVcells_agg, AVcells_ref, AVcells_fn, AVcells_ifc, Value.oneCell', allSz]; omega)) (hwk) ?_; refine GC_run2 4000 ?_; dsimp only [go_sem, Nat.reduceBEq, Nat.reduceAdd, Nat.reduceMul, Nat.reduceSub, Int.reduceBEq, Int.reduceBNe, Int.reduceAdd, Int.reduceSub, Int.reduceMul, Int.reduceToNat, Int.reduceNeg])
  (refine GC.ord (by first | rfl | (simp; done) | (simp [hdOK_encU, hdOK_encL, allSz_encU, allSz_encL, encU_length, encL_length, encD_one, encD_cells, AVone_v, AVone_sl, AVone_agg, AVone_ref, AVone_fn, AVone_ifc, AVcells_v, AVcells_sl, AVcells_agg, AVcells_ref, AVcells_fn, AVcells_ifc, Value.oneCell', allSz]; done) | (simp [hdOK_encU, hdOK_encL, allSz_encU, allSz_encL, encU_length, encL_length, encD_one, encD_cells, AVone_v, AVone_sl, AVone_agg, AVone_ref, AVone_fn, AVone_ifc, AVcells_v, AVcells_sl, AVcells_agg, AVcells_ref, AVcells_fn, AVcells_ifc, Value.oneCell', allSz]; omega)) (by kernel_rfl) (by kernel_rfl) ?_; refine GC_run2 4000 ?_; dsimp only [go_sem, Nat.reduceBEq, Nat.reduceAdd, Nat.reduceMul, Nat.reduceSub, Int.reduceBEq, Int.reduceBNe, Int.reduceAdd, Int.reduceSub, Int.reduceMul, Int.reduceToNat, Int.reduceNeg])
  refine GC.finE (by first | rfl | (simp; done) | (simp [hdOK_encU, hdOK_encL, allSz_encU, allSz_encL, encU_length, encL_length, encD_one, encD_cells, AVone_v, AVone_sl, AVone_agg, AVone_ref, AVone_fn, AVone_ifc, AVcells_v, AVcells_sl, AVcells_agg, AVcells_ref, AVcells_fn, AVcells_ifc, Value.oneCell', allSz]; done) | (simp [hdOK_encU, hdOK_encL, allSz_encU, allSz_encL, encU_length, encL_length, encD_one, encD_cells, AVone_v, AVone_sl, AVone_agg, AVone_ref, AVone_fn, AVone_ifc, AVcells_v, AVcells_sl, AVcells_agg, AVcells_ref, AVcells_fn, AVcells_ifc, Value.oneCell', allSz]; omega)) ?_
  rfl
end
end Go.Sy

/- The seat's witness world, and what the laid tables give. By gen.py. -/
namespace Go.Proofs.YthipfoebefcgpaaDoor
open Go.ChangeShapes Go.WideShapes Go.ChangeAt Go.RowKit Go.Lib Go.Sy
set_option maxRecDepth 100000
theorem own : ownKnob Tryd.prog.godebug = none := by kernel_rfl
theorem laidOut : laidOutB Tryd.prog = true := by kernel_rfl
def laidVars : List (String × DataW Unit) := [("unicode/utf8.acceptRanges", Rows.laid_unicode_utf8_acceptRanges), ("unicode/utf8.first", Rows.laid_unicode_utf8_first)]
/-- The settled world, the two tables holding what the program's text lays. -/
noncomputable def laidWorld (os : Os) : World :=
  let w0 := World.holding Tryd.prog os ⟨#[], #[], []⟩
  let put (h : Array Obj) (g : Nat) (cs : Array Value) : Array Obj := h.modify g fun
    | .cells _ t frozen => .cells cs t frozen
    | o => o
  let h1 := put w0.heap 0 (Lib.firstTab.map fun z => Value.int .u8 z).toArray
  let h2 := put h1 1 ((List.range 16).flatMap fun i => [Value.int .u8 (Lib.accLo i), Value.int .u8 (Lib.accHi i)]).toArray
  { w0 with heap := h2 }
theorem laid_met (os : Os) (args : Array Value) : laidMet Tryd.prog laidVars ((laidWorld os).forCall (fun _ _ => 0) ⟨#[], args, []⟩).memory :=
  (LaidIn.of_run (l := laidVars) [1, 0] 8 (by kernel_rfl) (by kernel_rfl) (by kernel_rfl) (by kernel_rfl)).met
theorem laid_metH (os : Os) (args : Array Value) : laidMetH Tryd.prog laidVars ((laidWorld os).forCall (fun _ _ => 0) ⟨#[], args, []⟩).memory := by
  rw [MakeChecks.laidMetH_plain _ _ _ (by kernel_rfl)]
  exact laid_met os args
theorem tabs_of {W : World} (h : laidMetH Tryd.prog laidVars W) : D_Tabs W := by
  rw [MakeChecks.laidMetH_plain _ _ _ (by kernel_rfl)] at h
  have e1 : Rows.laid_unicode_utf8_first = Lib.firstData := by kernel_rfl
  have e2 : (Rows.laid_unicode_utf8_acceptRanges : DataW Unit) = Lib.acceptData := by kernel_rfl
  exact utf8Tabs_of_readsT (U8Types.of196 Tryd.laysValid) ⟨by kernel_rfl, by kernel_rfl, by kernel_rfl, by kernel_rfl, by kernel_rfl, by kernel_rfl, by kernel_rfl⟩ (e1 ▸ Lib.laidMet.reads h (.tail _ (.head _))) (e2 ▸ Lib.laidMet.reads h (.head _))
end Go.Proofs.YthipfoebefcgpaaDoor

/- The row and the card of DatumMay. By gen.py. -/
namespace Go.Proofs.YthipfoebefcgpaaDoor
open Go.ChangeShapes Go.WideShapes Go.ChangeAt Go.RowKit Go.Sy
set_option linter.unusedVariables false
set_option maxRecDepth 100000
theorem datumMay_lifted (os : Os) (started : os.Started) (H : Type) (enc : TypeId × Value → H) :
    ReturnsInHanded {} Tryd.checked os 3 .any (fun w args => (Rows.datumMaySpec.pre enc Tryd.prog Tryd.f3 Rows.datumMayRow.domain false w args ∧ laidMetH Tryd.prog laidVars w) ∧ sizedMet enc Tryd.prog Tryd.f3 (OpenSpec.ofChange Rows.datumMaySpec) false w args)
      (Rows.datumMaySpec.post enc Tryd.prog Tryd.f3 false true false false) := by
  refine returnsInHanded_of_change_and (C := Tryd.checked) (X := fun w _ => laidMetH Tryd.prog laidVars w) (fun _ _ _ hh h => h.of_heap hh) own started (by kernel_rfl) Tryd.func3
    (ChangeSpec.witness_shaped (enc := enc) (C := Tryd.checked) (os := os) (X := fun w _ => laidMetH Tryd.prog laidVars w) false (laidWorld os) #[.agg #[.int .i64 0, .int .i32 0, .bool false, .slice none 0 0, .string ⟨#[]⟩, .slice none 0 0]] 8 rfl (World.shaped_of_RefB (by kernel_rfl) (by kernel_rfl)) (by kernel_rfl) (by kernel_rfl) (by kernel_rfl) (laid_metH os _)) ?_
  intro W base args ds gs before hval0 hW _ _ hL _
  have hval : ∀ (j : Nat) t v, Tryd.f3.params[j]? = some t → args[j]? = some v → Value.okWide Tryd.prog W .any base t v := hval0
  have hW' := hW
  obtain ⟨p, q, hA0, hV, rfl, hfz, hnd⟩ := hW
  have hA : DataW.TrodAll enc Tryd.prog W 0 (fun _ => true) true Tryd.f3.params.toList args.toList ds p := hA0
  rw [Tryd.params3] at hA hval
  obtain ⟨v0, vs0, d0, ds0, p0, q0, hargs, rfl, rfl, h0, r0⟩ := trodAll_cons hA
  obtain ⟨rfl, rfl, rfl⟩ := trodAll_nil r0
  obtain rfl : args = #[v0] := by cases args; simp_all
  obtain ⟨rfl, rfl⟩ := trodVars_none hV
  have k0 := h0
  have lt0 : ∀ x ∈ p0, x.block < W.heap.size := by obtain ⟨m, hm⟩ := k0; exact DataW.trod_lt m _ _ _ hm
  obtain ⟨x0, wf0, e0⟩ := D_arg_dat (κ := fun _ => ⟨0, 0, none⟩) (hval 0 27 v0 rfl rfl) h0
  clear hA0 hval0
  have law := D_law_may (W0 := W) (κ := fun _ => ⟨0, 0, none⟩) (GG := fun _ => none) (tabs_of hL) x0 wf0
  refine (law.run (memOf W) W [v0] (memOf_cons W) (fun g x h => by cases h) (Below.refl _ _) ⟨_, _, rfl, e0, rfl⟩).mono fun e W' hp => ?_
  obtain ⟨v, m', rfl, q1, q2, q3, bel, q5⟩ := hp.out
  have hvt : v = .bool true := q5
  subst hvt
  exact ⟨_, rfl, _, _, _, [], _, [], hW', trodAll_mk1 (shut_bool Tryd.underlying4 _), (trodAll_cons_mk (Below.trod laidOut (by kernel_rfl) (of_decide_eq_true (by kernel_rfl)) k0 bel lt0) trodAll_mk0), rfl, bel.frame _, fun h => by cases h⟩
theorem datumMay_holds : Rows.DatumMaySaid :=
  OpenClaim.holds_of_wide 3 Tryd.f3 rfl rfl rfl rfl rfl rfl rfl ⟨rfl, rfl, rfl, rfl, rfl⟩ rfl rfl rfl rfl rfl (by kernel_rfl) Tryd.func3 (by kernel_rfl)
    (of_decide_eq_true (by kernel_rfl)) (by unfold Func.isWrapper; first | (rw [if_pos (by decide +kernel)]; kernel_rfl) | (rw [if_neg (by decide +kernel)]; exact ⟨rfl, rfl⟩))
    (fun os started H enc _ => datumMay_lifted os started H enc)
theorem datumMay_card_holds : Rows.DatumMayCardSaid :=
  Claim7.holds_tied_plain_at .later [] [.data, .pinned] true Rows.datumMayCard.stood.harness false
    datumMay_holds (fun _ h => by cases h) (by kernel_rfl) (fun _ h => by cases h) datumMay_row_tie rfl ⟨rfl, rfl⟩ (by kernel_rfl) rfl
    (fun f fn hf hfn => by
      obtain rfl : f = 3 := Option.some.inj ((show Tryd.prog.funcNamed Rows.datumMayRow.func = some 3 by kernel_rfl).symm.trans hf) |>.symm
      obtain rfl : fn = Tryd.f3 := (Option.some.inj (Tryd.func3.symm.trans hfn)).symm
      exact ⟨by kernel_rfl, fun j t ht => by
        rw [Tryd.params3] at ht
        have hm : t ∈ [27] := by simpa using Array.mem_of_getElem? ht
        have hall : ([27].all fun u => !Tryd.prog.wantsStandIn u) = true := by kernel_rfl
        exact (show Tryd.prog.wantsStandIn t = false by simpa using List.all_eq_true.1 hall t hm)⟩)
    (by kernel_rfl)
#print axioms datumMay_card_holds
end Go.Proofs.YthipfoebefcgpaaDoor
