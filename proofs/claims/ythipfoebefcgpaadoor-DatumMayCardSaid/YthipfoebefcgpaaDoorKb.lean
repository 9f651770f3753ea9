/- Contracts of the functions, second half; the arguments. -/
import Derived.Test.YthipfoebefcgpaaDoorKa
import Derived.Test.YthipfoebefcgpaaDoorEx3
import Derived.RangeFuncBox
import Derived.Shelf.Abstract
import Derived.WalkKit
import Derived.TacticsInMore
import Derived.LoopNIn
import Derived.LoopIn
set_option linter.unusedVariables false
set_option linter.unusedSimpArgs false
/- Contracts of the program's functions over abstract values. By gen.py. -/
set_option linter.unusedVariables false
set_option linter.unusedSimpArgs false
set_option maxRecDepth 100000
set_option maxHeartbeats 4000000
namespace Go.Sy
open Go.Proofs
attribute [local go_sem] runO_t runO_f band_t band_f bor_t bor_f bnot_t bnot_f gdK_tt gdK_ff gdK_tf gdK_ft brK_t brK_f runE_some runF_some runA_some runG_some runB_some runX_some runR_some run_nil run_skip run_seq run_region run_block run_blk run_exit run_cond run_ret run_loop run_lp run_opsNil run_opsOrd run_opsOp run_opsGuard run_cl run_gd run_br run_fin run_clx run_fst run_callf runY_t runY_f runS_some runV_t runV_f aBuildK_t aBuildK_f Mode.plain run_move run_nilCheck run_assign run_pick run_alloc run_box run_build run_buildSlice run_load run_store run_binOp run_unOp run_convert run_slice run_fieldAddr run_indexAddr run_index run_field run_extract run_makeInterface run_makeFunc run_len run_max run_min run_append St.ev St.evl St.evs St.evo capsOf callOf look drop put putAll toTV_nil toTV_int toTV_bool toTV_str toTV_ptr toTV_ifc toTV_fn toAV_nil toAV_int toAV_bool toAV_str toAV_ptr toAV_ifc toAV_fn aAssign_nil aAssign_tmp aAssign_int aAssign_bool aAssign_str aAssign_ptr aAssign_nilf aAssign_ifc aAssign_func aAssign_glob nilConst_slice nilConst_ptr nilConst_ifc nilConst_tmp plain Option.bind TV.cells TV.one AVone_v AVone_sl AVone_agg AVone_ref AVone_fn AVone_ifc AVone_sent Value.oneCell' oneVs avOf avsOf expo expos expoC exposC TV.isC allC fillsT aBuildT lendR ren renT0 renC renT renO renW xFoot xSt newIds retX retXs isT0 asList List.map St.app setD St.setT ownD trA effFoot callFoot callSt callReq St.fresh freshT freshO allFresh TV.ment TVs.ment SObj.ment fsts mentW noFoot List.contains List.elem aPick aAlloc aBox aBuild aBuildSlice nonNil allSz aUn aConv aField aIndex aByte aPart aExtract aIface aFunc aLen ty1 aMax aApp aAppend aCheck emptyL aSlice okHd hdOK_nil hdOK_cons aLoad aStore aBin aNil sBin sInt isSh sameSh nilness fills fillAt fillTV putCells intOf? mkInt AVcells_v AVcells_sl AVcells_agg AVcells_ref AVcells_fn AVcells_ifc AVcells_sent St.g0 St.g guardOf guardOff udf argsOf lends lendBox bindRes bindR bindRs flatR flatV boolOf retItems retItems0 retItem rowsOf disjB ownIds resIds nodupB St.init initT popTo cond_true cond_false Option.getD Option.map List.take List.drop List.length List.zip List.zipWith List.range List.range.loop List.append List.foldr List.nil_append List.cons_append List.append_nil List.getElem?_cons_zero List.getElem?_cons_succ GetElem?.getElem? List.get?Internal Int.toNat_natCast cst0 cst1 cst2 cst3 cst4 cst5 cst6 cst7 cst8 cst9 cst10 cst11 toNat0 toNat1 toNat2 toNat3 getD0 getD1 getD2 getD3 run_zero memN keepT dropO St.re leT leO D_q2  D_q3  D_q4  D_q5  D_q9  D_q12  D_q21  D_q22  D_q24  D_q25  D_q27  D_q28  D_q32  D_q46  D_q48  D_q50  D_q52  D_q53  D_q54  D_q56  D_q57  D_q61  D_q70  D_q72  D_q76  D_q77  D_q79  D_q80  D_q83  D_q85  D_q91  D_q93  D_q104  D_q108  D_q115  D_q118  D_q121  D_q134  D_q136  D_q137
section
variable {W0 : World} {κ : Nat → Addr} {GG : Nat → Option AV}

theorem D_may (hU : D_Tabs W0) (d : Dat) (hf : fine d) : Sound (CD W0 κ GG) 18 [encD d] [.av (.v (.bool (mayD d)))] := by
  have h1 := D_plain (κ := κ) (GG := GG) hU _ d (Nat.le_refl _) hf
  have h2 := D_depth (W0 := W0) (κ := κ) (GG := GG) _ d (Nat.le_refl _) hf
  unfold mayD
  obtain ⟨k, c, neg, mag, t, l⟩ := d
  simp only [encD] at h1 h2
  (refine Sound.of_go D_ok D_mix Tryd.func18 rfl (by decide) (by kernel_rfl) (GC.go ?_); refine GC_run2 4000 ?_; dsimp only [Tryd.f18, CD, go_sem, Nat.reduceBEq, Nat.reduceAdd, Nat.reduceMul, Nat.reduceSub, Int.reduceBEq, Int.reduceBNe, Int.reduceAdd, Int.reduceSub, Int.reduceMul, Int.reduceToNat, Int.reduceNeg, encD])
  (refine GC.call (by first | rfl | (simp; done) | (simp [hdOK_encU, hdOK_encL, allSz_encU, allSz_encL, encU_length, encL_length, encD_one, encD_cells, AVone_v, AVone_sl, AVone_agg, AVone_ref, AVone_fn, AVone_ifc, AVcells_v, AVcells_sl, AVcells_agg, AVcells_ref, AVcells_fn, AVcells_ifc, Value.oneCell', allSz]; done) | (simp [hdOK_encU, hdOK_encL, allSz_encU, allSz_encL, encU_length, encL_length, encD_one, encD_cells, AVone_v, AVone_sl, AVone_agg, AVone_ref, AVone_fn, AVone_ifc, AVcells_v, AVcells_sl, AVcells_agg, AVcells_ref, AVcells_fn, AVcells_ifc, Value.oneCell', allSz]; omega)) (h1) ?_; refine GC_run2 4000 ?_; dsimp only [go_sem, Nat.reduceBEq, Nat.reduceAdd, Nat.reduceMul, Nat.reduceSub, Int.reduceBEq, Int.reduceBNe, Int.reduceAdd, Int.reduceSub, Int.reduceMul, Int.reduceToNat, Int.reduceNeg])
  (first | (refine GC_gdK (fun h => ?_) (fun h => ?_) <;> (dsimp only [go_sem, Nat.reduceBEq, Nat.reduceAdd, Nat.reduceMul, Nat.reduceSub, Int.reduceBEq, Int.reduceBNe, Int.reduceAdd, Int.reduceSub, Int.reduceMul, Int.reduceToNat, Int.reduceNeg])) | (refine GC_brK (fun h => ?_) (fun h => ?_) <;> (dsimp only [go_sem, Nat.reduceBEq, Nat.reduceAdd, Nat.reduceMul, Nat.reduceSub, Int.reduceBEq, Int.reduceBNe, Int.reduceAdd, Int.reduceSub, Int.reduceMul, Int.reduceToNat, Int.reduceNeg])))
  · (refine GC.call (by first | rfl | (simp; done) | (simp [hdOK_encU, hdOK_encL, allSz_encU, allSz_encL, encU_length, encL_length, encD_one, encD_cells, AVone_v, AVone_sl, AVone_agg, AVone_ref, AVone_fn, AVone_ifc, AVcells_v, AVcells_sl, AVcells_agg, AVcells_ref, AVcells_fn, AVcells_ifc, Value.oneCell', allSz]; done) | (simp [hdOK_encU, hdOK_encL, allSz_encU, allSz_encL, encU_length, encL_length, encD_one, encD_cells, AVone_v, AVone_sl, AVone_agg, AVone_ref, AVone_fn, AVone_ifc, AVcells_v, AVcells_sl, AVcells_agg, AVcells_ref, AVcells_fn, AVcells_ifc, Value.oneCell', allSz]; omega)) (h2) ?_; refine GC_run2 4000 ?_; dsimp only [go_sem, Nat.reduceBEq, Nat.reduceAdd, Nat.reduceMul, Nat.reduceSub, Int.reduceBEq, Int.reduceBNe, Int.reduceAdd, Int.reduceSub, Int.reduceMul, Int.reduceToNat, Int.reduceNeg])
    refine GC.finE (by first | rfl | (simp; done) | (simp [hdOK_encU, hdOK_encL, allSz_encU, allSz_encL, encU_length, encL_length, encD_one, encD_cells, AVone_v, AVone_sl, AVone_agg, AVone_ref, AVone_fn, AVone_ifc, AVcells_v, AVcells_sl, AVcells_agg, AVcells_ref, AVcells_fn, AVcells_ifc, Value.oneCell', allSz]; done) | (simp [hdOK_encU, hdOK_encL, allSz_encU, allSz_encL, encU_length, encL_length, encD_one, encD_cells, AVone_v, AVone_sl, AVone_agg, AVone_ref, AVone_fn, AVone_ifc, AVcells_v, AVcells_sl, AVcells_agg, AVcells_ref, AVcells_fn, AVcells_ifc, Value.oneCell', allSz]; omega)) ?_
    simp [h]
    try omega
  · refine GC.finE (by first | rfl | (simp; done) | (simp [hdOK_encU, hdOK_encL, allSz_encU, allSz_encL, encU_length, encL_length, encD_one, encD_cells, AVone_v, AVone_sl, AVone_agg, AVone_ref, AVone_fn, AVone_ifc, AVcells_v, AVcells_sl, AVcells_agg, AVcells_ref, AVcells_fn, AVcells_ifc, Value.oneCell', allSz]; done) | (simp [hdOK_encU, hdOK_encL, allSz_encU, allSz_encL, encU_length, encL_length, encD_one, encD_cells, AVone_v, AVone_sl, AVone_agg, AVone_ref, AVone_fn, AVone_ifc, AVcells_v, AVcells_sl, AVcells_agg, AVcells_ref, AVcells_fn, AVcells_ifc, Value.oneCell', allSz]; omega)) ?_
    simp [h]
theorem D_str (s : ByteArray) : Sound (CD W0 κ GG) 33 [.v (.string s)] [.av (encD (strD s))] := by
  (refine Sound.of_go D_ok D_mix Tryd.func33 rfl (by decide) (by kernel_rfl) (GC.go ?_); refine GC_run2 4000 ?_; dsimp only [Tryd.f33, CD, go_sem, Nat.reduceBEq, Nat.reduceAdd, Nat.reduceMul, Nat.reduceSub, Int.reduceBEq, Int.reduceBNe, Int.reduceAdd, Int.reduceSub, Int.reduceMul, Int.reduceToNat, Int.reduceNeg, encD])
  refine GC.finE (by first | rfl | (simp; done) | (simp [hdOK_encU, hdOK_encL, allSz_encU, allSz_encL, encU_length, encL_length, encD_one, encD_cells, AVone_v, AVone_sl, AVone_agg, AVone_ref, AVone_fn, AVone_ifc, AVcells_v, AVcells_sl, AVcells_agg, AVcells_ref, AVcells_fn, AVcells_ifc, Value.oneCell', allSz]; done) | (simp [hdOK_encU, hdOK_encL, allSz_encU, allSz_encL, encU_length, encL_length, encD_one, encD_cells, AVone_v, AVone_sl, AVone_agg, AVone_ref, AVone_fn, AVone_ifc, AVcells_v, AVcells_sl, AVcells_agg, AVcells_ref, AVcells_fn, AVcells_ifc, Value.oneCell', allSz]; omega)) ?_
  rfl
theorem D_sym (s : ByteArray) : Sound (CD W0 κ GG) 34 [.v (.string s)] [.av (encD (symD s))] := by
  (refine Sound.of_go D_ok D_mix Tryd.func34 rfl (by decide) (by kernel_rfl) (GC.go ?_); refine GC_run2 4000 ?_; dsimp only [Tryd.f34, CD, go_sem, Nat.reduceBEq, Nat.reduceAdd, Nat.reduceMul, Nat.reduceSub, Int.reduceBEq, Int.reduceBNe, Int.reduceAdd, Int.reduceSub, Int.reduceMul, Int.reduceToNat, Int.reduceNeg, encD])
  refine GC.finE (by first | rfl | (simp; done) | (simp [hdOK_encU, hdOK_encL, allSz_encU, allSz_encL, encU_length, encL_length, encD_one, encD_cells, AVone_v, AVone_sl, AVone_agg, AVone_ref, AVone_fn, AVone_ifc, AVcells_v, AVcells_sl, AVcells_agg, AVcells_ref, AVcells_fn, AVcells_ifc, Value.oneCell', allSz]; done) | (simp [hdOK_encU, hdOK_encL, allSz_encU, allSz_encL, encU_length, encL_length, encD_one, encD_cells, AVone_v, AVone_sl, AVone_agg, AVone_ref, AVone_fn, AVone_ifc, AVcells_v, AVcells_sl, AVcells_agg, AVcells_ref, AVcells_fn, AVcells_ifc, Value.oneCell', allSz]; omega)) ?_
  rfl
theorem D_made (neg : Bool) (m : List Int) (hm : m.length < 1099511627776) : Sound (CD W0 κ GG) 84 [.v (.bool neg), .sl (encU m)] [.av (.agg [.v (.bool (madeN neg m).1), .sl (encU (madeN neg m).2.1)]), .av (.v (.int .i64 (madeN neg m).2.2))] := by
  have hl := encU_length (trimL m)
  have hle := trimL_le m
  have hc := D_clone (W0 := W0) (κ := κ) (GG := GG) (trimL m) (by omega)
  by_cases hb : 48 < (trimL m).length
  · have hd : decide (((encU (trimL m)).length : Int) > 48) = true := by simp; omega
    have e : madeN neg m = (false, [], 6) := by simp [madeN, hb]
    rw [e]
    (refine Sound.of_go D_ok D_mix Tryd.func84 rfl (by decide) (by kernel_rfl) (GC.go ?_); refine GC_run2 4000 ?_; dsimp only [Tryd.f84, CD, go_sem, Nat.reduceBEq, Nat.reduceAdd, Nat.reduceMul, Nat.reduceSub, Int.reduceBEq, Int.reduceBNe, Int.reduceAdd, Int.reduceSub, Int.reduceMul, Int.reduceToNat, Int.reduceNeg, encD])
    (refine GC.call (by first | rfl | (simp; done) | (simp [hdOK_encU, hdOK_encL, allSz_encU, allSz_encL, encU_length, encL_length, encD_one, encD_cells, AVone_v, AVone_sl, AVone_agg, AVone_ref, AVone_fn, AVone_ifc, AVcells_v, AVcells_sl, AVcells_agg, AVcells_ref, AVcells_fn, AVcells_ifc, Value.oneCell', allSz]; done) | (simp [hdOK_encU, hdOK_encL, allSz_encU, allSz_encL, encU_length, encL_length, encD_one, encD_cells, AVone_v, AVone_sl, AVone_agg, AVone_ref, AVone_fn, AVone_ifc, AVcells_v, AVcells_sl, AVcells_agg, AVcells_ref, AVcells_fn, AVcells_ifc, Value.oneCell', allSz]; omega)) (D_trim m hm) ?_; refine GC_run2 4000 ?_; dsimp only [go_sem, Nat.reduceBEq, Nat.reduceAdd, Nat.reduceMul, Nat.reduceSub, Int.reduceBEq, Int.reduceBNe, Int.reduceAdd, Int.reduceSub, Int.reduceMul, Int.reduceToNat, Int.reduceNeg])
    (repeat (simp only [hd]; try (dsimp only [go_sem, Nat.reduceBEq, Nat.reduceAdd, Nat.reduceMul, Nat.reduceSub, Int.reduceBEq, Int.reduceBNe, Int.reduceAdd, Int.reduceSub, Int.reduceMul, Int.reduceToNat, Int.reduceNeg])))
    refine GC.finE (by first | rfl | (simp; done) | (simp [hdOK_encU, hdOK_encL, allSz_encU, allSz_encL, encU_length, encL_length, encD_one, encD_cells, AVone_v, AVone_sl, AVone_agg, AVone_ref, AVone_fn, AVone_ifc, AVcells_v, AVcells_sl, AVcells_agg, AVcells_ref, AVcells_fn, AVcells_ifc, Value.oneCell', allSz]; done) | (simp [hdOK_encU, hdOK_encL, allSz_encU, allSz_encL, encU_length, encL_length, encD_one, encD_cells, AVone_v, AVone_sl, AVone_agg, AVone_ref, AVone_fn, AVone_ifc, AVcells_v, AVcells_sl, AVcells_agg, AVcells_ref, AVcells_fn, AVcells_ifc, Value.oneCell', allSz]; omega)) ?_
    rfl
  · have hd : decide (((encU (trimL m)).length : Int) > 48) = false := by simp; omega
    have e : madeN neg m = (neg && decide (0 < (trimL m).length), trimL m, 0) := by simp [madeN, hb]
    rw [e]
    (refine Sound.of_go D_ok D_mix Tryd.func84 rfl (by decide) (by kernel_rfl) (GC.go ?_); refine GC_run2 4000 ?_; dsimp only [Tryd.f84, CD, go_sem, Nat.reduceBEq, Nat.reduceAdd, Nat.reduceMul, Nat.reduceSub, Int.reduceBEq, Int.reduceBNe, Int.reduceAdd, Int.reduceSub, Int.reduceMul, Int.reduceToNat, Int.reduceNeg, encD])
    (refine GC.call (by first | rfl | (simp; done) | (simp [hdOK_encU, hdOK_encL, allSz_encU, allSz_encL, encU_length, encL_length, encD_one, encD_cells, AVone_v, AVone_sl, AVone_agg, AVone_ref, AVone_fn, AVone_ifc, AVcells_v, AVcells_sl, AVcells_agg, AVcells_ref, AVcells_fn, AVcells_ifc, Value.oneCell', allSz]; done) | (simp [hdOK_encU, hdOK_encL, allSz_encU, allSz_encL, encU_length, encL_length, encD_one, encD_cells, AVone_v, AVone_sl, AVone_agg, AVone_ref, AVone_fn, AVone_ifc, AVcells_v, AVcells_sl, AVcells_agg, AVcells_ref, AVcells_fn, AVcells_ifc, Value.oneCell', allSz]; omega)) (D_trim m hm) ?_; refine GC_run2 4000 ?_; dsimp only [go_sem, Nat.reduceBEq, Nat.reduceAdd, Nat.reduceMul, Nat.reduceSub, Int.reduceBEq, Int.reduceBNe, Int.reduceAdd, Int.reduceSub, Int.reduceMul, Int.reduceToNat, Int.reduceNeg])
    (repeat (simp only [hd]; try (dsimp only [go_sem, Nat.reduceBEq, Nat.reduceAdd, Nat.reduceMul, Nat.reduceSub, Int.reduceBEq, Int.reduceBNe, Int.reduceAdd, Int.reduceSub, Int.reduceMul, Int.reduceToNat, Int.reduceNeg])))
    (first | (refine GC_gdK (fun h => ?_) (fun h => ?_) <;> (dsimp only [go_sem, Nat.reduceBEq, Nat.reduceAdd, Nat.reduceMul, Nat.reduceSub, Int.reduceBEq, Int.reduceBNe, Int.reduceAdd, Int.reduceSub, Int.reduceMul, Int.reduceToNat, Int.reduceNeg])) | (refine GC_brK (fun h => ?_) (fun h => ?_) <;> (dsimp only [go_sem, Nat.reduceBEq, Nat.reduceAdd, Nat.reduceMul, Nat.reduceSub, Int.reduceBEq, Int.reduceBNe, Int.reduceAdd, Int.reduceSub, Int.reduceMul, Int.reduceToNat, Int.reduceNeg])))
    all_goals
      (refine GC.call (by first | rfl | (simp; done) | (simp [hdOK_encU, hdOK_encL, allSz_encU, allSz_encL, encU_length, encL_length, encD_one, encD_cells, AVone_v, AVone_sl, AVone_agg, AVone_ref, AVone_fn, AVone_ifc, AVcells_v, AVcells_sl, AVcells_agg, AVcells_ref, AVcells_fn, AVcells_ifc, Value.oneCell', allSz]; done) | (simp [hdOK_encU, hdOK_encL, allSz_encU, allSz_encL, encU_length, encL_length, encD_one, encD_cells, AVone_v, AVone_sl, AVone_agg, AVone_ref, AVone_fn, AVone_ifc, AVcells_v, AVcells_sl, AVcells_agg, AVcells_ref, AVcells_fn, AVcells_ifc, Value.oneCell', allSz]; omega)) (hc) ?_; refine GC_run2 4000 ?_; dsimp only [go_sem, Nat.reduceBEq, Nat.reduceAdd, Nat.reduceMul, Nat.reduceSub, Int.reduceBEq, Int.reduceBNe, Int.reduceAdd, Int.reduceSub, Int.reduceMul, Int.reduceToNat, Int.reduceNeg])
      refine GC.finE (by first | rfl | (simp; done) | (simp [hdOK_encU, hdOK_encL, allSz_encU, allSz_encL, encU_length, encL_length, encD_one, encD_cells, AVone_v, AVone_sl, AVone_agg, AVone_ref, AVone_fn, AVone_ifc, AVcells_v, AVcells_sl, AVcells_agg, AVcells_ref, AVcells_fn, AVcells_ifc, Value.oneCell', allSz]; done) | (simp [hdOK_encU, hdOK_encL, allSz_encU, allSz_encL, encU_length, encL_length, encD_one, encD_cells, AVone_v, AVone_sl, AVone_agg, AVone_ref, AVone_fn, AVone_ifc, AVcells_v, AVcells_sl, AVcells_agg, AVcells_ref, AVcells_fn, AVcells_ifc, Value.oneCell', allSz]; omega)) ?_
      simp [hl] at *
      simp [*]
theorem D_rnsame (neg neg' : Bool) (a b : List Int) (ha : a.length < 1099511627776) : Sound (CD W0 κ GG) 31 [.agg [.v (.bool neg), .sl (encU a)], .agg [.v (.bool neg'), .sl (encU b)]] [.av (.v (.bool (neg == neg' && decide (a = b))))] := by
  have hl := encU_length a
  have hl2 := encU_length b
  by_cases hn : neg = neg'
  case neg =>
    have hd : (neg == neg') = false := by simpa using hn
    (refine Sound.of_go D_ok D_mix Tryd.func31 rfl (by decide) (by kernel_rfl) (GC.go ?_); refine GC_run2 4000 ?_; dsimp only [Tryd.f31, CD, go_sem, Nat.reduceBEq, Nat.reduceAdd, Nat.reduceMul, Nat.reduceSub, Int.reduceBEq, Int.reduceBNe, Int.reduceAdd, Int.reduceSub, Int.reduceMul, Int.reduceToNat, Int.reduceNeg, encD])
    (repeat (simp only [hd]; try (dsimp only [go_sem, Nat.reduceBEq, Nat.reduceAdd, Nat.reduceMul, Nat.reduceSub, Int.reduceBEq, Int.reduceBNe, Int.reduceAdd, Int.reduceSub, Int.reduceMul, Int.reduceToNat, Int.reduceNeg])))
    refine GC.finE (by first | rfl | (simp; done) | (simp [hdOK_encU, hdOK_encL, allSz_encU, allSz_encL, encU_length, encL_length, encD_one, encD_cells, AVone_v, AVone_sl, AVone_agg, AVone_ref, AVone_fn, AVone_ifc, AVcells_v, AVcells_sl, AVcells_agg, AVcells_ref, AVcells_fn, AVcells_ifc, Value.oneCell', allSz]; done) | (simp [hdOK_encU, hdOK_encL, allSz_encU, allSz_encL, encU_length, encL_length, encD_one, encD_cells, AVone_v, AVone_sl, AVone_agg, AVone_ref, AVone_fn, AVone_ifc, AVcells_v, AVcells_sl, AVcells_agg, AVcells_ref, AVcells_fn, AVcells_ifc, Value.oneCell', allSz]; omega)) ?_
    simp [hn]
  subst hn
  have hd0 : (neg == neg) = true := by simp
  by_cases hab : a.length = b.length
  case neg =>
    have hd : (((encU a).length : Int) != (encU b).length) = true := by simp [bne_len, hl, hl2, hab]
    (refine Sound.of_go D_ok D_mix Tryd.func31 rfl (by decide) (by kernel_rfl) (GC.go ?_); refine GC_run2 4000 ?_; dsimp only [Tryd.f31, CD, go_sem, Nat.reduceBEq, Nat.reduceAdd, Nat.reduceMul, Nat.reduceSub, Int.reduceBEq, Int.reduceBNe, Int.reduceAdd, Int.reduceSub, Int.reduceMul, Int.reduceToNat, Int.reduceNeg, encD])
    (repeat (simp only [hd0, hd]; try (dsimp only [go_sem, Nat.reduceBEq, Nat.reduceAdd, Nat.reduceMul, Nat.reduceSub, Int.reduceBEq, Int.reduceBNe, Int.reduceAdd, Int.reduceSub, Int.reduceMul, Int.reduceToNat, Int.reduceNeg])))
    refine GC.finE (by first | rfl | (simp; done) | (simp [hdOK_encU, hdOK_encL, allSz_encU, allSz_encL, encU_length, encL_length, encD_one, encD_cells, AVone_v, AVone_sl, AVone_agg, AVone_ref, AVone_fn, AVone_ifc, AVcells_v, AVcells_sl, AVcells_agg, AVcells_ref, AVcells_fn, AVcells_ifc, Value.oneCell', allSz]; done) | (simp [hdOK_encU, hdOK_encL, allSz_encU, allSz_encL, encU_length, encL_length, encD_one, encD_cells, AVone_v, AVone_sl, AVone_agg, AVone_ref, AVone_fn, AVone_ifc, AVcells_v, AVcells_sl, AVcells_agg, AVcells_ref, AVcells_fn, AVcells_ifc, Value.oneCell', allSz]; omega)) ?_
    simp
    intro e; subst e; exact hab rfl
  · have hd1 : (((encU a).length : Int) != (encU b).length) = false := by simp [bne_len, hl, hl2, hab]
    (refine Sound.of_go D_ok D_mix Tryd.func31 rfl (by decide) (by kernel_rfl) (GC.go ?_); refine GC_run2 4000 ?_; dsimp only [Tryd.f31, CD, go_sem, Nat.reduceBEq, Nat.reduceAdd, Nat.reduceMul, Nat.reduceSub, Int.reduceBEq, Int.reduceBNe, Int.reduceAdd, Int.reduceSub, Int.reduceMul, Int.reduceToNat, Int.reduceNeg, encD])
    (repeat (simp only [hd0, hd1]; try (dsimp only [go_sem, Nat.reduceBEq, Nat.reduceAdd, Nat.reduceMul, Nat.reduceSub, Int.reduceBEq, Int.reduceBNe, Int.reduceAdd, Int.reduceSub, Int.reduceMul, Int.reduceToNat, Int.reduceNeg])))
    refine GC.loopR (by first | rfl | (simp; done) | (simp [hdOK_encU, hdOK_encL, allSz_encU, allSz_encL, encU_length, encL_length, encD_one, encD_cells, AVone_v, AVone_sl, AVone_agg, AVone_ref, AVone_fn, AVone_ifc, AVcells_v, AVcells_sl, AVcells_agg, AVcells_ref, AVcells_fn, AVcells_ifc, Value.oneCell', allSz]; done) | (simp [hdOK_encU, hdOK_encL, allSz_encU, allSz_encL, encU_length, encL_length, encD_one, encD_cells, AVone_v, AVone_sl, AVone_agg, AVone_ref, AVone_fn, AVone_ifc, AVcells_v, AVcells_sl, AVcells_agg, AVcells_ref, AVcells_fn, AVcells_ifc, Value.oneCell', allSz]; omega)) (encU a).length [2, 3] (fun j => [(5, .av (.v (.int .i64 (j : Nat))))]) (fun j => []) (fun j => a.take j = b.take j) ⟨rfl, trivial⟩ trivial rfl (fun j hj hI => ?_)
    rcases Nat.lt_or_ge j a.length with hlt | hge
    · have hd := dec_lt (show j < (encU a).length by omega)
      have hx : (encU a).getD j dflt = _ := encU_get hlt
      have hy : (encU b).getD j dflt = _ := encU_get (show j < b.length by omega)
      (refine GC_run2 4000 ?_; dsimp only [go_sem, Nat.reduceBEq, Nat.reduceAdd, Nat.reduceMul, Nat.reduceSub, Int.reduceBEq, Int.reduceBNe, Int.reduceAdd, Int.reduceSub, Int.reduceMul, Int.reduceToNat, Int.reduceNeg])
      (repeat (simp only [hd, hx, hy]; try (dsimp only [go_sem, Nat.reduceBEq, Nat.reduceAdd, Nat.reduceMul, Nat.reduceSub, Int.reduceBEq, Int.reduceBNe, Int.reduceAdd, Int.reduceSub, Int.reduceMul, Int.reduceToNat, Int.reduceNeg])))
      (refine GC.ord (by first | rfl | (simp; done) | (simp [hdOK_encU, hdOK_encL, allSz_encU, allSz_encL, encU_length, encL_length, encD_one, encD_cells, AVone_v, AVone_sl, AVone_agg, AVone_ref, AVone_fn, AVone_ifc, AVcells_v, AVcells_sl, AVcells_agg, AVcells_ref, AVcells_fn, AVcells_ifc, Value.oneCell', allSz]; done) | (simp [hdOK_encU, hdOK_encL, allSz_encU, allSz_encL, encU_length, encL_length, encD_one, encD_cells, AVone_v, AVone_sl, AVone_agg, AVone_ref, AVone_fn, AVone_ifc, AVcells_v, AVcells_sl, AVcells_agg, AVcells_ref, AVcells_fn, AVcells_ifc, Value.oneCell', allSz]; omega)) (by kernel_rfl) (by kernel_rfl) ?_; refine GC_run2 4000 ?_; dsimp only [go_sem, Nat.reduceBEq, Nat.reduceAdd, Nat.reduceMul, Nat.reduceSub, Int.reduceBEq, Int.reduceBNe, Int.reduceAdd, Int.reduceSub, Int.reduceMul, Int.reduceToNat, Int.reduceNeg])
      (refine GC_brK (fun h => ?_) (fun h => ?_) <;> (dsimp only [go_sem, Nat.reduceBEq, Nat.reduceAdd, Nat.reduceMul, Nat.reduceSub, Int.reduceBEq, Int.reduceBNe, Int.reduceAdd, Int.reduceSub, Int.reduceMul, Int.reduceToNat, Int.reduceNeg]))
      · refine GC.finE (by first | rfl | (simp; done) | (simp [hdOK_encU, hdOK_encL, allSz_encU, allSz_encL, encU_length, encL_length, encD_one, encD_cells, AVone_v, AVone_sl, AVone_agg, AVone_ref, AVone_fn, AVone_ifc, AVcells_v, AVcells_sl, AVcells_agg, AVcells_ref, AVcells_fn, AVcells_ifc, Value.oneCell', allSz]; done) | (simp [hdOK_encU, hdOK_encL, allSz_encU, allSz_encL, encU_length, encL_length, encD_one, encD_cells, AVone_v, AVone_sl, AVone_agg, AVone_ref, AVone_fn, AVone_ifc, AVcells_v, AVcells_sl, AVcells_agg, AVcells_ref, AVcells_fn, AVcells_ifc, Value.oneCell', allSz]; omega)) ?_
        have : a ≠ b := getD_ne hlt (by omega) (by simpa using h)
        simp [this]
      · (refine GC.backR (by first | (simp [hdOK_encU, hdOK_encL, allSz_encU, allSz_encL, encU_length, encL_length, encD_one, encD_cells, AVone_v, AVone_sl, AVone_agg, AVone_ref, AVone_fn, AVone_ifc, AVcells_v, AVcells_sl, AVcells_agg, AVcells_ref, AVcells_fn, AVcells_ifc, Value.oneCell', allSz, hl, hl2]; done) | (simp [hdOK_encU, hdOK_encL, allSz_encU, allSz_encL, encU_length, encL_length, encD_one, encD_cells, AVone_v, AVone_sl, AVone_agg, AVone_ref, AVone_fn, AVone_ifc, AVcells_v, AVcells_sl, AVcells_agg, AVcells_ref, AVcells_fn, AVcells_ifc, Value.oneCell', allSz, hl, hl2]; omega)) (by omega) (take_step hlt (by omega) hI (by simpa using h)) ?_ ?_ <;> (repeat' (first | exact trivial | refine And.intro ?_ ?_)) <;> (try (dsimp only [go_sem, Nat.reduceBEq, Nat.reduceAdd, Nat.reduceMul, Nat.reduceSub, Int.reduceBEq, Int.reduceBNe, Int.reduceAdd, Int.reduceSub, Int.reduceMul, Int.reduceToNat, Int.reduceNeg])))
        exact congrArg (fun n => some (TV.av (.v (.int .i64 n)))) (wrap_nat j (by omega))
    · have hd := dec_ge (show (encU a).length ≤ j by omega)
      have : j = a.length := by omega
      subst this
      have : a = b := eq_of_upto (by omega) hI
      subst this
      (refine GC_run2 4000 ?_; dsimp only [go_sem, Nat.reduceBEq, Nat.reduceAdd, Nat.reduceMul, Nat.reduceSub, Int.reduceBEq, Int.reduceBNe, Int.reduceAdd, Int.reduceSub, Int.reduceMul, Int.reduceToNat, Int.reduceNeg])
      (repeat (simp only [hd]; try (dsimp only [go_sem, Nat.reduceBEq, Nat.reduceAdd, Nat.reduceMul, Nat.reduceSub, Int.reduceBEq, Int.reduceBNe, Int.reduceAdd, Int.reduceSub, Int.reduceMul, Int.reduceToNat, Int.reduceNeg])))
      refine GC.finE (by first | rfl | (simp; done) | (simp [hdOK_encU, hdOK_encL, allSz_encU, allSz_encL, encU_length, encL_length, encD_one, encD_cells, AVone_v, AVone_sl, AVone_agg, AVone_ref, AVone_fn, AVone_ifc, AVcells_v, AVcells_sl, AVcells_agg, AVcells_ref, AVcells_fn, AVcells_ifc, Value.oneCell', allSz]; done) | (simp [hdOK_encU, hdOK_encL, allSz_encU, allSz_encL, encU_length, encL_length, encD_one, encD_cells, AVone_v, AVone_sl, AVone_agg, AVone_ref, AVone_fn, AVone_ifc, AVcells_v, AVcells_sl, AVcells_agg, AVcells_ref, AVcells_fn, AVcells_ifc, Value.oneCell', allSz]; omega)) ?_
      simp

theorem D_weigh3 : ∀ (n : Nat) (d : Dat) (left : Int), cnt d ≤ n → 0 ≤ left → left < 1099511627776 → Sound (CD W0 κ GG) 50 [encD d, .v (.int .i64 left)] [.av (.v (.int .i64 (weighD 3000 3000 true d left)))]
  | 0, d, _, h, _, _ => absurd h (by have := cnt_pos d; omega)
  | n + 1, .mk k c neg mag t l, left, hn, h0, hB => by
    have hll := encL_length l
    have hu := encU_length mag
    simp only [cnt] at hn
    have hw1 : IntKind.i64.wrap (left - 1) = left - 1 := wrap_i64 (by omega) (by omega)
    simp only [weighD]
    by_cases hT : 3000 < t.size
    · have hd : decide ((t.size : Int) > 3000) = true := by simp; omega
      rw [if_pos (.inl hT)]
      (refine Sound.of_go D_ok D_mix Tryd.func50 rfl (by decide) (by kernel_rfl) (GC.go ?_); refine GC_run2 4000 ?_; dsimp only [Tryd.f50, CD, go_sem, Nat.reduceBEq, Nat.reduceAdd, Nat.reduceMul, Nat.reduceSub, Int.reduceBEq, Int.reduceBNe, Int.reduceAdd, Int.reduceSub, Int.reduceMul, Int.reduceToNat, Int.reduceNeg, encD])
      (repeat (simp only [hw1, hd]; try (dsimp only [go_sem, Nat.reduceBEq, Nat.reduceAdd, Nat.reduceMul, Nat.reduceSub, Int.reduceBEq, Int.reduceBNe, Int.reduceAdd, Int.reduceSub, Int.reduceMul, Int.reduceToNat, Int.reduceNeg])))
      refine GC.finE (by first | rfl | (simp; done) | (simp [hdOK_encU, hdOK_encL, allSz_encU, allSz_encL, encU_length, encL_length, encD_one, encD_cells, AVone_v, AVone_sl, AVone_agg, AVone_ref, AVone_fn, AVone_ifc, AVcells_v, AVcells_sl, AVcells_agg, AVcells_ref, AVcells_fn, AVcells_ifc, Value.oneCell', allSz]; done) | (simp [hdOK_encU, hdOK_encL, allSz_encU, allSz_encL, encU_length, encL_length, encD_one, encD_cells, AVone_v, AVone_sl, AVone_agg, AVone_ref, AVone_fn, AVone_ifc, AVcells_v, AVcells_sl, AVcells_agg, AVcells_ref, AVcells_fn, AVcells_ifc, Value.oneCell', allSz]; omega)) ?_
      rfl
    have hd1 : decide ((t.size : Int) > 3000) = false := by simp; omega
    by_cases hM : 3000 < mag.length
    · have hd : decide (((encU mag).length : Int) > 3000) = true := by simp; omega
      rw [if_pos (.inr hM)]
      (refine Sound.of_go D_ok D_mix Tryd.func50 rfl (by decide) (by kernel_rfl) (GC.go ?_); refine GC_run2 4000 ?_; dsimp only [Tryd.f50, CD, go_sem, Nat.reduceBEq, Nat.reduceAdd, Nat.reduceMul, Nat.reduceSub, Int.reduceBEq, Int.reduceBNe, Int.reduceAdd, Int.reduceSub, Int.reduceMul, Int.reduceToNat, Int.reduceNeg, encD])
      (repeat (simp only [hw1, hd1, hd]; try (dsimp only [go_sem, Nat.reduceBEq, Nat.reduceAdd, Nat.reduceMul, Nat.reduceSub, Int.reduceBEq, Int.reduceBNe, Int.reduceAdd, Int.reduceSub, Int.reduceMul, Int.reduceToNat, Int.reduceNeg])))
      refine GC.finE (by first | rfl | (simp; done) | (simp [hdOK_encU, hdOK_encL, allSz_encU, allSz_encL, encU_length, encL_length, encD_one, encD_cells, AVone_v, AVone_sl, AVone_agg, AVone_ref, AVone_fn, AVone_ifc, AVcells_v, AVcells_sl, AVcells_agg, AVcells_ref, AVcells_fn, AVcells_ifc, Value.oneCell', allSz]; done) | (simp [hdOK_encU, hdOK_encL, allSz_encU, allSz_encL, encU_length, encL_length, encD_one, encD_cells, AVone_v, AVone_sl, AVone_agg, AVone_ref, AVone_fn, AVone_ifc, AVcells_v, AVcells_sl, AVcells_agg, AVcells_ref, AVcells_fn, AVcells_ifc, Value.oneCell', allSz]; omega)) ?_
      rfl
    · have hd2 : decide (((encU mag).length : Int) > 3000) = false := by simp; omega
      rw [if_neg (by omega)]
      (refine Sound.of_go D_ok D_mix Tryd.func50 rfl (by decide) (by kernel_rfl) (GC.go ?_); refine GC_run2 4000 ?_; dsimp only [Tryd.f50, CD, go_sem, Nat.reduceBEq, Nat.reduceAdd, Nat.reduceMul, Nat.reduceSub, Int.reduceBEq, Int.reduceBNe, Int.reduceAdd, Int.reduceSub, Int.reduceMul, Int.reduceToNat, Int.reduceNeg, encD])
      (repeat (simp only [hw1, hd1, hd2]; try (dsimp only [go_sem, Nat.reduceBEq, Nat.reduceAdd, Nat.reduceMul, Nat.reduceSub, Int.reduceBEq, Int.reduceBNe, Int.reduceAdd, Int.reduceSub, Int.reduceMul, Int.reduceToNat, Int.reduceNeg])))
      generalize hL : left - 1 - cost true t.size - cost true mag.length = L0 at *
      have hL0 : -1099511627776 < L0 ∧ L0 ≤ left - 1 := by
        have h1 := cost_nonneg true t.size
        have h2 := cost_nonneg true mag.length
        have h3 : cost true t.size ≤ t.size := by unfold cost; split <;> omega
        have h4 : cost true mag.length ≤ mag.length := by unfold cost; split <;> omega
        omega
      have hm3 : mag.length ≤ 3000 := by omega
      have hq1 : IntKind.i64.wrap ((t.size : Int).tdiv 16) = cost true t.size := by
        rw [Int.tdiv_eq_ediv_of_nonneg (by omega), wrap_i64 (by omega) (by omega)]; simp [cost]
      have hq2 : IntKind.i64.wrap (((encU mag).length : Int).tdiv 16) = cost true mag.length := by
        rw [hu, Int.tdiv_eq_ediv_of_nonneg (by omega), wrap_i64 (by omega) (by omega)]; simp [cost]
      have hq3 : IntKind.i64.wrap (left - 1 - cost true t.size) = left - 1 - cost true t.size := wrap_i64 (by have := cost_nonneg true mag.length; omega) (by have := cost_nonneg true t.size; omega)
      have hq4 : IntKind.i64.wrap (left - 1 - cost true t.size - cost true mag.length) = L0 := by rw [hL]; exact wrap_i64 (by omega) (by omega)
      refine GC.loopR (by first | rfl | (simp; done) | (simp [hdOK_encU, hdOK_encL, allSz_encU, allSz_encL, encU_length, encL_length, encD_one, encD_cells, AVone_v, AVone_sl, AVone_agg, AVone_ref, AVone_fn, AVone_ifc, AVcells_v, AVcells_sl, AVcells_agg, AVcells_ref, AVcells_fn, AVcells_ifc, Value.oneCell', allSz]; done) | (simp [hdOK_encU, hdOK_encL, allSz_encU, allSz_encL, encU_length, encL_length, encD_one, encD_cells, AVone_v, AVone_sl, AVone_agg, AVone_ref, AVone_fn, AVone_ifc, AVcells_v, AVcells_sl, AVcells_agg, AVcells_ref, AVcells_fn, AVcells_ifc, Value.oneCell', allSz]; omega)) l.length [2] (fun j => [(1, .av (.v (.int .i64 (weighL 3000 3000 true (l.take j) L0)))), (5, .av (.v (.int .i64 (j : Nat))))]) (fun j => []) (fun j => (0 < j → (j : Int) ≤ left)) ⟨?_, rfl, trivial⟩ trivial (by omega) (fun j hj hI => ?_)
      · simp only [look, hq1, hq2, hq3, hq4]; rfl
      have hcur := weighL_le 3000 3000 true (l.take j) L0
      have hcl := cntL_len (l.take j)
      rw [List.length_take, Nat.min_eq_left hj] at hcl
      rcases Nat.lt_or_ge j l.length with hlt | hge
      · have hd := dec_lt (show j < (encL l).length by omega)
        rcases Int.lt_or_le (weighL 3000 3000 true (l.take j) L0) 0 with hneg | hpos
        · have hd2 : decide (weighL 3000 3000 true (l.take j) L0 ≥ 0) = false := by simp; omega
          have hres : weighL 3000 3000 true l L0 = weighL 3000 3000 true (l.take j) L0 := by
            have := weighL_append 3000 3000 true (l.take j) (l.drop j) L0
            rw [List.take_append_drop] at this
            rw [this, weighL_neg _ _ _ _ hneg]
          rw [hres]
          generalize weighL 3000 3000 true (l.take j) L0 = cur at *
          (refine GC_run2 4000 ?_; dsimp only [go_sem, Nat.reduceBEq, Nat.reduceAdd, Nat.reduceMul, Nat.reduceSub, Int.reduceBEq, Int.reduceBNe, Int.reduceAdd, Int.reduceSub, Int.reduceMul, Int.reduceToNat, Int.reduceNeg])
          (repeat (simp only [hd, hd2]; try (dsimp only [go_sem, Nat.reduceBEq, Nat.reduceAdd, Nat.reduceMul, Nat.reduceSub, Int.reduceBEq, Int.reduceBNe, Int.reduceAdd, Int.reduceSub, Int.reduceMul, Int.reduceToNat, Int.reduceNeg])))
          refine GC.finE (by first | rfl | (simp; done) | (simp [hdOK_encU, hdOK_encL, allSz_encU, allSz_encL, encU_length, encL_length, encD_one, encD_cells, AVone_v, AVone_sl, AVone_agg, AVone_ref, AVone_fn, AVone_ifc, AVcells_v, AVcells_sl, AVcells_agg, AVcells_ref, AVcells_fn, AVcells_ifc, Value.oneCell', allSz]; done) | (simp [hdOK_encU, hdOK_encL, allSz_encU, allSz_encL, encU_length, encL_length, encD_one, encD_cells, AVone_v, AVone_sl, AVone_agg, AVone_ref, AVone_fn, AVone_ifc, AVcells_v, AVcells_sl, AVcells_agg, AVcells_ref, AVcells_fn, AVcells_ifc, Value.oneCell', allSz]; omega)) ?_
          rfl
        · have hd2 : decide (weighL 3000 3000 true (l.take j) L0 ≥ 0) = true := by simp; omega
          have hx : (encL l).getD j dflt = _ := encL_get hlt
          have hmem : l[j] ∈ l := List.getElem_mem hlt
          have hc := cntL_get hmem
          have hs := D_weigh3 n l[j] (weighL 3000 3000 true (l.take j) L0) (by omega) hpos (by omega)
          have hst : weighL 3000 3000 true (l.take (j + 1)) L0 = weighD 3000 3000 true l[j] (weighL 3000 3000 true (l.take j) L0) := by
            rw [List.take_succ_eq_append_getElem hlt, weighL_append]
            simp only [weighL]
            rw [if_pos hpos]
          generalize weighL 3000 3000 true (l.take j) L0 = cur at *
          generalize l[j] = x at *
          obtain ⟨xk, xc, xneg, xmag, xt, xl⟩ := x
          simp only [encD] at hx
          (refine GC_run2 4000 ?_; dsimp only [go_sem, Nat.reduceBEq, Nat.reduceAdd, Nat.reduceMul, Nat.reduceSub, Int.reduceBEq, Int.reduceBNe, Int.reduceAdd, Int.reduceSub, Int.reduceMul, Int.reduceToNat, Int.reduceNeg])
          (repeat (simp only [hd, hd2, hx]; try (dsimp only [go_sem, Nat.reduceBEq, Nat.reduceAdd, Nat.reduceMul, Nat.reduceSub, Int.reduceBEq, Int.reduceBNe, Int.reduceAdd, Int.reduceSub, Int.reduceMul, Int.reduceToNat, Int.reduceNeg])))
          (refine GC.call (by first | rfl | (simp; done) | (simp [hdOK_encU, hdOK_encL, allSz_encU, allSz_encL, encU_length, encL_length, encD_one, encD_cells, AVone_v, AVone_sl, AVone_agg, AVone_ref, AVone_fn, AVone_ifc, AVcells_v, AVcells_sl, AVcells_agg, AVcells_ref, AVcells_fn, AVcells_ifc, Value.oneCell', allSz]; done) | (simp [hdOK_encU, hdOK_encL, allSz_encU, allSz_encL, encU_length, encL_length, encD_one, encD_cells, AVone_v, AVone_sl, AVone_agg, AVone_ref, AVone_fn, AVone_ifc, AVcells_v, AVcells_sl, AVcells_agg, AVcells_ref, AVcells_fn, AVcells_ifc, Value.oneCell', allSz]; omega)) (hs) ?_; refine GC_run2 4000 ?_; dsimp only [go_sem, Nat.reduceBEq, Nat.reduceAdd, Nat.reduceMul, Nat.reduceSub, Int.reduceBEq, Int.reduceBNe, Int.reduceAdd, Int.reduceSub, Int.reduceMul, Int.reduceToNat, Int.reduceNeg])
          (refine GC.backR (by first | (simp [hdOK_encU, hdOK_encL, allSz_encU, allSz_encL, encU_length, encL_length, encD_one, encD_cells, AVone_v, AVone_sl, AVone_agg, AVone_ref, AVone_fn, AVone_ifc, AVcells_v, AVcells_sl, AVcells_agg, AVcells_ref, AVcells_fn, AVcells_ifc, Value.oneCell', allSz, hll]; done) | (simp [hdOK_encU, hdOK_encL, allSz_encU, allSz_encL, encU_length, encL_length, encD_one, encD_cells, AVone_v, AVone_sl, AVone_agg, AVone_ref, AVone_fn, AVone_ifc, AVcells_v, AVcells_sl, AVcells_agg, AVcells_ref, AVcells_fn, AVcells_ifc, Value.oneCell', allSz, hll]; omega)) (by omega) (by omega) ?_ ?_ <;> (repeat' (first | exact trivial | refine And.intro ?_ ?_)) <;> (try (dsimp only [go_sem, Nat.reduceBEq, Nat.reduceAdd, Nat.reduceMul, Nat.reduceSub, Int.reduceBEq, Int.reduceBNe, Int.reduceAdd, Int.reduceSub, Int.reduceMul, Int.reduceToNat, Int.reduceNeg])))
          · rw [hst]
          · exact congrArg (fun n => some (TV.av (.v (.int .i64 n)))) (wrap_nat j (by omega))
      · have : j = l.length := by omega
        subst this
        have hd := dec_ge (show (encL l).length ≤ l.length by omega)
        have htk : l.take l.length = l := List.take_length
        rw [htk]
        (refine GC_run2 4000 ?_; dsimp only [go_sem, Nat.reduceBEq, Nat.reduceAdd, Nat.reduceMul, Nat.reduceSub, Int.reduceBEq, Int.reduceBNe, Int.reduceAdd, Int.reduceSub, Int.reduceMul, Int.reduceToNat, Int.reduceNeg])
        (repeat (simp only [hd]; try (dsimp only [go_sem, Nat.reduceBEq, Nat.reduceAdd, Nat.reduceMul, Nat.reduceSub, Int.reduceBEq, Int.reduceBNe, Int.reduceAdd, Int.reduceSub, Int.reduceMul, Int.reduceToNat, Int.reduceNeg])))
        refine GC.finE (by first | rfl | (simp; done) | (simp [hdOK_encU, hdOK_encL, allSz_encU, allSz_encL, encU_length, encL_length, encD_one, encD_cells, AVone_v, AVone_sl, AVone_agg, AVone_ref, AVone_fn, AVone_ifc, AVcells_v, AVcells_sl, AVcells_agg, AVcells_ref, AVcells_fn, AVcells_ifc, Value.oneCell', allSz]; done) | (simp [hdOK_encU, hdOK_encL, allSz_encU, allSz_encL, encU_length, encL_length, encD_one, encD_cells, AVone_v, AVone_sl, AVone_agg, AVone_ref, AVone_fn, AVone_ifc, AVcells_v, AVcells_sl, AVcells_agg, AVcells_ref, AVcells_fn, AVcells_ifc, Value.oneCell', allSz]; omega)) ?_
        rfl
end
end Go.Sy

/- Contracts of the program's functions over abstract values. By gen.py. -/
set_option linter.unusedVariables false
set_option linter.unusedSimpArgs false
set_option maxRecDepth 100000
set_option maxHeartbeats 4000000
namespace Go.Sy
open Go.Proofs
attribute [local go_sem] runO_t runO_f band_t band_f bor_t bor_f bnot_t bnot_f gdK_tt gdK_ff gdK_tf gdK_ft brK_t brK_f runE_some runF_some runA_some runG_some runB_some runX_some runR_some run_nil run_skip run_seq run_region run_block run_blk run_exit run_cond run_ret run_loop run_lp run_opsNil run_opsOrd run_opsOp run_opsGuard run_cl run_gd run_br run_fin run_clx run_fst run_callf runY_t runY_f runS_some runV_t runV_f aBuildK_t aBuildK_f Mode.plain run_move run_nilCheck run_assign run_pick run_alloc run_box run_build run_buildSlice run_load run_store run_binOp run_unOp run_convert run_slice run_fieldAddr run_indexAddr run_index run_field run_extract run_makeInterface run_makeFunc run_len run_max run_min run_append St.ev St.evl St.evs St.evo capsOf callOf look drop put putAll toTV_nil toTV_int toTV_bool toTV_str toTV_ptr toTV_ifc toTV_fn toAV_nil toAV_int toAV_bool toAV_str toAV_ptr toAV_ifc toAV_fn aAssign_nil aAssign_tmp aAssign_int aAssign_bool aAssign_str aAssign_ptr aAssign_nilf aAssign_ifc aAssign_func aAssign_glob nilConst_slice nilConst_ptr nilConst_ifc nilConst_tmp plain Option.bind TV.cells TV.one AVone_v AVone_sl AVone_agg AVone_ref AVone_fn AVone_ifc AVone_sent Value.oneCell' oneVs avOf avsOf expo expos expoC exposC TV.isC allC fillsT aBuildT lendR ren renT0 renC renT renO renW xFoot xSt newIds retX retXs isT0 asList List.map St.app setD St.setT ownD trA effFoot callFoot callSt callReq St.fresh freshT freshO allFresh TV.ment TVs.ment SObj.ment fsts mentW noFoot List.contains List.elem aPick aAlloc aBox aBuild aBuildSlice nonNil allSz aUn aConv aField aIndex aByte aPart aExtract aIface aFunc aLen ty1 aMax aApp aAppend aCheck emptyL aSlice okHd hdOK_nil hdOK_cons aLoad aStore aBin aNil sBin sInt isSh sameSh nilness fills fillAt fillTV putCells intOf? mkInt AVcells_v AVcells_sl AVcells_agg AVcells_ref AVcells_fn AVcells_ifc AVcells_sent St.g0 St.g guardOf guardOff udf argsOf lends lendBox bindRes bindR bindRs flatR flatV boolOf retItems retItems0 retItem rowsOf disjB ownIds resIds nodupB St.init initT popTo cond_true cond_false Option.getD Option.map List.take List.drop List.length List.zip List.zipWith List.range List.range.loop List.append List.foldr List.nil_append List.cons_append List.append_nil List.getElem?_cons_zero List.getElem?_cons_succ GetElem?.getElem? List.get?Internal Int.toNat_natCast cst0 cst1 cst2 cst3 cst4 cst5 cst6 cst7 cst8 cst9 cst10 cst11 toNat0 toNat1 toNat2 toNat3 getD0 getD1 getD2 getD3 run_zero memN keepT dropO St.re leT leO D_q2  D_q3  D_q4  D_q5  D_q9  D_q12  D_q21  D_q22  D_q24  D_q25  D_q27  D_q28  D_q32  D_q46  D_q48  D_q50  D_q52  D_q53  D_q54  D_q56  D_q57  D_q61  D_q70  D_q72  D_q76  D_q77  D_q79  D_q80  D_q83  D_q85  D_q91  D_q93  D_q104  D_q108  D_q115  D_q118  D_q121  D_q134  D_q136  D_q137
section
variable {W0 : World} {κ : Nat → Addr} {GG : Nat → Option AV}

theorem D_heavy3 (d : Dat) : Sound (CD W0 κ GG) 15 [encD d] [.av (.v (.bool (decide (weighD 3000 3000 true d 3000 < 0))))] := by
  have h := D_weigh3 (W0 := W0) (κ := κ) (GG := GG) _ d 3000 (Nat.le_refl _) (by omega) (by omega)
  obtain ⟨k, c, neg, mag, t, l⟩ := d
  simp only [encD] at h
  (refine Sound.of_go D_ok D_mix Tryd.func15 rfl (by decide) (by kernel_rfl) (GC.go ?_); refine GC_run2 4000 ?_; dsimp only [Tryd.f15, CD, go_sem, Nat.reduceBEq, Nat.reduceAdd, Nat.reduceMul, Nat.reduceSub, Int.reduceBEq, Int.reduceBNe, Int.reduceAdd, Int.reduceSub, Int.reduceMul, Int.reduceToNat, Int.reduceNeg, encD])
  (refine GC.call (by first | rfl | (simp; done) | (simp [hdOK_encU, hdOK_encL, allSz_encU, allSz_encL, encU_length, encL_length, encD_one, encD_cells, AVone_v, AVone_sl, AVone_agg, AVone_ref, AVone_fn, AVone_ifc, AVcells_v, AVcells_sl, AVcells_agg, AVcells_ref, AVcells_fn, AVcells_ifc, Value.oneCell', allSz]; done) | (simp [hdOK_encU, hdOK_encL, allSz_encU, allSz_encL, encU_length, encL_length, encD_one, encD_cells, AVone_v, AVone_sl, AVone_agg, AVone_ref, AVone_fn, AVone_ifc, AVcells_v, AVcells_sl, AVcells_agg, AVcells_ref, AVcells_fn, AVcells_ifc, Value.oneCell', allSz]; omega)) (h) ?_; refine GC_run2 4000 ?_; dsimp only [go_sem, Nat.reduceBEq, Nat.reduceAdd, Nat.reduceMul, Nat.reduceSub, Int.reduceBEq, Int.reduceBNe, Int.reduceAdd, Int.reduceSub, Int.reduceMul, Int.reduceToNat, Int.reduceNeg])
  refine GC.finE (by first | rfl | (simp; done) | (simp [hdOK_encU, hdOK_encL, allSz_encU, allSz_encL, encU_length, encL_length, encD_one, encD_cells, AVone_v, AVone_sl, AVone_agg, AVone_ref, AVone_fn, AVone_ifc, AVcells_v, AVcells_sl, AVcells_agg, AVcells_ref, AVcells_fn, AVcells_ifc, Value.oneCell', allSz]; done) | (simp [hdOK_encU, hdOK_encL, allSz_encU, allSz_encL, encU_length, encL_length, encD_one, encD_cells, AVone_v, AVone_sl, AVone_agg, AVone_ref, AVone_fn, AVone_ifc, AVcells_v, AVcells_sl, AVcells_agg, AVcells_ref, AVcells_fn, AVcells_ifc, Value.oneCell', allSz]; omega)) ?_
  rfl
theorem sameD_parts (k c : Int) (neg : Bool) (mag : List Int) (t : ByteArray) (l : List Dat) (k' c' : Int) (neg' : Bool) (mag' : List Int) (t' : ByteArray) (l' : List Dat) :
    sameD (.mk k c neg mag t l) (.mk k' c' neg' mag' t' l') = (k == k' && (c == c' && ((neg == neg' && decide (mag = mag')) && (t.toList == t'.toList && sameL l l')))) := by
  simp only [sameD, Bool.and_assoc]
theorem D_rsame : ∀ (n : Nat) (a b : Dat), cnt a ≤ n → fine a → fine b → Sound (CD W0 κ GG) 24 [encD a, encD b] [.av (.v (.bool (sameD a b)))]
  | 0, d, _, h, _, _ => absurd h (by have := cnt_pos d; omega)
  | n + 1, .mk k c neg mag t l, .mk k' c' neg' mag' t' l', hn, ha, hb => by
    simp only [cnt] at hn
    have hl := encL_length l
    have hl2 := encL_length l'
    have hlen := ha.len
    have hnum := D_rnsame (W0 := W0) (κ := κ) (GG := GG) neg neg' mag mag' ha.mag
    rw [sameD_parts]
    generalize (neg == neg' && decide (mag = mag')) = nb at hnum ⊢
    by_cases hk : k = k'
    case neg =>
      have hd : (k != k') = true := by simpa using hk
      (refine Sound.of_go D_ok D_mix Tryd.func24 rfl (by decide) (by kernel_rfl) (GC.go ?_); refine GC_run2 4000 ?_; dsimp only [Tryd.f24, CD, go_sem, Nat.reduceBEq, Nat.reduceAdd, Nat.reduceMul, Nat.reduceSub, Int.reduceBEq, Int.reduceBNe, Int.reduceAdd, Int.reduceSub, Int.reduceMul, Int.reduceToNat, Int.reduceNeg, encD])
      (repeat (simp only [hd]; try (dsimp only [go_sem, Nat.reduceBEq, Nat.reduceAdd, Nat.reduceMul, Nat.reduceSub, Int.reduceBEq, Int.reduceBNe, Int.reduceAdd, Int.reduceSub, Int.reduceMul, Int.reduceToNat, Int.reduceNeg])))
      refine GC.finE (by first | rfl | (simp; done) | (simp [hdOK_encU, hdOK_encL, allSz_encU, allSz_encL, encU_length, encL_length, encD_one, encD_cells, AVone_v, AVone_sl, AVone_agg, AVone_ref, AVone_fn, AVone_ifc, AVcells_v, AVcells_sl, AVcells_agg, AVcells_ref, AVcells_fn, AVcells_ifc, Value.oneCell', allSz]; done) | (simp [hdOK_encU, hdOK_encL, allSz_encU, allSz_encL, encU_length, encL_length, encD_one, encD_cells, AVone_v, AVone_sl, AVone_agg, AVone_ref, AVone_fn, AVone_ifc, AVcells_v, AVcells_sl, AVcells_agg, AVcells_ref, AVcells_fn, AVcells_ifc, Value.oneCell', allSz]; omega)) ?_
      simp [hk]
    subst hk
    have hd1 : (k != k) = false := by simp
    by_cases hc : c = c'
    case neg =>
      have hd : (c != c') = true := by simpa using hc
      (refine Sound.of_go D_ok D_mix Tryd.func24 rfl (by decide) (by kernel_rfl) (GC.go ?_); refine GC_run2 4000 ?_; dsimp only [Tryd.f24, CD, go_sem, Nat.reduceBEq, Nat.reduceAdd, Nat.reduceMul, Nat.reduceSub, Int.reduceBEq, Int.reduceBNe, Int.reduceAdd, Int.reduceSub, Int.reduceMul, Int.reduceToNat, Int.reduceNeg, encD])
      (repeat (simp only [hd1, hd]; try (dsimp only [go_sem, Nat.reduceBEq, Nat.reduceAdd, Nat.reduceMul, Nat.reduceSub, Int.reduceBEq, Int.reduceBNe, Int.reduceAdd, Int.reduceSub, Int.reduceMul, Int.reduceToNat, Int.reduceNeg])))
      refine GC.finE (by first | rfl | (simp; done) | (simp [hdOK_encU, hdOK_encL, allSz_encU, allSz_encL, encU_length, encL_length, encD_one, encD_cells, AVone_v, AVone_sl, AVone_agg, AVone_ref, AVone_fn, AVone_ifc, AVcells_v, AVcells_sl, AVcells_agg, AVcells_ref, AVcells_fn, AVcells_ifc, Value.oneCell', allSz]; done) | (simp [hdOK_encU, hdOK_encL, allSz_encU, allSz_encL, encU_length, encL_length, encD_one, encD_cells, AVone_v, AVone_sl, AVone_agg, AVone_ref, AVone_fn, AVone_ifc, AVcells_v, AVcells_sl, AVcells_agg, AVcells_ref, AVcells_fn, AVcells_ifc, Value.oneCell', allSz]; omega)) ?_
      simp [hc]
    subst hc
    have hd2 : (c != c) = false := by simp
    cases nb with
    | false =>
      (refine Sound.of_go D_ok D_mix Tryd.func24 rfl (by decide) (by kernel_rfl) (GC.go ?_); refine GC_run2 4000 ?_; dsimp only [Tryd.f24, CD, go_sem, Nat.reduceBEq, Nat.reduceAdd, Nat.reduceMul, Nat.reduceSub, Int.reduceBEq, Int.reduceBNe, Int.reduceAdd, Int.reduceSub, Int.reduceMul, Int.reduceToNat, Int.reduceNeg, encD])
      (repeat (simp only [hd1, hd2]; try (dsimp only [go_sem, Nat.reduceBEq, Nat.reduceAdd, Nat.reduceMul, Nat.reduceSub, Int.reduceBEq, Int.reduceBNe, Int.reduceAdd, Int.reduceSub, Int.reduceMul, Int.reduceToNat, Int.reduceNeg])))
      (refine GC.call (by first | rfl | (simp; done) | (simp [hdOK_encU, hdOK_encL, allSz_encU, allSz_encL, encU_length, encL_length, encD_one, encD_cells, AVone_v, AVone_sl, AVone_agg, AVone_ref, AVone_fn, AVone_ifc, AVcells_v, AVcells_sl, AVcells_agg, AVcells_ref, AVcells_fn, AVcells_ifc, Value.oneCell', allSz]; done) | (simp [hdOK_encU, hdOK_encL, allSz_encU, allSz_encL, encU_length, encL_length, encD_one, encD_cells, AVone_v, AVone_sl, AVone_agg, AVone_ref, AVone_fn, AVone_ifc, AVcells_v, AVcells_sl, AVcells_agg, AVcells_ref, AVcells_fn, AVcells_ifc, Value.oneCell', allSz]; omega)) (hnum) ?_; refine GC_run2 4000 ?_; dsimp only [go_sem, Nat.reduceBEq, Nat.reduceAdd, Nat.reduceMul, Nat.reduceSub, Int.reduceBEq, Int.reduceBNe, Int.reduceAdd, Int.reduceSub, Int.reduceMul, Int.reduceToNat, Int.reduceNeg])
      refine GC.finE (by first | rfl | (simp; done) | (simp [hdOK_encU, hdOK_encL, allSz_encU, allSz_encL, encU_length, encL_length, encD_one, encD_cells, AVone_v, AVone_sl, AVone_agg, AVone_ref, AVone_fn, AVone_ifc, AVcells_v, AVcells_sl, AVcells_agg, AVcells_ref, AVcells_fn, AVcells_ifc, Value.oneCell', allSz]; done) | (simp [hdOK_encU, hdOK_encL, allSz_encU, allSz_encL, encU_length, encL_length, encD_one, encD_cells, AVone_v, AVone_sl, AVone_agg, AVone_ref, AVone_fn, AVone_ifc, AVcells_v, AVcells_sl, AVcells_agg, AVcells_ref, AVcells_fn, AVcells_ifc, Value.oneCell', allSz]; omega)) ?_
      simp
    | true =>
      by_cases ht : (t.toList == t'.toList) = true
      case neg =>
        have ht : (t.toList == t'.toList) = false := by simpa using ht
        (refine Sound.of_go D_ok D_mix Tryd.func24 rfl (by decide) (by kernel_rfl) (GC.go ?_); refine GC_run2 4000 ?_; dsimp only [Tryd.f24, CD, go_sem, Nat.reduceBEq, Nat.reduceAdd, Nat.reduceMul, Nat.reduceSub, Int.reduceBEq, Int.reduceBNe, Int.reduceAdd, Int.reduceSub, Int.reduceMul, Int.reduceToNat, Int.reduceNeg, encD])
        (repeat (simp only [hd1, hd2]; try (dsimp only [go_sem, Nat.reduceBEq, Nat.reduceAdd, Nat.reduceMul, Nat.reduceSub, Int.reduceBEq, Int.reduceBNe, Int.reduceAdd, Int.reduceSub, Int.reduceMul, Int.reduceToNat, Int.reduceNeg])))
        (refine GC.call (by first | rfl | (simp; done) | (simp [hdOK_encU, hdOK_encL, allSz_encU, allSz_encL, encU_length, encL_length, encD_one, encD_cells, AVone_v, AVone_sl, AVone_agg, AVone_ref, AVone_fn, AVone_ifc, AVcells_v, AVcells_sl, AVcells_agg, AVcells_ref, AVcells_fn, AVcells_ifc, Value.oneCell', allSz]; done) | (simp [hdOK_encU, hdOK_encL, allSz_encU, allSz_encL, encU_length, encL_length, encD_one, encD_cells, AVone_v, AVone_sl, AVone_agg, AVone_ref, AVone_fn, AVone_ifc, AVcells_v, AVcells_sl, AVcells_agg, AVcells_ref, AVcells_fn, AVcells_ifc, Value.oneCell', allSz]; omega)) (hnum) ?_; refine GC_run2 4000 ?_; dsimp only [go_sem, Nat.reduceBEq, Nat.reduceAdd, Nat.reduceMul, Nat.reduceSub, Int.reduceBEq, Int.reduceBNe, Int.reduceAdd, Int.reduceSub, Int.reduceMul, Int.reduceToNat, Int.reduceNeg])
        (repeat (simp only [ht]; try (dsimp only [go_sem, Nat.reduceBEq, Nat.reduceAdd, Nat.reduceMul, Nat.reduceSub, Int.reduceBEq, Int.reduceBNe, Int.reduceAdd, Int.reduceSub, Int.reduceMul, Int.reduceToNat, Int.reduceNeg])))
        refine GC.finE (by first | rfl | (simp; done) | (simp [hdOK_encU, hdOK_encL, allSz_encU, allSz_encL, encU_length, encL_length, encD_one, encD_cells, AVone_v, AVone_sl, AVone_agg, AVone_ref, AVone_fn, AVone_ifc, AVcells_v, AVcells_sl, AVcells_agg, AVcells_ref, AVcells_fn, AVcells_ifc, Value.oneCell', allSz]; done) | (simp [hdOK_encU, hdOK_encL, allSz_encU, allSz_encL, encU_length, encL_length, encD_one, encD_cells, AVone_v, AVone_sl, AVone_agg, AVone_ref, AVone_fn, AVone_ifc, AVcells_v, AVcells_sl, AVcells_agg, AVcells_ref, AVcells_fn, AVcells_ifc, Value.oneCell', allSz]; omega)) ?_
        simp
      by_cases hab : l.length = l'.length
      case neg =>
        have hd : (((encL l).length : Int) != (encL l').length) = true := by simp [bne_len, hl, hl2, hab]
        (refine Sound.of_go D_ok D_mix Tryd.func24 rfl (by decide) (by kernel_rfl) (GC.go ?_); refine GC_run2 4000 ?_; dsimp only [Tryd.f24, CD, go_sem, Nat.reduceBEq, Nat.reduceAdd, Nat.reduceMul, Nat.reduceSub, Int.reduceBEq, Int.reduceBNe, Int.reduceAdd, Int.reduceSub, Int.reduceMul, Int.reduceToNat, Int.reduceNeg, encD])
        (repeat (simp only [hd1, hd2]; try (dsimp only [go_sem, Nat.reduceBEq, Nat.reduceAdd, Nat.reduceMul, Nat.reduceSub, Int.reduceBEq, Int.reduceBNe, Int.reduceAdd, Int.reduceSub, Int.reduceMul, Int.reduceToNat, Int.reduceNeg])))
        (refine GC.call (by first | rfl | (simp; done) | (simp [hdOK_encU, hdOK_encL, allSz_encU, allSz_encL, encU_length, encL_length, encD_one, encD_cells, AVone_v, AVone_sl, AVone_agg, AVone_ref, AVone_fn, AVone_ifc, AVcells_v, AVcells_sl, AVcells_agg, AVcells_ref, AVcells_fn, AVcells_ifc, Value.oneCell', allSz]; done) | (simp [hdOK_encU, hdOK_encL, allSz_encU, allSz_encL, encU_length, encL_length, encD_one, encD_cells, AVone_v, AVone_sl, AVone_agg, AVone_ref, AVone_fn, AVone_ifc, AVcells_v, AVcells_sl, AVcells_agg, AVcells_ref, AVcells_fn, AVcells_ifc, Value.oneCell', allSz]; omega)) (hnum) ?_; refine GC_run2 4000 ?_; dsimp only [go_sem, Nat.reduceBEq, Nat.reduceAdd, Nat.reduceMul, Nat.reduceSub, Int.reduceBEq, Int.reduceBNe, Int.reduceAdd, Int.reduceSub, Int.reduceMul, Int.reduceToNat, Int.reduceNeg])
        (repeat (simp only [ht, hd]; try (dsimp only [go_sem, Nat.reduceBEq, Nat.reduceAdd, Nat.reduceMul, Nat.reduceSub, Int.reduceBEq, Int.reduceBNe, Int.reduceAdd, Int.reduceSub, Int.reduceMul, Int.reduceToNat, Int.reduceNeg])))
        refine GC.finE (by first | rfl | (simp; done) | (simp [hdOK_encU, hdOK_encL, allSz_encU, allSz_encL, encU_length, encL_length, encD_one, encD_cells, AVone_v, AVone_sl, AVone_agg, AVone_ref, AVone_fn, AVone_ifc, AVcells_v, AVcells_sl, AVcells_agg, AVcells_ref, AVcells_fn, AVcells_ifc, Value.oneCell', allSz]; done) | (simp [hdOK_encU, hdOK_encL, allSz_encU, allSz_encL, encU_length, encL_length, encD_one, encD_cells, AVone_v, AVone_sl, AVone_agg, AVone_ref, AVone_fn, AVone_ifc, AVcells_v, AVcells_sl, AVcells_agg, AVcells_ref, AVcells_fn, AVcells_ifc, Value.oneCell', allSz]; omega)) ?_
        simp [sameL_len hab]
      · have hd3 : (((encL l).length : Int) != (encL l').length) = false := by simp [bne_len, hl, hl2, hab]
        (refine Sound.of_go D_ok D_mix Tryd.func24 rfl (by decide) (by kernel_rfl) (GC.go ?_); refine GC_run2 4000 ?_; dsimp only [Tryd.f24, CD, go_sem, Nat.reduceBEq, Nat.reduceAdd, Nat.reduceMul, Nat.reduceSub, Int.reduceBEq, Int.reduceBNe, Int.reduceAdd, Int.reduceSub, Int.reduceMul, Int.reduceToNat, Int.reduceNeg, encD])
        (repeat (simp only [hd1, hd2]; try (dsimp only [go_sem, Nat.reduceBEq, Nat.reduceAdd, Nat.reduceMul, Nat.reduceSub, Int.reduceBEq, Int.reduceBNe, Int.reduceAdd, Int.reduceSub, Int.reduceMul, Int.reduceToNat, Int.reduceNeg])))
        (refine GC.call (by first | rfl | (simp; done) | (simp [hdOK_encU, hdOK_encL, allSz_encU, allSz_encL, encU_length, encL_length, encD_one, encD_cells, AVone_v, AVone_sl, AVone_agg, AVone_ref, AVone_fn, AVone_ifc, AVcells_v, AVcells_sl, AVcells_agg, AVcells_ref, AVcells_fn, AVcells_ifc, Value.oneCell', allSz]; done) | (simp [hdOK_encU, hdOK_encL, allSz_encU, allSz_encL, encU_length, encL_length, encD_one, encD_cells, AVone_v, AVone_sl, AVone_agg, AVone_ref, AVone_fn, AVone_ifc, AVcells_v, AVcells_sl, AVcells_agg, AVcells_ref, AVcells_fn, AVcells_ifc, Value.oneCell', allSz]; omega)) (hnum) ?_; refine GC_run2 4000 ?_; dsimp only [go_sem, Nat.reduceBEq, Nat.reduceAdd, Nat.reduceMul, Nat.reduceSub, Int.reduceBEq, Int.reduceBNe, Int.reduceAdd, Int.reduceSub, Int.reduceMul, Int.reduceToNat, Int.reduceNeg])
        (repeat (simp only [ht, hd3]; try (dsimp only [go_sem, Nat.reduceBEq, Nat.reduceAdd, Nat.reduceMul, Nat.reduceSub, Int.reduceBEq, Int.reduceBNe, Int.reduceAdd, Int.reduceSub, Int.reduceMul, Int.reduceToNat, Int.reduceNeg])))
        refine GC.loopR (by first | rfl | (simp; done) | (simp [hdOK_encU, hdOK_encL, allSz_encU, allSz_encL, encU_length, encL_length, encD_one, encD_cells, AVone_v, AVone_sl, AVone_agg, AVone_ref, AVone_fn, AVone_ifc, AVcells_v, AVcells_sl, AVcells_agg, AVcells_ref, AVcells_fn, AVcells_ifc, Value.oneCell', allSz]; done) | (simp [hdOK_encU, hdOK_encL, allSz_encU, allSz_encL, encU_length, encL_length, encD_one, encD_cells, AVone_v, AVone_sl, AVone_agg, AVone_ref, AVone_fn, AVone_ifc, AVcells_v, AVcells_sl, AVcells_agg, AVcells_ref, AVcells_fn, AVcells_ifc, Value.oneCell', allSz]; omega)) (encL l).length [2, 3] (fun j => [(5, .av (.v (.int .i64 (j : Nat))))]) (fun j => []) (fun j => l.take j = l'.take j) ⟨rfl, trivial⟩ trivial rfl (fun j hj hI => ?_)
        rcases Nat.lt_or_ge j l.length with hlt | hge
        · have hd := dec_lt (show j < (encL l).length by omega)
          have hx : (encL l).getD j dflt = _ := encL_get hlt
          have hlt2 : j < l'.length := by omega
          have hy : (encL l').getD j dflt = _ := encL_get hlt2
          have hmem : l[j] ∈ l := List.getElem_mem hlt
          have hcn := cntL_get hmem
          have hs := D_rsame n l[j] l'[j] (by omega) (ha.sub hmem) (hb.sub (List.getElem_mem hlt2))
          have hne := getD_ne hlt hlt2
          have hst := take_step hlt hlt2 hI
          generalize l[j] = x at hx hs hne hst hcn
          generalize l'[j] = y at hy hs hne hst
          obtain ⟨xk, xc, xneg, xmag, xt, xl⟩ := x
          obtain ⟨yk, yc, yneg, ymag, yt, yl⟩ := y
          simp only [encD] at hx hy
          (refine GC_run2 4000 ?_; dsimp only [go_sem, Nat.reduceBEq, Nat.reduceAdd, Nat.reduceMul, Nat.reduceSub, Int.reduceBEq, Int.reduceBNe, Int.reduceAdd, Int.reduceSub, Int.reduceMul, Int.reduceToNat, Int.reduceNeg])
          (repeat (simp only [hd, hx, hy]; try (dsimp only [go_sem, Nat.reduceBEq, Nat.reduceAdd, Nat.reduceMul, Nat.reduceSub, Int.reduceBEq, Int.reduceBNe, Int.reduceAdd, Int.reduceSub, Int.reduceMul, Int.reduceToNat, Int.reduceNeg])))
          (refine GC.call (by first | rfl | (simp; done) | (simp [hdOK_encU, hdOK_encL, allSz_encU, allSz_encL, encU_length, encL_length, encD_one, encD_cells, AVone_v, AVone_sl, AVone_agg, AVone_ref, AVone_fn, AVone_ifc, AVcells_v, AVcells_sl, AVcells_agg, AVcells_ref, AVcells_fn, AVcells_ifc, Value.oneCell', allSz]; done) | (simp [hdOK_encU, hdOK_encL, allSz_encU, allSz_encL, encU_length, encL_length, encD_one, encD_cells, AVone_v, AVone_sl, AVone_agg, AVone_ref, AVone_fn, AVone_ifc, AVcells_v, AVcells_sl, AVcells_agg, AVcells_ref, AVcells_fn, AVcells_ifc, Value.oneCell', allSz]; omega)) (hs) ?_; refine GC_run2 4000 ?_; dsimp only [go_sem, Nat.reduceBEq, Nat.reduceAdd, Nat.reduceMul, Nat.reduceSub, Int.reduceBEq, Int.reduceBNe, Int.reduceAdd, Int.reduceSub, Int.reduceMul, Int.reduceToNat, Int.reduceNeg])
          (refine GC.ord (by first | rfl | (simp; done) | (simp [hdOK_encU, hdOK_encL, allSz_encU, allSz_encL, encU_length, encL_length, encD_one, encD_cells, AVone_v, AVone_sl, AVone_agg, AVone_ref, AVone_fn, AVone_ifc, AVcells_v, AVcells_sl, AVcells_agg, AVcells_ref, AVcells_fn, AVcells_ifc, Value.oneCell', allSz]; done) | (simp [hdOK_encU, hdOK_encL, allSz_encU, allSz_encL, encU_length, encL_length, encD_one, encD_cells, AVone_v, AVone_sl, AVone_agg, AVone_ref, AVone_fn, AVone_ifc, AVcells_v, AVcells_sl, AVcells_agg, AVcells_ref, AVcells_fn, AVcells_ifc, Value.oneCell', allSz]; omega)) (by kernel_rfl) (by kernel_rfl) ?_; refine GC_run2 4000 ?_; dsimp only [go_sem, Nat.reduceBEq, Nat.reduceAdd, Nat.reduceMul, Nat.reduceSub, Int.reduceBEq, Int.reduceBNe, Int.reduceAdd, Int.reduceSub, Int.reduceMul, Int.reduceToNat, Int.reduceNeg])
          (refine GC_brK (fun h => ?_) (fun h => ?_) <;> (dsimp only [go_sem, Nat.reduceBEq, Nat.reduceAdd, Nat.reduceMul, Nat.reduceSub, Int.reduceBEq, Int.reduceBNe, Int.reduceAdd, Int.reduceSub, Int.reduceMul, Int.reduceToNat, Int.reduceNeg]))
          · refine GC.finE (by first | rfl | (simp; done) | (simp [hdOK_encU, hdOK_encL, allSz_encU, allSz_encL, encU_length, encL_length, encD_one, encD_cells, AVone_v, AVone_sl, AVone_agg, AVone_ref, AVone_fn, AVone_ifc, AVcells_v, AVcells_sl, AVcells_agg, AVcells_ref, AVcells_fn, AVcells_ifc, Value.oneCell', allSz]; done) | (simp [hdOK_encU, hdOK_encL, allSz_encU, allSz_encL, encU_length, encL_length, encD_one, encD_cells, AVone_v, AVone_sl, AVone_agg, AVone_ref, AVone_fn, AVone_ifc, AVcells_v, AVcells_sl, AVcells_agg, AVcells_ref, AVcells_fn, AVcells_ifc, Value.oneCell', allSz]; omega)) ?_
            have : sameL l l' = false := by
              cases hs2 : sameL l l' with
              | false => rfl
              | true =>
                have e := hne (by intro e; rw [e, sameD_refl] at h; simp at h)
                exact absurd (sameL_eq l l' hs2) e
            simp [this]
          · (refine GC.backR (by first | (simp [hdOK_encU, hdOK_encL, allSz_encU, allSz_encL, encU_length, encL_length, encD_one, encD_cells, AVone_v, AVone_sl, AVone_agg, AVone_ref, AVone_fn, AVone_ifc, AVcells_v, AVcells_sl, AVcells_agg, AVcells_ref, AVcells_fn, AVcells_ifc, Value.oneCell', allSz, hl, hl2]; done) | (simp [hdOK_encU, hdOK_encL, allSz_encU, allSz_encL, encU_length, encL_length, encD_one, encD_cells, AVone_v, AVone_sl, AVone_agg, AVone_ref, AVone_fn, AVone_ifc, AVcells_v, AVcells_sl, AVcells_agg, AVcells_ref, AVcells_fn, AVcells_ifc, Value.oneCell', allSz, hl, hl2]; omega)) (by omega) (hst (sameD_eq _ _ (by simpa using h))) ?_ ?_ <;> (repeat' (first | exact trivial | refine And.intro ?_ ?_)) <;> (try (dsimp only [go_sem, Nat.reduceBEq, Nat.reduceAdd, Nat.reduceMul, Nat.reduceSub, Int.reduceBEq, Int.reduceBNe, Int.reduceAdd, Int.reduceSub, Int.reduceMul, Int.reduceToNat, Int.reduceNeg])))
            exact congrArg (fun n => some (TV.av (.v (.int .i64 n)))) (wrap_nat j (by omega))
        · have hd := dec_ge (show (encL l).length ≤ j by omega)
          have : j = l.length := by omega
          subst this
          have : l = l' := eq_of_upto hab hI
          subst this
          (refine GC_run2 4000 ?_; dsimp only [go_sem, Nat.reduceBEq, Nat.reduceAdd, Nat.reduceMul, Nat.reduceSub, Int.reduceBEq, Int.reduceBNe, Int.reduceAdd, Int.reduceSub, Int.reduceMul, Int.reduceToNat, Int.reduceNeg])
          (repeat (simp only [hd]; try (dsimp only [go_sem, Nat.reduceBEq, Nat.reduceAdd, Nat.reduceMul, Nat.reduceSub, Int.reduceBEq, Int.reduceBNe, Int.reduceAdd, Int.reduceSub, Int.reduceMul, Int.reduceToNat, Int.reduceNeg])))
          refine GC.finE (by first | rfl | (simp; done) | (simp [hdOK_encU, hdOK_encL, allSz_encU, allSz_encL, encU_length, encL_length, encD_one, encD_cells, AVone_v, AVone_sl, AVone_agg, AVone_ref, AVone_fn, AVone_ifc, AVcells_v, AVcells_sl, AVcells_agg, AVcells_ref, AVcells_fn, AVcells_ifc, Value.oneCell', allSz]; done) | (simp [hdOK_encU, hdOK_encL, allSz_encU, allSz_encL, encU_length, encL_length, encD_one, encD_cells, AVone_v, AVone_sl, AVone_agg, AVone_ref, AVone_fn, AVone_ifc, AVcells_v, AVcells_sl, AVcells_agg, AVcells_ref, AVcells_fn, AVcells_ifc, Value.oneCell', allSz]; omega)) ?_
          simp [sameL_refl, ht]
theorem D_rsamel (a b : List Dat) (ha : a.length < 1099511627776) (hfa : ∀ x ∈ a, fine x) (hfb : ∀ x ∈ b, fine x) : Sound (CD W0 κ GG) 29 [.sl (encL a), .sl (encL b)] [.av (.v (.bool (sameL a b)))] := by
  have hl := encL_length a
  have hl2 := encL_length b
  by_cases hab : a.length = b.length
  case neg =>
    have hd : (((encL a).length : Int) != (encL b).length) = true := by simp [bne_len, hl, hl2, hab]
    (refine Sound.of_go D_ok D_mix Tryd.func29 rfl (by decide) (by kernel_rfl) (GC.go ?_); refine GC_run2 4000 ?_; dsimp only [Tryd.f29, CD, go_sem, Nat.reduceBEq, Nat.reduceAdd, Nat.reduceMul, Nat.reduceSub, Int.reduceBEq, Int.reduceBNe, Int.reduceAdd, Int.reduceSub, Int.reduceMul, Int.reduceToNat, Int.reduceNeg, encD])
    (repeat (simp only [hd]; try (dsimp only [go_sem, Nat.reduceBEq, Nat.reduceAdd, Nat.reduceMul, Nat.reduceSub, Int.reduceBEq, Int.reduceBNe, Int.reduceAdd, Int.reduceSub, Int.reduceMul, Int.reduceToNat, Int.reduceNeg])))
    refine GC.finE (by first | rfl | (simp; done) | (simp [hdOK_encU, hdOK_encL, allSz_encU, allSz_encL, encU_length, encL_length, encD_one, encD_cells, AVone_v, AVone_sl, AVone_agg, AVone_ref, AVone_fn, AVone_ifc, AVcells_v, AVcells_sl, AVcells_agg, AVcells_ref, AVcells_fn, AVcells_ifc, Value.oneCell', allSz]; done) | (simp [hdOK_encU, hdOK_encL, allSz_encU, allSz_encL, encU_length, encL_length, encD_one, encD_cells, AVone_v, AVone_sl, AVone_agg, AVone_ref, AVone_fn, AVone_ifc, AVcells_v, AVcells_sl, AVcells_agg, AVcells_ref, AVcells_fn, AVcells_ifc, Value.oneCell', allSz]; omega)) ?_
    simp [sameL_len hab]
  have hd3 : (((encL a).length : Int) != (encL b).length) = false := by simp [bne_len, hl, hl2, hab]
  (refine Sound.of_go D_ok D_mix Tryd.func29 rfl (by decide) (by kernel_rfl) (GC.go ?_); refine GC_run2 4000 ?_; dsimp only [Tryd.f29, CD, go_sem, Nat.reduceBEq, Nat.reduceAdd, Nat.reduceMul, Nat.reduceSub, Int.reduceBEq, Int.reduceBNe, Int.reduceAdd, Int.reduceSub, Int.reduceMul, Int.reduceToNat, Int.reduceNeg, encD])
  (repeat (simp only [hd3]; try (dsimp only [go_sem, Nat.reduceBEq, Nat.reduceAdd, Nat.reduceMul, Nat.reduceSub, Int.reduceBEq, Int.reduceBNe, Int.reduceAdd, Int.reduceSub, Int.reduceMul, Int.reduceToNat, Int.reduceNeg])))
  refine GC.loopR (by first | rfl | (simp; done) | (simp [hdOK_encU, hdOK_encL, allSz_encU, allSz_encL, encU_length, encL_length, encD_one, encD_cells, AVone_v, AVone_sl, AVone_agg, AVone_ref, AVone_fn, AVone_ifc, AVcells_v, AVcells_sl, AVcells_agg, AVcells_ref, AVcells_fn, AVcells_ifc, Value.oneCell', allSz]; done) | (simp [hdOK_encU, hdOK_encL, allSz_encU, allSz_encL, encU_length, encL_length, encD_one, encD_cells, AVone_v, AVone_sl, AVone_agg, AVone_ref, AVone_fn, AVone_ifc, AVcells_v, AVcells_sl, AVcells_agg, AVcells_ref, AVcells_fn, AVcells_ifc, Value.oneCell', allSz]; omega)) (encL a).length [0, 1] (fun j => [(5, .av (.v (.int .i64 (j : Nat))))]) (fun j => []) (fun j => a.take j = b.take j) ⟨rfl, trivial⟩ trivial rfl (fun j hj hI => ?_)
  rcases Nat.lt_or_ge j a.length with hlt | hge
  · have hd := dec_lt (show j < (encL a).length by omega)
    have hx : (encL a).getD j dflt = _ := encL_get hlt
    have hlt2 : j < b.length := by omega
    have hy : (encL b).getD j dflt = _ := encL_get hlt2
    have hs := D_rsame (W0 := W0) (κ := κ) (GG := GG) _ a[j] b[j] (Nat.le_refl _) (hfa _ (List.getElem_mem hlt)) (hfb _ (List.getElem_mem hlt2))
    have hne := getD_ne hlt hlt2
    have hst := take_step hlt hlt2 hI
    generalize a[j] = x at hx hs hne hst
    generalize b[j] = y at hy hs hne hst
    obtain ⟨xk, xc, xneg, xmag, xt, xl⟩ := x
    obtain ⟨yk, yc, yneg, ymag, yt, yl⟩ := y
    simp only [encD] at hx hy
    (refine GC_run2 4000 ?_; dsimp only [go_sem, Nat.reduceBEq, Nat.reduceAdd, Nat.reduceMul, Nat.reduceSub, Int.reduceBEq, Int.reduceBNe, Int.reduceAdd, Int.reduceSub, Int.reduceMul, Int.reduceToNat, Int.reduceNeg])
    (repeat (simp only [hd, hx, hy]; try (dsimp only [go_sem, Nat.reduceBEq, Nat.reduceAdd, Nat.reduceMul, Nat.reduceSub, Int.reduceBEq, Int.reduceBNe, Int.reduceAdd, Int.reduceSub, Int.reduceMul, Int.reduceToNat, Int.reduceNeg])))
    (refine GC.call (by first | rfl | (simp; done) | (simp [hdOK_encU, hdOK_encL, allSz_encU, allSz_encL, encU_length, encL_length, encD_one, encD_cells, AVone_v, AVone_sl, AVone_agg, AVone_ref, AVone_fn, AVone_ifc, AVcells_v, AVcells_sl, AVcells_agg, AVcells_ref, AVcells_fn, AVcells_ifc, Value.oneCell', allSz]; done) | (simp [hdOK_encU, hdOK_encL, allSz_encU, allSz_encL, encU_length, encL_length, encD_one, encD_cells, AVone_v, AVone_sl, AVone_agg, AVone_ref, AVone_fn, AVone_ifc, AVcells_v, AVcells_sl, AVcells_agg, AVcells_ref, AVcells_fn, AVcells_ifc, Value.oneCell', allSz]; omega)) (hs) ?_; refine GC_run2 4000 ?_; dsimp only [go_sem, Nat.reduceBEq, Nat.reduceAdd, Nat.reduceMul, Nat.reduceSub, Int.reduceBEq, Int.reduceBNe, Int.reduceAdd, Int.reduceSub, Int.reduceMul, Int.reduceToNat, Int.reduceNeg])
    (refine GC.ord (by first | rfl | (simp; done) | (simp [hdOK_encU, hdOK_encL, allSz_encU, allSz_encL, encU_length, encL_length, encD_one, encD_cells, AVone_v, AVone_sl, AVone_agg, AVone_ref, AVone_fn, AVone_ifc, AVcells_v, AVcells_sl, AVcells_agg, AVcells_ref, AVcells_fn, AVcells_ifc, Value.oneCell', allSz]; done) | (simp [hdOK_encU, hdOK_encL, allSz_encU, allSz_encL, encU_length, encL_length, encD_one, encD_cells, AVone_v, AVone_sl, AVone_agg, AVone_ref, AVone_fn, AVone_ifc, AVcells_v, AVcells_sl, AVcells_agg, AVcells_ref, AVcells_fn, AVcells_ifc, Value.oneCell', allSz]; omega)) (by kernel_rfl) (by kernel_rfl) ?_; refine GC_run2 4000 ?_; dsimp only [go_sem, Nat.reduceBEq, Nat.reduceAdd, Nat.reduceMul, Nat.reduceSub, Int.reduceBEq, Int.reduceBNe, Int.reduceAdd, Int.reduceSub, Int.reduceMul, Int.reduceToNat, Int.reduceNeg])
    (refine GC_brK (fun h => ?_) (fun h => ?_) <;> (dsimp only [go_sem, Nat.reduceBEq, Nat.reduceAdd, Nat.reduceMul, Nat.reduceSub, Int.reduceBEq, Int.reduceBNe, Int.reduceAdd, Int.reduceSub, Int.reduceMul, Int.reduceToNat, Int.reduceNeg]))
    · refine GC.finE (by first | rfl | (simp; done) | (simp [hdOK_encU, hdOK_encL, allSz_encU, allSz_encL, encU_length, encL_length, encD_one, encD_cells, AVone_v, AVone_sl, AVone_agg, AVone_ref, AVone_fn, AVone_ifc, AVcells_v, AVcells_sl, AVcells_agg, AVcells_ref, AVcells_fn, AVcells_ifc, Value.oneCell', allSz]; done) | (simp [hdOK_encU, hdOK_encL, allSz_encU, allSz_encL, encU_length, encL_length, encD_one, encD_cells, AVone_v, AVone_sl, AVone_agg, AVone_ref, AVone_fn, AVone_ifc, AVcells_v, AVcells_sl, AVcells_agg, AVcells_ref, AVcells_fn, AVcells_ifc, Value.oneCell', allSz]; omega)) ?_
      have : sameL a b = false := by
        cases hs2 : sameL a b with
        | false => rfl
        | true =>
          have e := hne (by intro e; rw [e, sameD_refl] at h; simp at h)
          exact absurd (sameL_eq a b hs2) e
      simp [this]
    · (refine GC.backR (by first | (simp [hdOK_encU, hdOK_encL, allSz_encU, allSz_encL, encU_length, encL_length, encD_one, encD_cells, AVone_v, AVone_sl, AVone_agg, AVone_ref, AVone_fn, AVone_ifc, AVcells_v, AVcells_sl, AVcells_agg, AVcells_ref, AVcells_fn, AVcells_ifc, Value.oneCell', allSz, hl, hl2]; done) | (simp [hdOK_encU, hdOK_encL, allSz_encU, allSz_encL, encU_length, encL_length, encD_one, encD_cells, AVone_v, AVone_sl, AVone_agg, AVone_ref, AVone_fn, AVone_ifc, AVcells_v, AVcells_sl, AVcells_agg, AVcells_ref, AVcells_fn, AVcells_ifc, Value.oneCell', allSz, hl, hl2]; omega)) (by omega) (hst (sameD_eq _ _ (by simpa using h))) ?_ ?_ <;> (repeat' (first | exact trivial | refine And.intro ?_ ?_)) <;> (try (dsimp only [go_sem, Nat.reduceBEq, Nat.reduceAdd, Nat.reduceMul, Nat.reduceSub, Int.reduceBEq, Int.reduceBNe, Int.reduceAdd, Int.reduceSub, Int.reduceMul, Int.reduceToNat, Int.reduceNeg])))
      exact congrArg (fun n => some (TV.av (.v (.int .i64 n)))) (wrap_nat j (by omega))
  · have hd := dec_ge (show (encL a).length ≤ j by omega)
    have : j = a.length := by omega
    subst this
    have : a = b := eq_of_upto hab hI
    subst this
    (refine GC_run2 4000 ?_; dsimp only [go_sem, Nat.reduceBEq, Nat.reduceAdd, Nat.reduceMul, Nat.reduceSub, Int.reduceBEq, Int.reduceBNe, Int.reduceAdd, Int.reduceSub, Int.reduceMul, Int.reduceToNat, Int.reduceNeg])
    (repeat (simp only [hd]; try (dsimp only [go_sem, Nat.reduceBEq, Nat.reduceAdd, Nat.reduceMul, Nat.reduceSub, Int.reduceBEq, Int.reduceBNe, Int.reduceAdd, Int.reduceSub, Int.reduceMul, Int.reduceToNat, Int.reduceNeg])))
    refine GC.finE (by first | rfl | (simp; done) | (simp [hdOK_encU, hdOK_encL, allSz_encU, allSz_encL, encU_length, encL_length, encD_one, encD_cells, AVone_v, AVone_sl, AVone_agg, AVone_ref, AVone_fn, AVone_ifc, AVcells_v, AVcells_sl, AVcells_agg, AVcells_ref, AVcells_fn, AVcells_ifc, Value.oneCell', allSz]; done) | (simp [hdOK_encU, hdOK_encL, allSz_encU, allSz_encL, encU_length, encL_length, encD_one, encD_cells, AVone_v, AVone_sl, AVone_agg, AVone_ref, AVone_fn, AVone_ifc, AVcells_v, AVcells_sl, AVcells_agg, AVcells_ref, AVcells_fn, AVcells_ifc, Value.oneCell', allSz]; omega)) ?_
    simp [sameL_refl]
theorem D_nof (n : Int) : Sound (CD W0 κ GG) 57 [.v (.int .i64 n)] [.av (.agg [.v (.bool (ofN n).1), .sl (encU (ofN n).2)])] := by
  have hm := D_made (W0 := W0) (κ := κ) (GG := GG) (decide (n < 0)) [IntKind.u32.wrap (abs64 n), IntKind.u32.wrap ((abs64 n).fdiv (2 ^ min 32 64))] (by simp)
  unfold ofN
  by_cases hn : n < 0
  · have hd : decide (n < 0) = true := by simp [hn]
    have ha : abs64 n = IntKind.u64.wrap (0 - IntKind.u64.wrap n) := by simp [abs64, hn]
    rw [ha, hd] at hm ⊢
    generalize (madeN true _) = r at hm ⊢
    simp only [encU, List.map] at hm
    (refine Sound.of_go D_ok D_mix Tryd.func57 rfl (by decide) (by kernel_rfl) (GC.go ?_); refine GC_run2 4000 ?_; dsimp only [Tryd.f57, CD, go_sem, Nat.reduceBEq, Nat.reduceAdd, Nat.reduceMul, Nat.reduceSub, Int.reduceBEq, Int.reduceBNe, Int.reduceAdd, Int.reduceSub, Int.reduceMul, Int.reduceToNat, Int.reduceNeg, encD])
    (repeat (simp only [hd]; try (dsimp only [go_sem, Nat.reduceBEq, Nat.reduceAdd, Nat.reduceMul, Nat.reduceSub, Int.reduceBEq, Int.reduceBNe, Int.reduceAdd, Int.reduceSub, Int.reduceMul, Int.reduceToNat, Int.reduceNeg])))
    (refine GC.call (by first | rfl | (simp; done) | (simp [hdOK_encU, hdOK_encL, allSz_encU, allSz_encL, encU_length, encL_length, encD_one, encD_cells, AVone_v, AVone_sl, AVone_agg, AVone_ref, AVone_fn, AVone_ifc, AVcells_v, AVcells_sl, AVcells_agg, AVcells_ref, AVcells_fn, AVcells_ifc, Value.oneCell', allSz]; done) | (simp [hdOK_encU, hdOK_encL, allSz_encU, allSz_encL, encU_length, encL_length, encD_one, encD_cells, AVone_v, AVone_sl, AVone_agg, AVone_ref, AVone_fn, AVone_ifc, AVcells_v, AVcells_sl, AVcells_agg, AVcells_ref, AVcells_fn, AVcells_ifc, Value.oneCell', allSz]; omega)) (hm) ?_; refine GC_run2 4000 ?_; dsimp only [go_sem, Nat.reduceBEq, Nat.reduceAdd, Nat.reduceMul, Nat.reduceSub, Int.reduceBEq, Int.reduceBNe, Int.reduceAdd, Int.reduceSub, Int.reduceMul, Int.reduceToNat, Int.reduceNeg])
    refine GC.finE (by first | rfl | (simp; done) | (simp [hdOK_encU, hdOK_encL, allSz_encU, allSz_encL, encU_length, encL_length, encD_one, encD_cells, AVone_v, AVone_sl, AVone_agg, AVone_ref, AVone_fn, AVone_ifc, AVcells_v, AVcells_sl, AVcells_agg, AVcells_ref, AVcells_fn, AVcells_ifc, Value.oneCell', allSz]; done) | (simp [hdOK_encU, hdOK_encL, allSz_encU, allSz_encL, encU_length, encL_length, encD_one, encD_cells, AVone_v, AVone_sl, AVone_agg, AVone_ref, AVone_fn, AVone_ifc, AVcells_v, AVcells_sl, AVcells_agg, AVcells_ref, AVcells_fn, AVcells_ifc, Value.oneCell', allSz]; omega)) ?_
    rfl
  · have hd : decide (n < 0) = false := by simpa using hn
    have ha : abs64 n = IntKind.u64.wrap n := by simp [abs64, hn]
    rw [ha, hd] at hm ⊢
    generalize (madeN false _) = r at hm ⊢
    simp only [encU, List.map] at hm
    (refine Sound.of_go D_ok D_mix Tryd.func57 rfl (by decide) (by kernel_rfl) (GC.go ?_); refine GC_run2 4000 ?_; dsimp only [Tryd.f57, CD, go_sem, Nat.reduceBEq, Nat.reduceAdd, Nat.reduceMul, Nat.reduceSub, Int.reduceBEq, Int.reduceBNe, Int.reduceAdd, Int.reduceSub, Int.reduceMul, Int.reduceToNat, Int.reduceNeg, encD])
    (repeat (simp only [hd]; try (dsimp only [go_sem, Nat.reduceBEq, Nat.reduceAdd, Nat.reduceMul, Nat.reduceSub, Int.reduceBEq, Int.reduceBNe, Int.reduceAdd, Int.reduceSub, Int.reduceMul, Int.reduceToNat, Int.reduceNeg])))
    (refine GC.call (by first | rfl | (simp; done) | (simp [hdOK_encU, hdOK_encL, allSz_encU, allSz_encL, encU_length, encL_length, encD_one, encD_cells, AVone_v, AVone_sl, AVone_agg, AVone_ref, AVone_fn, AVone_ifc, AVcells_v, AVcells_sl, AVcells_agg, AVcells_ref, AVcells_fn, AVcells_ifc, Value.oneCell', allSz]; done) | (simp [hdOK_encU, hdOK_encL, allSz_encU, allSz_encL, encU_length, encL_length, encD_one, encD_cells, AVone_v, AVone_sl, AVone_agg, AVone_ref, AVone_fn, AVone_ifc, AVcells_v, AVcells_sl, AVcells_agg, AVcells_ref, AVcells_fn, AVcells_ifc, Value.oneCell', allSz]; omega)) (hm) ?_; refine GC_run2 4000 ?_; dsimp only [go_sem, Nat.reduceBEq, Nat.reduceAdd, Nat.reduceMul, Nat.reduceSub, Int.reduceBEq, Int.reduceBNe, Int.reduceAdd, Int.reduceSub, Int.reduceMul, Int.reduceToNat, Int.reduceNeg])
    refine GC.finE (by first | rfl | (simp; done) | (simp [hdOK_encU, hdOK_encL, allSz_encU, allSz_encL, encU_length, encL_length, encD_one, encD_cells, AVone_v, AVone_sl, AVone_agg, AVone_ref, AVone_fn, AVone_ifc, AVcells_v, AVcells_sl, AVcells_agg, AVcells_ref, AVcells_fn, AVcells_ifc, Value.oneCell', allSz]; done) | (simp [hdOK_encU, hdOK_encL, allSz_encU, allSz_encL, encU_length, encL_length, encD_one, encD_cells, AVone_v, AVone_sl, AVone_agg, AVone_ref, AVone_fn, AVone_ifc, AVcells_v, AVcells_sl, AVcells_agg, AVcells_ref, AVcells_fn, AVcells_ifc, Value.oneCell', allSz]; omega)) ?_
    rfl
theorem D_int (n : Int) : Sound (CD W0 κ GG) 30 [.v (.int .i64 n)] [.av (encD (intD n))] := by
  have h := D_nof (W0 := W0) (κ := κ) (GG := GG) n
  unfold intD
  (refine Sound.of_go D_ok D_mix Tryd.func30 rfl (by decide) (by kernel_rfl) (GC.go ?_); refine GC_run2 4000 ?_; dsimp only [Tryd.f30, CD, go_sem, Nat.reduceBEq, Nat.reduceAdd, Nat.reduceMul, Nat.reduceSub, Int.reduceBEq, Int.reduceBNe, Int.reduceAdd, Int.reduceSub, Int.reduceMul, Int.reduceToNat, Int.reduceNeg, encD])
  (refine GC.call (by first | rfl | (simp; done) | (simp [hdOK_encU, hdOK_encL, allSz_encU, allSz_encL, encU_length, encL_length, encD_one, encD_cells, AVone_v, AVone_sl, AVone_agg, AVone_ref, AVone_fn, AVone_ifc, AVcells_v, AVcells_sl, AVcells_agg, AVcells_ref, AVcells_fn, AVcells_ifc, Value.oneCell', allSz]; done) | (simp [hdOK_encU, hdOK_encL, allSz_encU, allSz_encL, encU_length, encL_length, encD_one, encD_cells, AVone_v, AVone_sl, AVone_agg, AVone_ref, AVone_fn, AVone_ifc, AVcells_v, AVcells_sl, AVcells_agg, AVcells_ref, AVcells_fn, AVcells_ifc, Value.oneCell', allSz]; omega)) (h) ?_; refine GC_run2 4000 ?_; dsimp only [go_sem, Nat.reduceBEq, Nat.reduceAdd, Nat.reduceMul, Nat.reduceSub, Int.reduceBEq, Int.reduceBNe, Int.reduceAdd, Int.reduceSub, Int.reduceMul, Int.reduceToNat, Int.reduceNeg])
  refine GC.finE (by first | rfl | (simp; done) | (simp [hdOK_encU, hdOK_encL, allSz_encU, allSz_encL, encU_length, encL_length, encD_one, encD_cells, AVone_v, AVone_sl, AVone_agg, AVone_ref, AVone_fn, AVone_ifc, AVcells_v, AVcells_sl, AVcells_agg, AVcells_ref, AVcells_fn, AVcells_ifc, Value.oneCell', allSz]; done) | (simp [hdOK_encU, hdOK_encL, allSz_encU, allSz_encL, encU_length, encL_length, encD_one, encD_cells, AVone_v, AVone_sl, AVone_agg, AVone_ref, AVone_fn, AVone_ifc, AVcells_v, AVcells_sl, AVcells_agg, AVcells_ref, AVcells_fn, AVcells_ifc, Value.oneCell', allSz]; omega)) ?_
  rfl
end
end Go.Sy

/- slices.Backward of data. -/
set_option linter.unusedVariables false
set_option maxRecDepth 100000
set_option maxHeartbeats 4000000
namespace Go.Sy
open Go.Proofs Go.RowKit Go.Shelf
attribute [local go_sem] Oper.semAt_some

def downTo (len k : Nat) : List Nat := (List.range k).map fun i => len - 1 - i
theorem downTo_succ (len k : Nat) : downTo len (k + 1) = downTo len k ++ [len - 1 - k] := by simp [downTo, List.range_succ]
theorem downTo_length (len k : Nat) : (downTo len k).length = k := by simp [downTo]

theorem D_back1 (F : Fence) (n : Nat) (h82 : F.fn 82) (hro : F.round = none) (hn : 1 ≤ n) (l bx ox b off len cap : Nat) (ad : Option Addr) (cs : Nat → List Value) (m : Mem) (hreach : len < 1099511627776)
    (hm0 : m bx ox = some (.slice ad len cap)) (had : len = 0 ∨ ad = some ⟨b, off, none⟩) (hm6 : ∀ j, (cs j).length = 6) (hm : ∀ j, j < len → ∀ k v, (cs j)[k]? = some v → m b (off + j * 6 + k) = some v)
    (J Jx : List Nat → World → Prop) (Kp : World → World → Prop) (hKp : ∀ A B, Kp A B → Cons m A → Cons m B)
    (hY : ∀ pre x W, J pre W → pre.length < len → YieldAt F (n - 1) Tryd.prog l #[.int .i64 (x : Nat), .agg (cs x).toArray] W fun e W' =>
      (e = .returned (.bool true) ∧ J (pre ++ [x]) W' ∧ Kp W W') ∨ (e = .returned (.bool false) ∧ Jx (pre ++ [x]) W'))
    (W : World) (hW : Cons m W) (h0 : J [] W) :
    CallsIn F n Tryd.prog 82 #[.func (.yield l) #[] #[], .pointer (some ⟨bx, ox, none⟩)] W fun e W' => (∃ v, e = .returned v) ∧
      ((∃ xs, xs = downTo len len ∧ J xs W') ∨ (∃ pre, True ∧ Jx pre W')) := by
  have hBs : W.cell? ⟨bx, ox, none⟩ = some (.slice ad len cap) := hW _ _ _ hm0
  refine callsIn_of_wp Tryd.func82 rfl h82 ?_ hro
  simp only [Tryd.ntmps82, List.size_toArray, List.length_cons, List.length_nil, Nat.reduceAdd, Nat.reduceSub, Array.replicate_succ, Array.replicate_zero, List.push_toArray, List.append_toArray, List.nil_append, List.cons_append]
  gi_wp2
  gi_loopw [3] (fun i wr => ∃ k : Nat, k ≤ len ∧ i = .int .i64 ((len : Int) - 1 - k) ∧ J (downTo len k) wr ∧ Cons m wr)
    (fun i _ => ((intOf i) + 1).toNat)
  case atStart => exact ⟨0, Nat.zero_le _, by simp, h0, hW⟩
  case round =>
    obtain ⟨k, hk, rfl, hJs, hnx⟩ := hrel
    have hcx : wr.cell? ⟨bx, ox, none⟩ = some (.slice ad len cap) := hnx _ _ _ hm0
    by_cases hlt : k < len
    · obtain rfl : ad = some ⟨b, off, none⟩ := had.resolve_left (by omega)
      obtain ⟨fn, tmps, assign, body, hy, hR⟩ := hY _ (len - 1 - k) wr hJs (by rw [downTo_length]; exact hlt)
      have hld : ∀ j v, (cs (len - 1 - k))[j]? = some v → wr.cell? ⟨b, off + (len - 1 - k) * 6 + j, none⟩ = some v := fun j v hv => hnx _ _ _ (hm _ (by omega) j v hv)
      have h6 := hm6 (len - 1 - k)
      have e1 : ((len : Int) - 1 - k) = ((len - 1 - k : Nat) : Int) := by omega
      have e2 : len - 1 - k < len := by omega
      have e3 : downTo len k ++ [len - 1 - k] = downTo len (k + 1) := (downTo_succ _ _).symm
      have e4 : ((len - 1 - k : Nat) : Int) - 1 = (len : Int) - 1 - (k + 1 : Nat) := by omega
      rw [e1]
      generalize hcs : cs (len - 1 - k) = c at *
      generalize len - 1 - k = x at *
      match c, h6 with
      | [c0, c1, c2, c3, c4, c5], _ =>
        have hc0 := hld 0 c0 rfl
        have hc1 := hld 1 c1 rfl
        have hc2 := hld 2 c2 rfl
        have hc3 := hld 3 c3 rfl
        have hc4 := hld 4 c4 rfl
        have hc5 := hld 5 c5 rfl
        simp only [Nat.add_zero] at hc0
        clear hld
        gi_wp2
        refine hR.mono ?_
        rintro e W3 (⟨rfl, hJ3, hk3⟩ | ⟨rfl, hJx3⟩)
        · gi_wp2
          go_roundw
          case rel => exact ⟨k + 1, by omega, by simp, by rw [← e3]; exact hJ3, hKp _ _ hk3 hnx⟩
          case measure => simp [intOf]; omega
        · gi_wp2
          refine bodyPost_ret (results_none rfl _ _ _) rfl ?_
          exact ⟨⟨_, rfl⟩, .inr ⟨_, trivial, hJx3⟩⟩
    · obtain rfl : k = len := by omega
      gi_wp2
      go_end0
      exact ⟨⟨_, rfl⟩, .inl ⟨_, rfl, hJs⟩⟩
end Go.Sy

/- Contracts of the program's functions over abstract values. By gen.py. -/
set_option linter.unusedVariables false
set_option linter.unusedSimpArgs false
set_option maxRecDepth 100000
set_option maxHeartbeats 4000000
namespace Go.Sy
open Go.Proofs
attribute [local go_sem] runO_t runO_f band_t band_f bor_t bor_f bnot_t bnot_f gdK_tt gdK_ff gdK_tf gdK_ft brK_t brK_f runE_some runF_some runA_some runG_some runB_some runX_some runR_some run_nil run_skip run_seq run_region run_block run_blk run_exit run_cond run_ret run_loop run_lp run_opsNil run_opsOrd run_opsOp run_opsGuard run_cl run_gd run_br run_fin run_clx run_fst run_callf runY_t runY_f runS_some runV_t runV_f aBuildK_t aBuildK_f Mode.plain run_move run_nilCheck run_assign run_pick run_alloc run_box run_build run_buildSlice run_load run_store run_binOp run_unOp run_convert run_slice run_fieldAddr run_indexAddr run_index run_field run_extract run_makeInterface run_makeFunc run_len run_max run_min run_append St.ev St.evl St.evs St.evo capsOf callOf look drop put putAll toTV_nil toTV_int toTV_bool toTV_str toTV_ptr toTV_ifc toTV_fn toAV_nil toAV_int toAV_bool toAV_str toAV_ptr toAV_ifc toAV_fn aAssign_nil aAssign_tmp aAssign_int aAssign_bool aAssign_str aAssign_ptr aAssign_nilf aAssign_ifc aAssign_func aAssign_glob nilConst_slice nilConst_ptr nilConst_ifc nilConst_tmp plain Option.bind TV.cells TV.one AVone_v AVone_sl AVone_agg AVone_ref AVone_fn AVone_ifc AVone_sent Value.oneCell' oneVs avOf avsOf expo expos expoC exposC TV.isC allC fillsT aBuildT lendR ren renT0 renC renT renO renW xFoot xSt newIds retX retXs isT0 asList List.map St.app setD St.setT ownD trA effFoot callFoot callSt callReq St.fresh freshT freshO allFresh TV.ment TVs.ment SObj.ment fsts mentW noFoot List.contains List.elem aPick aAlloc aBox aBuild aBuildSlice nonNil allSz aUn aConv aField aIndex aByte aPart aExtract aIface aFunc aLen ty1 aMax aApp aAppend aCheck emptyL aSlice okHd hdOK_nil hdOK_cons aLoad aStore aBin aNil sBin sInt isSh sameSh nilness fills fillAt fillTV putCells intOf? mkInt AVcells_v AVcells_sl AVcells_agg AVcells_ref AVcells_fn AVcells_ifc AVcells_sent St.g0 St.g guardOf guardOff udf argsOf lends lendBox bindRes bindR bindRs flatR flatV boolOf retItems retItems0 retItem rowsOf disjB ownIds resIds nodupB St.init initT popTo cond_true cond_false Option.getD Option.map List.take List.drop List.length List.zip List.zipWith List.range List.range.loop List.append List.foldr List.nil_append List.cons_append List.append_nil List.getElem?_cons_zero List.getElem?_cons_succ GetElem?.getElem? List.get?Internal Int.toNat_natCast cst0 cst1 cst2 cst3 cst4 cst5 cst6 cst7 cst8 cst9 cst10 cst11 toNat0 toNat1 toNat2 toNat3 getD0 getD1 getD2 getD3 run_zero memN keepT dropO St.re leT leO D_q2  D_q3  D_q4  D_q5  D_q9  D_q12  D_q21  D_q22  D_q24  D_q25  D_q27  D_q28  D_q32  D_q46  D_q48  D_q50  D_q52  D_q53  D_q54  D_q56  D_q57  D_q61  D_q70  D_q72  D_q76  D_q77  D_q79  D_q80  D_q83  D_q85  D_q91  D_q93  D_q104  D_q108  D_q115  D_q118  D_q121  D_q134  D_q136  D_q137
section
variable {W0 : World} {κ : Nat → Addr} {GG : Nat → Option AV}

open Go.RowKit Go.Shelf
def zeroB : SObj := .box [.av (.v (.int .i64 0)), .av (.v (.int .i32 0)), .av (.v (.bool false)), .full [], .av (.v (.string ⟨#[]⟩)), .full []]
theorem D_back_in (a : Option Addr) (len cap : Nat) (w : World) :
    CallsIn Fence.wide 10 Tryd.prog 55 #[.slice a len cap] w fun e w' => e = .returned (.func (.func 82) #[] #[.pointer (some ⟨w.heap.size, 0, none⟩)]) ∧ w' = w.alloc (.cells #[.slice a len cap] 25) := by
  refine callsIn_of_wp Tryd.func55 rfl trivial ?_ rfl
  simp only [Tryd.ntmps55, List.size_toArray, List.length_cons, List.length_nil, Nat.reduceAdd, Nat.reduceSub, Array.replicate_succ, Array.replicate_zero, List.push_toArray, List.append_toArray, List.nil_append, List.cons_append]
  gi_wp2
  go_ret
  exact ⟨rfl, rfl⟩
theorem D_back (l : List Dat) : Sound (CD W0 κ GG) 55 [.sl (encL l)] [.av (.fn 82 [.ref [.sl (encL l)]])] := by
  refine ⟨by kernel_rfl, fun m w vs hcons hglob hW hA => ?_⟩
  obtain ⟨u, us, rfl, hu, rfl⟩ := hA
  have hu' := hu
  simp only [RepV] at hu
  obtain ⟨a, c, rfl, hc, sz, b, o, h1, h2⟩ := hu
  refine ((callsIn_wide (n := 10)).1 (D_back_in _ _ _ _)).mono ?_
  rintro e w' ⟨rfl, rfl⟩
  have hnone : ∀ o, m w.heap.size o = none := fun o => by
    cases h : m w.heap.size o with
    | none => rfl
    | some u => exact absurd (hcons.lt h) (Nat.lt_irrefl _)
  have hle := addRow_le (us := [.slice a (encL l).length c]) hnone
  refine ⟨⟨_, addRow m w.heap.size [.slice a (encL l).length c], rfl, hle, fun b' hb' => ?_, ?_, (Below.refl _ _).alloc (Nat.le_refl _) _, ?_⟩⟩
  · have : b' ≠ w.heap.size := by omega
    funext o
    simp [addRow, this]
  · intro b' o u hu
    by_cases hb : b' = w.heap.size
    · subst hb
      simp only [addRow, if_true] at hu
      have h0 := World.alloc_heap_new w (.cells #[.slice a (encL l).length c] 25)
      cases o with
      | zero => simp at hu; subst hu; simp only [World.cell?]; rw [show (w.alloc (Obj.cells #[Value.slice a (encL l).length c] 25)).heap[w.heap.size]? = _ from h0]; rfl
      | succ o => simp at hu
    · simp only [addRow, hb, if_false] at hu
      have hlt := hcons.lt hu
      rw [((Below.refl _ w).alloc (Nat.le_refl _) _).cell (p := ⟨b', o, none⟩) hlt]
      exact hcons _ _ _ hu
  · show RepV _ _ (.fn 82 [.ref [.sl (encL l)]]) _
    have := hu'.mono hle
    simp only [RepV, RepL, RepC] at this ⊢
    exact ⟨_, rfl, _, _, rfl, rfl, ⟨_, _, rfl, ⟨_, by simp [addRow], rfl, this⟩, trivial⟩, rfl⟩
def curD (l : List Dat) (pre : List Nat) : Dat := pre.foldl (fun d j => consD (l.getD j nilD) d) nilD
theorem curD_snoc (l : List Dat) (pre : List Nat) (x : Nat) : curD l (pre ++ [x]) = consD (l.getD x nilD) (curD l pre) := by simp [curD]
theorem curD_down (l : List Dat) : ∀ k, k ≤ l.length → curD l (downTo l.length k) = listE (l.drop (l.length - k)) nilD
  | 0, _ => by simp [downTo, curD, listE]
  | k + 1, h => by
    rw [downTo_succ, curD_snoc, curD_down l k (by omega), listE_drop (i := l.length - (k + 1)) (by omega)]
    have e1 : l.length - (k + 1) + 1 = l.length - k := by omega
    have e2 : l.length - 1 - k = l.length - (k + 1) := by omega
    rw [e1, e2, List.getD_eq_getElem?_getD, List.getElem?_eq_getElem (by omega : l.length - (k + 1) < l.length)]
    rfl
def cellsD (d : Dat) : List AV := [.v (.int .i64 d.kind), .v (.int .i32 d.c), .v (.bool d.neg), .sl (encU d.mag), .v (.string d.t), .sl (encL d.l)]
theorem encD_cellsD (d : Dat) : encD d = .agg (cellsD d) := by cases d; simp [encD, cellsD, Dat.kind, Dat.c, Dat.neg, Dat.mag, Dat.t, Dat.l]
theorem boxD_cellsD (d : Dat) : boxD d = .box ((cellsD d).map .av) := rfl
theorem nil_cells (κ : Nat → Addr) (m : Mem) : RepL κ m (cellsD nilD) [.int .i64 0, .int .i32 0, .bool false, .slice none 0 0, .string ⟨#[]⟩, .slice none 0 0] := by
  have h0 : RepV κ m (.sl []) (.slice none 0 0) := by
    simp only [RepV]
    exact ⟨none, 0, rfl, Nat.le_refl _, 0, 0, 0, .inl trivial, trivial⟩
  have e1 : encU [] = [] := rfl
  have e2 : encL [] = [] := rfl
  simp only [cellsD, nilD, Dat.kind, Dat.c, Dat.neg, Dat.mag, Dat.t, Dat.l, e1, e2, RepL]
  refine ⟨_, _, rfl, rfl, by simp only [RepV], _, _, rfl, rfl, by simp only [RepV], _, _, rfl, rfl, by simp only [RepV], _, _, rfl, rfl, h0, _, _, rfl, rfl, by simp only [RepV], _, _, rfl, rfl, h0, rfl⟩
theorem list_cells {κ : Nat → Addr} {m : Mem} {sz b o : Nat} {l : List Dat} (h : RepE κ m sz b o (encL l)) (j : Nat) : ∃ c : List Value, c.length = 6 ∧ RepL κ m (cellsD (l.getD j nilD)) c ∧ (j < l.length → ∀ k v, c[k]? = some v → m b (o + j * 6 + k) = some v) := by
  by_cases hj : j < l.length
  · have hx : (encL l)[j]? = some (encD l[j]) := by rw [encL_map, List.getElem?_map, List.getElem?_eq_getElem hj]; rfl
    obtain ⟨y, h1, h2, h3, h4⟩ := h.get hx
    rw [encD_cellsD] at h1
    simp only [RepV] at h1
    obtain ⟨vs, rfl, hL⟩ := h1
    have hlen := hL.length
    have h6 : vs.toList.length = 6 := by rw [hlen]; rfl
    have hsz : sz = 6 := by rw [← h2]; simpa [Value.cells] using h6
    subst hsz
    refine ⟨vs.toList, h6, ?_, fun _ k v hv => h4 k v ?_⟩
    · rw [List.getD_eq_getElem?_getD, List.getElem?_eq_getElem hj]; exact hL
    · simpa [Value.cells] using hv
  · refine ⟨[.int .i64 0, .int .i32 0, .bool false, .slice none 0 0, .string ⟨#[]⟩, .slice none 0 0], rfl, ?_, fun h => absurd h hj⟩
    rw [List.getD_eq_getElem?_getD, List.getElem?_eq_none (by omega)]
    exact nil_cells κ m
theorem fine_nil : fine nilD := ⟨by simp [nilD, cnt, cntL], by simp [nilD, fineD, fineL]; decide⟩

/-- datum.List: from the last one on. -/
theorem D_list (l : List Dat) (hl : l.length < 1099511627776) (hfl : ∀ x ∈ l, fine x) : Sound (CD W0 κ GG) 26 [.sl (encL l)] [.av (encD (listD l))] := by
  refine ⟨by kernel_rfl, fun m w vs hcons hglob hW hA => ?_⟩
  refine (callsIn_wide (n := 10)).1 (callsIn_of_wp_marks Tryd.func26 rfl trivial ?_ rfl)
  have hX : Cx (CD W0 κ GG) (w.heap.size ≤ ·) m w := ⟨D_ok, hglob, hW, fun b hlt => by have := hW.size; omega, fun _ _ _ _ _ h => h.elim⟩
  have hRo : ∀ w', ¬ Post (CD W0 κ GG) m w [.av (encD (listD l))] .outgrown w' := fun w' h => by obtain ⟨v, m', h, _⟩ := h.out; cases h
  generalize hR : Post (CD W0 κ GG) m w [.av (encD (listD l))] = R at *
  have hQo : ¬ LetsOut (bodyPostM Fence.wide 10 Tryd.prog Tryd.f26 R) := fun ⟨a, w', h⟩ => hRo w' h
  have R0 : Rel (CD W0 κ GG) (w.heap.size ≤ ·) m w 17 (St.init [.sl (encL l)]) { tmps := vs.toArray ++ Array.replicate (17 - vs.toArray.size) undef, defers := [] } w := by
    refine ⟨by simp; omega, rfl, m, fun _ => undef, ⟨MLe.refl m, fun _ _ => rfl, hcons, Fr.refl _ _, fun b hb => hb, fun i o ho => ?_, fun i j oi oj b hi => ?_⟩, fun t x hx => ?_⟩
    · simp [St.init, St.g0, look] at ho
    · simp [St.init, St.g0, look] at hi
    · obtain ⟨j, y, h1, rfl, h3⟩ := initT_look hx
      obtain ⟨u, h4, h5⟩ := hA.get h1
      have ht : t = j := by omega
      subst ht
      refine ⟨u, ?_, h5⟩
      have hlt : t < vs.length := (List.getElem?_eq_some_iff.1 h4).1
      rw [Array.getElem?_append_left (by simpa using hlt)]
      simpa using h4
  refine wpIn_seq ?_
  refine region_in (s' := ⟨[(0, .av (.sl (encL l))), (2, .box 16 0)], [(16, zeroB)]⟩) wide_wide hX D_mix (rv := #[]) (N := 17) (by kernel_rfl) (by kernel_rfl) (GC.go (k := [_, _]) ?g0) R0 hQo fun a1 w1 R1 _ => ?_
  case g0 =>
    refine GC_run2 4000 ?_
    dsimp only [CD, go_sem]
    refine GC.backR (by first | rfl | (simp; done) | (simp [hdOK_encU, hdOK_encL, allSz_encU, allSz_encL, encU_length, encL_length, encD_one, encD_cells, AVone_v, AVone_sl, AVone_agg, AVone_ref, AVone_fn, AVone_ifc, AVcells_v, AVcells_sl, AVcells_agg, AVcells_ref, AVcells_fn, AVcells_ifc, Value.oneCell', allSz]; done) | (simp [hdOK_encU, hdOK_encL, allSz_encU, allSz_encL, encU_length, encL_length, encD_one, encD_cells, AVone_v, AVone_sl, AVone_agg, AVone_ref, AVone_fn, AVone_ifc, AVcells_v, AVcells_sl, AVcells_agg, AVcells_ref, AVcells_fn, AVcells_ifc, Value.oneCell', allSz]; omega)) (by omega) trivial ?_ ?_ <;> (repeat' (first | exact trivial | refine And.intro ?_ ?_)) <;> (try (dsimp only [go_sem, Nat.reduceBEq, Nat.reduceAdd, Nat.reduceMul, Nat.reduceSub, Int.reduceBEq, Int.reduceBNe, Int.reduceAdd, Int.reduceSub, Int.reduceMul, Int.reduceToNat, Int.reduceNeg]))
    all_goals rfl
  refine wpIn_seq ?_
  refine region_in (s' := ⟨[(0, .av (.sl (encL l))), (2, .box 16 0), (3, .box 24 0)], [(16, zeroB), (24, boxD nilD)]⟩) wide_wide hX D_mix (rv := #[]) (N := 17) (by kernel_rfl) (by kernel_rfl) (GC.go (k := [_, _]) ?g1) R1 hQo fun a2 w2 R2 _ => ?_
  case g1 =>
    refine GC_run2 4000 ?_
    dsimp only [CD, go_sem, zeroB]
    refine GC.backR (by first | rfl | (simp; done) | (simp [hdOK_encU, hdOK_encL, allSz_encU, allSz_encL, encU_length, encL_length, encD_one, encD_cells, AVone_v, AVone_sl, AVone_agg, AVone_ref, AVone_fn, AVone_ifc, AVcells_v, AVcells_sl, AVcells_agg, AVcells_ref, AVcells_fn, AVcells_ifc, Value.oneCell', allSz]; done) | (simp [hdOK_encU, hdOK_encL, allSz_encU, allSz_encL, encU_length, encL_length, encD_one, encD_cells, AVone_v, AVone_sl, AVone_agg, AVone_ref, AVone_fn, AVone_ifc, AVcells_v, AVcells_sl, AVcells_agg, AVcells_ref, AVcells_fn, AVcells_ifc, Value.oneCell', allSz]; omega)) (by omega) trivial ?_ ?_ <;> (repeat' (first | exact trivial | refine And.intro ?_ ?_)) <;> (try (dsimp only [go_sem, Nat.reduceBEq, Nat.reduceAdd, Nat.reduceMul, Nat.reduceSub, Int.reduceBEq, Int.reduceBNe, Int.reduceAdd, Int.reduceSub, Int.reduceMul, Int.reduceToNat, Int.reduceNeg]))
    all_goals rfl
  refine wpIn_seq (wpIn_seq ?_)
  refine region_in (s' := ⟨[(2, .box 16 0), (3, .box 24 0), (8, .av (.fn 82 [.ref [.sl (encL l)]]))], [(16, zeroB), (24, boxD nilD)]⟩) wide_wide hX D_mix (rv := #[]) (N := 17) (by kernel_rfl) (by kernel_rfl) (GC.go (k := [_, _]) ?g2) R2 hQo fun a3 w3 R3 _ => ?_
  case g2 =>
    refine GC_run2 4000 ?_
    dsimp only [CD, go_sem, zeroB]
    (refine GC.call (by first | rfl | (simp; done) | (simp [hdOK_encU, hdOK_encL, allSz_encU, allSz_encL, encU_length, encL_length, encD_one, encD_cells, AVone_v, AVone_sl, AVone_agg, AVone_ref, AVone_fn, AVone_ifc, AVcells_v, AVcells_sl, AVcells_agg, AVcells_ref, AVcells_fn, AVcells_ifc, Value.oneCell', allSz]; done) | (simp [hdOK_encU, hdOK_encL, allSz_encU, allSz_encL, encU_length, encL_length, encD_one, encD_cells, AVone_v, AVone_sl, AVone_agg, AVone_ref, AVone_fn, AVone_ifc, AVcells_v, AVcells_sl, AVcells_agg, AVcells_ref, AVcells_fn, AVcells_ifc, Value.oneCell', allSz]; omega)) (D_back l) ?_; refine GC_run2 4000 ?_; dsimp only [go_sem, Nat.reduceBEq, Nat.reduceAdd, Nat.reduceMul, Nat.reduceSub, Int.reduceBEq, Int.reduceBNe, Int.reduceAdd, Int.reduceSub, Int.reduceMul, Int.reduceToNat, Int.reduceNeg])
    refine GC.backR (by first | rfl | (simp; done) | (simp [hdOK_encU, hdOK_encL, allSz_encU, allSz_encL, encU_length, encL_length, encD_one, encD_cells, AVone_v, AVone_sl, AVone_agg, AVone_ref, AVone_fn, AVone_ifc, AVcells_v, AVcells_sl, AVcells_agg, AVcells_ref, AVcells_fn, AVcells_ifc, Value.oneCell', allSz]; done) | (simp [hdOK_encU, hdOK_encL, allSz_encU, allSz_encL, encU_length, encL_length, encD_one, encD_cells, AVone_v, AVone_sl, AVone_agg, AVone_ref, AVone_fn, AVone_ifc, AVcells_v, AVcells_sl, AVcells_agg, AVcells_ref, AVcells_fn, AVcells_ifc, Value.oneCell', allSz]; omega)) (by omega) trivial ?_ ?_ <;> (repeat' (first | exact trivial | refine And.intro ?_ ?_)) <;> (try (dsimp only [go_sem, Nat.reduceBEq, Nat.reduceAdd, Nat.reduceMul, Nat.reduceSub, Int.reduceBEq, Int.reduceBNe, Int.reduceAdd, Int.reduceSub, Int.reduceMul, Int.reduceToNat, Int.reduceNeg]))
    all_goals rfl
  refine wpIn_block ?_
  obtain ⟨m2, γ2, hp3, ht3⟩ := R3.mem
  obtain ⟨u2, hu2, hb2⟩ := ht3 2 (.box 16 0) rfl
  obtain ⟨u3, hu3, hb3⟩ := ht3 3 (.box 24 0) rfl
  obtain ⟨u8, hu8, hf8⟩ := ht3 8 _ rfl
  obtain ⟨rb, g16, rfl⟩ := hb2.2 zeroB rfl rfl
  obtain ⟨db, g24, rfl⟩ := hb3.2 (boxD nilD) rfl rfl
  simp only [RepT, RepT0, RepV, RepL] at hf8
  obtain ⟨vs8, rfl, u, us, hvs8, -, ⟨bx, ox, rfl, hC⟩, rfl⟩ := hf8
  have hvs8 : vs8 = #[.pointer (some ⟨bx, ox, none⟩)] := by rw [← Array.toList_inj]; exact hvs8
  subst hvs8
  simp only [RepC, RepV] at hC
  obtain ⟨⟨us, hm0, -, ad, cap, rfl, hcap, sz, b, off, had, hE⟩, -⟩ := hC
  obtain ⟨cs, hcs⟩ := Classical.axiomOfChoice (list_cells hE)
  have hll := encL_length l
  rw [hll] at hm0
  have hseq : SeqStopsK Fence.wide 9 Tryd.prog 82 #[.pointer (some ⟨bx, ox, none⟩)] (fun x : Nat => #[.int .i64 (x : Nat), .agg (cs x).toArray]) (fun A B => Cons m2 A → Cons m2 B) (fun xs => xs = downTo l.length l.length) (fun _ => True) l.length w3 := by
    intro lr J Jx W hW _ _ hY h0
    refine D_back1 Fence.wide 9 trivial rfl (by omega) lr bx ox b off l.length cap ad cs m2 hl hm0 (had.imp (fun h => by rw [← hll, h]; rfl) id) (fun j => (hcs j).1) (fun j hj k v hv => (hcs j).2.2 hj k v hv) J Jx _ (fun A B h => h) hY W ?_ h0
    exact fun b o u hu => by rw [hW.cell (p := ⟨b, o, none⟩) (hp3.cons.lt hu)]; exact hp3.cons b o u hu
  have hsz3 : 17 ≤ a3.tmps.size := R3.size
  have hw3 : w.heap.size ≤ w3.heap.size := hp3.fr.size
  let gO : Dat → Gs := fun d => look [(16, zeroB), (24, boxD d)]
  let Inv : List Nat → World → Prop := fun pre W => ∃ m1 γ1, MLe m2 m1 ∧ Hp κ (w.heap.size ≤ ·) m w (gO (curD l pre)) m1 γ1 W ∧ γ1 16 = .pointer (some ⟨rb, 0, none⟩) ∧ γ1 24 = .pointer (some ⟨db, 0, none⟩)
  let Ax : Nat → Act → World → Prop := fun x a' W => 17 ≤ a'.tmps.size ∧ a'.defers = [] ∧ a'.tmps[2]? = a3.tmps[2]? ∧ a'.tmps[3]? = a3.tmps[3]? ∧ ∃ b5, a'.tmps[5]? = some (.pointer (some ⟨b5, 0, none⟩)) ∧ b5 ≠ rb ∧ b5 ≠ db ∧ w.heap.size ≤ b5 ∧ ∀ k v, (cs x)[k]? = some v → W.cell? ⟨b5, k, none⟩ = some v
  refine wpIn_rangeFunc_ownH (α := Nat) (n := 10) rfl (by omega) (gf := 82) (lb := #[.pointer (some ⟨bx, ox, none⟩)]) ?eval trivial (enters_of Tryd.func82 (by kernel_rfl) rfl) hseq (fun h k c => k (h c)) ?hKb (Below.refl _ _) (fun _ => rfl) Inv (fun _ _ _ => False) ?hI (fun _ _ _ _ _ h _ _ => h) ?h0 Ax ?hAx ?assign ?body ?done (fun D c pre W _ _ h _ => h.elim)
  case eval => simp only [Act.eval, Array.getD_eq_getD_getElem?, hu8]; rfl
  case hKb => exact fun W lr o o' hlt ho hc _ hcons => hcons.grown (grownBy_putObj' W lr o') (fun r e => by cases e; exact ⟨o, ho, hc⟩)
  case hI =>
    rintro pre W W' row ⟨m1, γ1, h1, h2, h3, h4⟩ hg hr
    exact ⟨m1, γ1, h1, h2.grown hg (fun r e => by have := (hr r e).1; omega) (fun r e => (hr r e).2), h3, h4⟩
  case h0 => exact ⟨m2, γ2, MLe.refl _, hp3, g16, g24⟩
  case hAx =>
    rintro x a' _ W W' row ⟨h1, h2, h3, h4, b5, h5, h6, h7, h8, h9⟩ hg hr
    exact ⟨h1, h2, h3, h4, b5, h5, h6, h7, h8, fun k v hv => cell_kept (h9 k v hv) hg (fun r e => (hr r e).2)⟩
  case assign =>
    rintro lr pre x W K ⟨m1, γ1, h1, h2, h3, h4⟩ hK
    have hone : ∀ u ∈ cs x, u.oneCell' = true := (hcs x).2.1.one
    obtain ⟨c0, c1, c2, c3, c4, c5, hcx⟩ : ∃ c0 c1 c2 c3 c4 c5, cs x = [c0, c1, c2, c3, c4, c5] := by
      have := (hcs x).1
      match cs x, this with
      | [c0, c1, c2, c3, c4, c5], _ => exact ⟨c0, c1, c2, c3, c4, c5, rfl⟩
    rw [hcx] at hone
    generalize haA : ({ tmps := _, defers := [] } : Act) = aA
    have hsA : aA.tmps.size = a3.tmps.size := by rw [← haA]; simp
    have h2A : aA.tmps[2]? = a3.tmps[2]? := by rw [← haA]; simp
    have h3A : aA.tmps[3]? = a3.tmps[3]? := by rw [← haA]; simp
    have hTA : aA.tmps[10]? = some (.agg #[c0, c1, c2, c3, c4, c5]) := by rw [← haA]; simp [hcx, Array.getElem?_setIfInBounds]; omega
    have RA : Rel (CD W0 κ GG) (OwF (gO (curD l pre)) m1 γ1 W) m1 W 17 ⟨[(2, .box 16 0), (3, .box 24 0), (10, .av (.agg [.v c0, .v c1, .v c2, .v c3, .v c4, .v c5]))], [(16, zeroB), (24, boxD (curD l pre))]⟩ aA W := by
      refine ⟨by omega, by rw [← haA], m1, γ1, h2.here, fun t y hy => ?_⟩
      have hm := look_mem hy
      simp only [List.mem_cons, Prod.mk.injEq, List.not_mem_nil, or_false] at hm
      rcases hm with ⟨rfl, rfl⟩ | ⟨rfl, rfl⟩ | ⟨rfl, rfl⟩
      · exact ⟨_, h2A.trans hu2, ⟨_, rfl⟩, fun _ _ _ => ⟨rb, h3, rfl⟩⟩
      · exact ⟨_, h3A.trans hu3, ⟨_, rfl⟩, fun _ _ _ => ⟨db, h4, rfl⟩⟩
      · refine ⟨_, hTA, ?_⟩
        simp only [RepT, RepT0, RepV, RepL]
        exact ⟨_, rfl, _, _, rfl, hone c0 (by simp), rfl, _, _, rfl, hone c1 (by simp), rfl, _, _, rfl, hone c2 (by simp), rfl, _, _, rfl, hone c3 (by simp), rfl, _, _, rfl, hone c4 (by simp), rfl, _, _, rfl, hone c5 (by simp), rfl, rfl⟩
    refine region_in (s' := ⟨[(2, .box 16 0), (3, .box 24 0), (5, .box 40 0)], [(16, zeroB), (24, boxD (curD l pre)), (40, .box ([c0, c1, c2, c3, c4, c5].map fun c => .av (.v c)))]⟩) (wide_round lr) (hX.here h2) D_mix (rv := #[]) (N := 17) (by kernel_rfl) (by kernel_rfl) (GC.go (k := [_, _]) ?g3) RA (fun ⟨_, _, h⟩ => h) fun a' W' RA' hS => ?_
    case g3 =>
      generalize curD l pre = d
      refine GC_run2 4000 ?_
      dsimp only [CD, go_sem, zeroB, boxD]
      refine GC.backR (by dsimp only [go_sem]; simp [AVone_agg, AVone_v, hone c0 (by simp), hone c1 (by simp), hone c2 (by simp), hone c3 (by simp), hone c4 (by simp), hone c5 (by simp)]; done) (by omega) trivial ?_ ?_ <;> (repeat' (first | exact trivial | refine And.intro ?_ ?_)) <;> (try (dsimp only [go_sem, Nat.reduceBEq, Nat.reduceAdd, Nat.reduceMul, Nat.reduceSub, Int.reduceBEq, Int.reduceBNe, Int.reduceAdd, Int.reduceSub, Int.reduceMul, Int.reduceToNat, Int.reduceNeg]))
      all_goals rfl
    obtain ⟨m', γ', hp', ht'⟩ := RA'.mem
    have hpB := h2.back hp'
    have hk2 : a'.tmps[2]? = a3.tmps[2]? := (hS.2 2 (by intro i o h; rcases i with _ | _ | i <;> simp at h <;> subst h <;> simp)).trans h2A
    have hk3 : a'.tmps[3]? = a3.tmps[3]? := (hS.2 3 (by intro i o h; rcases i with _ | _ | i <;> simp at h <;> subst h <;> simp)).trans h3A
    obtain ⟨v2, hv2, hB2⟩ := ht' 2 (.box 16 0) rfl
    obtain ⟨v3, hv3, hB3⟩ := ht' 3 (.box 24 0) rfl
    obtain ⟨v5, hv5, hB5⟩ := ht' 5 (.box 40 0) rfl
    obtain ⟨rb', q16, rfl⟩ := hB2.2 zeroB rfl rfl
    obtain ⟨db', q24, rfl⟩ := hB3.2 (boxD (curD l pre)) rfl rfl
    obtain ⟨b5, q40, rfl⟩ := hB5.2 _ rfl rfl
    have e2 := hv2.symm.trans (hk2.trans hu2)
    have e3 := hv3.symm.trans (hk3.trans hu3)
    cases e2
    cases e3
    obtain ⟨b, arr, e, o1, o2, o3, o4, o5, o6⟩ := hp'.objs 40 _ rfl
    rw [q40] at o1
    cases o1
    have x40 : Exc m' (γ' 40) b5 := ⟨by rw [q40]; rfl, o3, by rw [q40]; simp⟩
    refine hK a' W' (h2.keeps hp'.fr _) (fun _ b o u hu => hp'.cons _ _ _ (hp'.ext _ _ _ (h1 _ _ _ hu))) ⟨m', γ', h1.trans hp'.ext, hpB.sub ?_, q16, q24⟩ ⟨by rw [hS.1]; omega, RA'.defers, hk2, hk3, b5, hv5, ?_, ?_, h2.owF _ o2, ?_⟩
    · intro i o ho
      have hm := look_mem ho
      simp only [List.mem_cons, Prod.mk.injEq, List.not_mem_nil, or_false] at hm
      rcases hm with ⟨rfl, rfl⟩ | ⟨rfl, rfl⟩ <;> rfl
    · rintro rfl
      have := hp'.inj 16 40 _ _ b5 rfl rfl rfl rfl ⟨by rw [q16]; rfl, o3, by rw [q16]; simp⟩ x40
      omega
    · rintro rfl
      have := hp'.inj 24 40 _ _ b5 rfl rfl rfl rfl ⟨by rw [q24]; rfl, o3, by rw [q24]; simp⟩ x40
      omega
    · intro k v hv
      rw [hcx] at hv
      obtain ⟨u, hu, _, hr⟩ := o6 k (.av (.v v)) (by rw [List.getElem?_map, hv]; rfl)
      simp only [RepT, RepT0, RepV] at hr
      subst hr
      simp [World.cell?, o4, hu]
  case body =>
    rintro lr pre x a' W hlr - ⟨m1, γ1, h1, h2, h3, h4⟩ ⟨k1, k2, k3, k4, b5, k5, k6, k7, k8, k9⟩ hlen
    obtain ⟨m1', hm1'⟩ : ∃ m1' : Mem, m1' = fun b o => if b = b5 ∧ o < 6 then (cs x)[o]? else m1 b o := ⟨_, rfl⟩
    have h6 := (hcs x).1
    have hle : MLe m1 m1' := by
      intro b o u hu
      rw [hm1']
      dsimp only
      split
      · rename_i hb
        obtain ⟨rfl, ho⟩ := hb
        have hc : (cs x)[o]? = some ((cs x)[o]'(by omega)) := List.getElem?_eq_getElem _
        have := (h2.cons b o u hu).symm.trans (k9 o _ hc)
        rw [hc, this]
      · exact hu
    have hcons' : Cons m1' W := by
      intro b o u hu
      rw [hm1'] at hu
      dsimp only at hu
      split at hu
      · rename_i hb
        obtain ⟨rfl, ho⟩ := hb
        exact k9 o u hu
      · exact h2.cons b o u hu
    have h2' : Hp κ (w.heap.size ≤ ·) m w (gO (curD l pre)) m1' γ1 W := by
      refine h2.step (K := fun _ => False) hle (fun b hb => ?_) hcons' (Fr.refl _ _) (fun i _ => ⟨rfl, rfl⟩) (fun i o b _ ho hl hx => ⟨rfl, fun o' => ?_⟩) (fun i o id _ _ _ => Cmp.same rfl rfl) (fun _ _ h => h.elim) (fun _ _ _ _ _ h => h.elim)
      · funext o
        have : b ≠ b5 := fun e => hb (e ▸ k8)
        simp [hm1', this]
      · have : b ≠ b5 := by
          have hm := look_mem ho
          simp only [List.mem_cons, Prod.mk.injEq, List.not_mem_nil, or_false] at hm
          have hxb := hx.1
          rcases hm with ⟨rfl, rfl⟩ | ⟨rfl, rfl⟩
          · rw [h3] at hxb; simp [blkOf] at hxb; omega
          · rw [h4] at hxb; simp [blkOf] at hxb; omega
        simp only [hm1', this, false_and, if_false]
        exact hx.2.1 o'
    have RB : Rel (CD W0 κ GG) (OwF (gO (curD l pre)) m1' γ1 W) m1' W 17 ⟨[(2, .box 16 0), (3, .box 24 0), (5, .av (.ref (cellsD (l.getD x nilD))))], [(16, zeroB), (24, boxD (curD l pre))]⟩ a' W := by
      refine ⟨k1, k2, m1', γ1, h2'.here, fun t y hy => ?_⟩
      have hm := look_mem hy
      simp only [List.mem_cons, Prod.mk.injEq, List.not_mem_nil, or_false] at hm
      rcases hm with ⟨rfl, rfl⟩ | ⟨rfl, rfl⟩ | ⟨rfl, rfl⟩
      · exact ⟨_, k3.trans hu2, ⟨_, rfl⟩, fun _ _ _ => ⟨rb, h3, rfl⟩⟩
      · exact ⟨_, k4.trans hu3, ⟨_, rfl⟩, fun _ _ _ => ⟨db, h4, rfl⟩⟩
      · refine ⟨_, k5, ?_⟩
        simp only [RepT, RepT0, RepV]
        refine ⟨b5, 0, rfl, ((hcs x).2.1.mono (h1.trans hle)).toC fun j u hj => ?_⟩
        have hlt := (List.getElem?_eq_some_iff.1 hj).1
        simp only [hm1', Nat.zero_add]
        rw [if_pos ⟨trivial, by omega⟩]
        exact hj
    have hfx : fine (l.getD x nilD) := by
      by_cases hx : x < l.length
      · rw [List.getD_eq_getElem?_getD, List.getElem?_eq_getElem hx]
        exact hfl _ (List.getElem_mem hx)
      · rw [List.getD_eq_getElem?_getD, List.getElem?_eq_none (by omega)]
        exact fine_nil
    refine wpIn_block ?_
    refine region_in (s' := ⟨[(2, .box 16 0), (3, .box 24 0)], [(16, zeroB), (24, boxD (consD (l.getD x nilD) (curD l pre)))]⟩) (wide_round lr) (hX.here h2') D_mix (rv := #[]) (N := 17) (by kernel_rfl) (by kernel_rfl) (GC.go (k := [_, _]) ?g4) RB (fun ⟨_, _, h⟩ => h) fun a'' W' RB' hS => ?_
    case g4 =>
      generalize curD l pre = d
      generalize l.getD x nilD = xd at hfx
      have hcp := D_copied' (W0 := W0) (κ := κ) (GG := GG) xd hfx
      obtain ⟨xk, xc, xneg, xmag, xt, xl⟩ := xd
      obtain ⟨yk, yc, yneg, ymag, yt, yl⟩ := d
      simp only [encD] at hcp
      simp only [cellsD, boxD, consD, Dat.kind, Dat.c, Dat.neg, Dat.mag, Dat.t, Dat.l]
      refine GC_run2 4000 ?_
      dsimp only [CD, go_sem, zeroB]
      (refine GC.call (by first | rfl | (simp; done) | (simp [hdOK_encU, hdOK_encL, allSz_encU, allSz_encL, encU_length, encL_length, encD_one, encD_cells, AVone_v, AVone_sl, AVone_agg, AVone_ref, AVone_fn, AVone_ifc, AVcells_v, AVcells_sl, AVcells_agg, AVcells_ref, AVcells_fn, AVcells_ifc, Value.oneCell', allSz]; done) | (simp [hdOK_encU, hdOK_encL, allSz_encU, allSz_encL, encU_length, encL_length, encD_one, encD_cells, AVone_v, AVone_sl, AVone_agg, AVone_ref, AVone_fn, AVone_ifc, AVcells_v, AVcells_sl, AVcells_agg, AVcells_ref, AVcells_fn, AVcells_ifc, Value.oneCell', allSz]; omega)) (hcp) ?_; refine GC_run2 4000 ?_; dsimp only [go_sem, Nat.reduceBEq, Nat.reduceAdd, Nat.reduceMul, Nat.reduceSub, Int.reduceBEq, Int.reduceBNe, Int.reduceAdd, Int.reduceSub, Int.reduceMul, Int.reduceToNat, Int.reduceNeg])
      (refine GC.ord (by first | rfl | (simp; done) | (simp [hdOK_encU, hdOK_encL, allSz_encU, allSz_encL, encU_length, encL_length, encD_one, encD_cells, AVone_v, AVone_sl, AVone_agg, AVone_ref, AVone_fn, AVone_ifc, AVcells_v, AVcells_sl, AVcells_agg, AVcells_ref, AVcells_fn, AVcells_ifc, Value.oneCell', allSz]; done) | (simp [hdOK_encU, hdOK_encL, allSz_encU, allSz_encL, encU_length, encL_length, encD_one, encD_cells, AVone_v, AVone_sl, AVone_agg, AVone_ref, AVone_fn, AVone_ifc, AVcells_v, AVcells_sl, AVcells_agg, AVcells_ref, AVcells_fn, AVcells_ifc, Value.oneCell', allSz]; omega)) (by kernel_rfl) (by kernel_rfl) ?_; refine GC_run2 4000 ?_; dsimp only [go_sem, Nat.reduceBEq, Nat.reduceAdd, Nat.reduceMul, Nat.reduceSub, Int.reduceBEq, Int.reduceBNe, Int.reduceAdd, Int.reduceSub, Int.reduceMul, Int.reduceToNat, Int.reduceNeg])
      refine GC.backR (by first | rfl | (simp; done) | (simp [hdOK_encU, hdOK_encL, allSz_encU, allSz_encL, encU_length, encL_length, encD_one, encD_cells, AVone_v, AVone_sl, AVone_agg, AVone_ref, AVone_fn, AVone_ifc, AVcells_v, AVcells_sl, AVcells_agg, AVcells_ref, AVcells_fn, AVcells_ifc, Value.oneCell', allSz]; done) | (simp [hdOK_encU, hdOK_encL, allSz_encU, allSz_encL, encU_length, encL_length, encD_one, encD_cells, AVone_v, AVone_sl, AVone_agg, AVone_ref, AVone_fn, AVone_ifc, AVcells_v, AVcells_sl, AVcells_agg, AVcells_ref, AVcells_fn, AVcells_ifc, Value.oneCell', allSz]; omega)) (by omega) trivial ?_ ?_ <;> (repeat' (first | exact trivial | refine And.intro ?_ ?_)) <;> (try (dsimp only [go_sem, Nat.reduceBEq, Nat.reduceAdd, Nat.reduceMul, Nat.reduceSub, Int.reduceBEq, Int.reduceBNe, Int.reduceAdd, Int.reduceSub, Int.reduceMul, Int.reduceToNat, Int.reduceNeg]))
      all_goals rfl
    obtain ⟨m', γ', hp', ht'⟩ := RB'.mem
    have hpB := h2'.back hp'
    have hk2 : a''.tmps[2]? = a3.tmps[2]? := (hS.2 2 (by intro i o h; rcases i with _ | _ | _ | _ | _ | _ | i <;> simp at h <;> subst h <;> simp)).trans k3
    have hk3 : a''.tmps[3]? = a3.tmps[3]? := (hS.2 3 (by intro i o h; rcases i with _ | _ | _ | _ | _ | _ | i <;> simp at h <;> subst h <;> simp)).trans k4
    obtain ⟨v2, hv2, hB2⟩ := ht' 2 (.box 16 0) rfl
    obtain ⟨v3, hv3, hB3⟩ := ht' 3 (.box 24 0) rfl
    obtain ⟨rb', q16, rfl⟩ := hB2.2 zeroB rfl rfl
    obtain ⟨db', q24, rfl⟩ := hB3.2 (boxD _) rfl rfl
    have e2 := hv2.symm.trans (hk2.trans hu2)
    have e3 := hv3.symm.trans (hk3.trans hu3)
    cases e2
    cases e3
    refine ⟨h2'.keeps hp'.fr _, fun _ b o u hu => hp'.cons _ _ _ (hp'.ext _ _ _ (hle _ _ _ (h1 _ _ _ hu))), m', γ', (h1.trans hle).trans hp'.ext, ?_, q16, q24⟩
    show Hp κ _ m w (gO (curD l (pre ++ [x]))) m' γ' W'
    rw [curD_snoc]
    exact hpB
  case done =>
    rintro D xs W hD rfl ⟨m1, γ1, h1, h2, h3, h4⟩ hDef
    have hcur : curD l (downTo l.length l.length) = listD l := by rw [curD_down l _ (Nat.le_refl _)]; simp [listD]
    rw [hcur] at h2
    have RD : Rel (CD W0 κ GG) (OwF (gO (listD l)) m1 γ1 W) m1 W 17 ⟨[(2, .box 16 0), (3, .box 24 0)], [(16, zeroB), (24, boxD (listD l))]⟩ { a3 with defers := [] } W := by
      refine ⟨hsz3, rfl, m1, γ1, h2.here, fun t y hy => ?_⟩
      have hm := look_mem hy
      simp only [List.mem_cons, Prod.mk.injEq, List.not_mem_nil, or_false] at hm
      rcases hm with ⟨rfl, rfl⟩ | ⟨rfl, rfl⟩
      · exact ⟨_, hu2, ⟨_, rfl⟩, fun _ _ _ => ⟨rb, h3, rfl⟩⟩
      · exact ⟨_, hu3, ⟨_, rfl⟩, fun _ _ _ => ⟨db, h4, rfl⟩⟩
    have hXD := hX.here h2
    have hd3 : a3.defers = [] := R3.defers
    simp only [Exit.inBlock, Exit.then]
    refine wpIn_seq (wpIn_region ?_)
    show wpOpsIn _ _ _ _ _ [0, 1] _ _
    generalize hb3 : ({ a3 with defers := { target := .collected D, args := #[] } :: a3.defers } : Act) = b3
    have hbd : b3.defers = [{ target := .collected D, args := #[] }] := by rw [← hb3, hd3]
    have hbt : ({ b3 with defers := [] } : Act) = { a3 with defers := [] } := by rw [← hb3]
    rw [← hbt] at RD
    generalize listD l = d at RD hR h2 hXD
    refine wpOpsIn_plain rfl rfl (wide_wide.oper (fun c h => by cases h) (RD.opK (Q := _) hXD (e := ⟨_, .av (.agg (cellsD d)), [], [24], []⟩) (by intro t ht; simp at ht; subst ht; decide) rfl rfl (by simp) fun v1 W1 R5 => ?_))
    refine wpOpsIn_plain rfl rfl (wide_wide.oper (fun c h => by cases h) (R5.opK (Q := _) hXD (e := ⟨_, .dead, [(16, boxD d)], [16], []⟩) (fun t ht => by cases ht) rfl rfl (by simp) fun v2 W2 R6 => ?_))
    show Code.wpIn _ _ _ _ _ _ _
    refine wpIn_ret ?_
    have R7 := R6.le (s' := ⟨[(2, .box 16 0)], [(16, boxD d)]⟩) ⟨fun t x hx => by
      have hm := look_mem hx
      simp only [List.mem_cons, Prod.mk.injEq, List.not_mem_nil, or_false] at hm
      obtain ⟨rfl, rfl⟩ := hm
      rfl, fun t x hx => by
      have hm := look_mem hx
      simp only [List.mem_cons, Prod.mk.injEq, List.not_mem_nil, or_false] at hm
      obtain ⟨rfl, rfl⟩ := hm
      rfl⟩
    clear R5 R6
    generalize hbF : Act.put _ _ v2 = bF at R7 ⊢
    have hbFd : bF.defers = [{ target := .collected D, args := #[] }] := by rw [← hbF, ← hbd]; rfl
    obtain ⟨m', γ', hp', ht'⟩ := R7.mem
    have hDef2 := (h2.keeps hp'.fr 0).same D _ (Nat.zero_le _) hDef rfl
    have hpB := (h2.back hp').grown (grownBy_putObj' W2 D (.deferred none)) (fun r e => by cases e; omega) (fun r e => by cases e; exact ⟨_, hDef2, rfl⟩)
    have R8 : Rel (CD W0 κ GG) (w.heap.size ≤ ·) m w 17 ⟨[(2, .box 16 0)], [(16, boxD d)]⟩ { bF with defers := [] } (W2.putObj D (.deferred none)) := ⟨R7.size, rfl, m', γ', hpB, ht'⟩
    obtain ⟨v, m9, q1, q2, q3, q4, q5, q6⟩ := retItems_ok hX (fn := Tryd.f26) (b := _) (res := [.av (.agg (cellsD d))]) rfl rfl R8
    show LeavesInM _ _ _ _ _ _ bF.defers _ _
    rw [hbFd]
    refine ⟨by simp, .inl ⟨D, _, rfl, run_takeDeferred hDef2, v, q1, ?_⟩⟩
    rw [← hR, encD_cellsD]
    exact ⟨⟨v, m9, rfl, q2, fun b hlt => q3 b (by omega), q4, ⟨q5.os, q5.tape, q5.output, q5.size, fun b hlt => q5.block b (by omega)⟩, q6⟩⟩
end
end Go.Sy

/- Contracts of the program's functions over abstract values. By gen.py. -/
set_option linter.unusedVariables false
set_option linter.unusedSimpArgs false
set_option maxRecDepth 100000
set_option maxHeartbeats 4000000
namespace Go.Sy
open Go.Proofs
attribute [local go_sem] runO_t runO_f band_t band_f bor_t bor_f bnot_t bnot_f gdK_tt gdK_ff gdK_tf gdK_ft brK_t brK_f runE_some runF_some runA_some runG_some runB_some runX_some runR_some run_nil run_skip run_seq run_region run_block run_blk run_exit run_cond run_ret run_loop run_lp run_opsNil run_opsOrd run_opsOp run_opsGuard run_cl run_gd run_br run_fin run_clx run_fst run_callf runY_t runY_f runS_some runV_t runV_f aBuildK_t aBuildK_f Mode.plain run_move run_nilCheck run_assign run_pick run_alloc run_box run_build run_buildSlice run_load run_store run_binOp run_unOp run_convert run_slice run_fieldAddr run_indexAddr run_index run_field run_extract run_makeInterface run_makeFunc run_len run_max run_min run_append St.ev St.evl St.evs St.evo capsOf callOf look drop put putAll toTV_nil toTV_int toTV_bool toTV_str toTV_ptr toTV_ifc toTV_fn toAV_nil toAV_int toAV_bool toAV_str toAV_ptr toAV_ifc toAV_fn aAssign_nil aAssign_tmp aAssign_int aAssign_bool aAssign_str aAssign_ptr aAssign_nilf aAssign_ifc aAssign_func aAssign_glob nilConst_slice nilConst_ptr nilConst_ifc nilConst_tmp plain Option.bind TV.cells TV.one AVone_v AVone_sl AVone_agg AVone_ref AVone_fn AVone_ifc AVone_sent Value.oneCell' oneVs avOf avsOf expo expos expoC exposC TV.isC allC fillsT aBuildT lendR ren renT0 renC renT renO renW xFoot xSt newIds retX retXs isT0 asList List.map St.app setD St.setT ownD trA effFoot callFoot callSt callReq St.fresh freshT freshO allFresh TV.ment TVs.ment SObj.ment fsts mentW noFoot List.contains List.elem aPick aAlloc aBox aBuild aBuildSlice nonNil allSz aUn aConv aField aIndex aByte aPart aExtract aIface aFunc aLen ty1 aMax aApp aAppend aCheck emptyL aSlice okHd hdOK_nil hdOK_cons aLoad aStore aBin aNil sBin sInt isSh sameSh nilness fills fillAt fillTV putCells intOf? mkInt AVcells_v AVcells_sl AVcells_agg AVcells_ref AVcells_fn AVcells_ifc AVcells_sent St.g0 St.g guardOf guardOff udf argsOf lends lendBox bindRes bindR bindRs flatR flatV boolOf retItems retItems0 retItem rowsOf disjB ownIds resIds nodupB St.init initT popTo cond_true cond_false Option.getD Option.map List.take List.drop List.length List.zip List.zipWith List.range List.range.loop List.append List.foldr List.nil_append List.cons_append List.append_nil List.getElem?_cons_zero List.getElem?_cons_succ GetElem?.getElem? List.get?Internal Int.toNat_natCast cst0 cst1 cst2 cst3 cst4 cst5 cst6 cst7 cst8 cst9 cst10 cst11 toNat0 toNat1 toNat2 toNat3 getD0 getD1 getD2 getD3 run_zero memN keepT dropO St.re leT leO D_q2  D_q3  D_q4  D_q5  D_q9  D_q12  D_q21  D_q22  D_q24  D_q25  D_q27  D_q28  D_q32  D_q46  D_q48  D_q50  D_q52  D_q53  D_q54  D_q56  D_q57  D_q61  D_q70  D_q72  D_q76  D_q77  D_q79  D_q80  D_q83  D_q85  D_q91  D_q93  D_q104  D_q108  D_q115  D_q118  D_q121  D_q134  D_q136  D_q137
section
variable {W0 : World} {κ : Nat → Addr} {GG : Nat → Option AV}

theorem L78_may : mayD (listD [intD 7, intD 8]) = true := by decide +kernel
theorem L78_depth : depthD (listD [intD 7, intD 8]) = 1 := by decide +kernel
theorem L78_cnt : cnt (listD [intD 7, intD 8]) = 5 := by decide +kernel
theorem L78_items : itemsD (listD [intD 7, intD 8]) = some [intD 7, intD 8] := by kernel_rfl
theorem L78_same : sameD (listD [intD 7, intD 8]) (consD (intD 7) (listD [intD 8])) = true := by decide +kernel
theorem L78_sym : mayD (symD ⟨#[]⟩) = false := by decide +kernel
theorem ofN_small (n : Int) : (ofN n).2.length < 1099511627776 := by
  show (madeN _ _).2.1.length < _
  have h := trimL_le [IntKind.u32.wrap (abs64 n), IntKind.u32.wrap ((abs64 n).fdiv (2 ^ min 32 64))]
  have h2 : ∀ (b : Bool) (m : List Int), (madeN b m).2.1.length ≤ m.length := fun b m => by
    unfold madeN
    split
    · simp
    · exact trimL_le m
  exact Nat.lt_of_le_of_lt (h2 _ _) (by simp)
theorem intD_fine (n : Int) : fine (intD n) := by
  refine ⟨by simp [intD, cnt, cntL], ?_, by decide, trivial⟩
  exact ofN_small n
theorem nilD_fine : fine nilD := fine_nil
theorem consD_fine {a d : Dat} (ha : fine a) (hd : fine d) (h : cnt a + cnt d + 1 < 1099511627776) : fine (consD a d) := by
  refine ⟨by simp [consD, cnt, cntL]; omega, by decide, by decide, ha.2, hd.2, trivial⟩
theorem L78_fine : fine (listD [intD 7, intD 8]) := consD_fine (intD_fine 7) (consD_fine (intD_fine 8) fine_nil (by decide +kernel)) (by decide +kernel)
theorem L8_fine : fine (listD [intD 8]) := consD_fine (intD_fine 8) fine_nil (by decide +kernel)
theorem L78b_fine : fine (consD (intD 7) (listD [intD 8])) := consD_fine (intD_fine 7) L8_fine (by decide +kernel)

/-- The kit's own check of itself: it holds. -/
theorem D_awake (hU : D_Tabs W0) : Sound (CD W0 κ GG) 16 [] [.av (.v (.bool true))] := by
  have c7 := D_int (W0 := W0) (κ := κ) (GG := GG) 7
  have c8 := D_int (W0 := W0) (κ := κ) (GG := GG) 8
  have cL := D_list (W0 := W0) (κ := κ) (GG := GG) [intD 7, intD 8] (by simp) (fun x hx => by simp at hx; rcases hx with rfl | rfl <;> exact intD_fine _)
  have c8L := D_list (W0 := W0) (κ := κ) (GG := GG) [intD 8] (by simp) (fun x hx => by simp at hx; subst hx; exact intD_fine _)
  have cI := D_items (W0 := W0) (κ := κ) (GG := GG) _ L78_fine
  have cM := D_may (W0 := W0) (κ := κ) (GG := GG) hU _ L78_fine
  have cD := D_depth (W0 := W0) (κ := κ) (GG := GG) _ _ (Nat.le_refl _) L78_fine
  have cC := D_count (W0 := W0) (κ := κ) (GG := GG) _ _ (Nat.le_refl _) L78_fine
  have cK := D_cons (W0 := W0) (κ := κ) (GG := GG) _ _ (intD_fine 7) L8_fine
  have cS := D_same (W0 := W0) (κ := κ) (GG := GG) _ _ _ (Nat.le_refl _) L78_fine L78b_fine
  have cY := D_sym (W0 := W0) (κ := κ) (GG := GG) ⟨#[]⟩
  have cMY := D_may (W0 := W0) (κ := κ) (GG := GG) hU (symD ⟨#[]⟩) ⟨by simp [symD, cnt, cntL], by decide, by decide, trivial⟩
  rw [L78_items] at cI
  rw [L78_may] at cM
  rw [L78_depth] at cD
  rw [L78_cnt] at cC
  rw [L78_same] at cS
  rw [L78_sym] at cMY
  generalize consD (intD 7) (listD [intD 8]) = d8 at *
  generalize listD [intD 7, intD 8] = L at *
  generalize listD [intD 8] = L8 at *
  generalize symD ⟨#[]⟩ = sy at *
  generalize intD 7 = i7 at *
  generalize intD 8 = i8 at *
  obtain ⟨k, c, neg, mag, t, l⟩ := L
  simp only [encD, encL] at cI cM cD cC cS cL c8L
  (refine Sound.of_go D_ok D_mix Tryd.func16 rfl (by decide) (by kernel_rfl) (GC.go ?_); refine GC_run2 4000 ?_; dsimp only [Tryd.f16, CD, go_sem, Nat.reduceBEq, Nat.reduceAdd, Nat.reduceMul, Nat.reduceSub, Int.reduceBEq, Int.reduceBNe, Int.reduceAdd, Int.reduceSub, Int.reduceMul, Int.reduceToNat, Int.reduceNeg, encD])
  (refine GC.call (by first | rfl | (simp; done) | (simp [hdOK_encU, hdOK_encL, allSz_encU, allSz_encL, encU_length, encL_length, encD_one, encD_cells, AVone_v, AVone_sl, AVone_agg, AVone_ref, AVone_fn, AVone_ifc, AVcells_v, AVcells_sl, AVcells_agg, AVcells_ref, AVcells_fn, AVcells_ifc, Value.oneCell', allSz]; done) | (simp [hdOK_encU, hdOK_encL, allSz_encU, allSz_encL, encU_length, encL_length, encD_one, encD_cells, AVone_v, AVone_sl, AVone_agg, AVone_ref, AVone_fn, AVone_ifc, AVcells_v, AVcells_sl, AVcells_agg, AVcells_ref, AVcells_fn, AVcells_ifc, Value.oneCell', allSz]; omega)) (c7) ?_; refine GC_run2 4000 ?_; dsimp only [go_sem, Nat.reduceBEq, Nat.reduceAdd, Nat.reduceMul, Nat.reduceSub, Int.reduceBEq, Int.reduceBNe, Int.reduceAdd, Int.reduceSub, Int.reduceMul, Int.reduceToNat, Int.reduceNeg])
  (refine GC.call (by first | rfl | (simp; done) | (simp [hdOK_encU, hdOK_encL, allSz_encU, allSz_encL, encU_length, encL_length, encD_one, encD_cells, AVone_v, AVone_sl, AVone_agg, AVone_ref, AVone_fn, AVone_ifc, AVcells_v, AVcells_sl, AVcells_agg, AVcells_ref, AVcells_fn, AVcells_ifc, Value.oneCell', allSz]; done) | (simp [hdOK_encU, hdOK_encL, allSz_encU, allSz_encL, encU_length, encL_length, encD_one, encD_cells, AVone_v, AVone_sl, AVone_agg, AVone_ref, AVone_fn, AVone_ifc, AVcells_v, AVcells_sl, AVcells_agg, AVcells_ref, AVcells_fn, AVcells_ifc, Value.oneCell', allSz]; omega)) (c8) ?_; refine GC_run2 4000 ?_; dsimp only [go_sem, Nat.reduceBEq, Nat.reduceAdd, Nat.reduceMul, Nat.reduceSub, Int.reduceBEq, Int.reduceBNe, Int.reduceAdd, Int.reduceSub, Int.reduceMul, Int.reduceToNat, Int.reduceNeg])
  (refine GC.call (by first | rfl | (simp; done) | (simp [hdOK_encU, hdOK_encL, allSz_encU, allSz_encL, encU_length, encL_length, encD_one, encD_cells, AVone_v, AVone_sl, AVone_agg, AVone_ref, AVone_fn, AVone_ifc, AVcells_v, AVcells_sl, AVcells_agg, AVcells_ref, AVcells_fn, AVcells_ifc, Value.oneCell', allSz]; done) | (simp [hdOK_encU, hdOK_encL, allSz_encU, allSz_encL, encU_length, encL_length, encD_one, encD_cells, AVone_v, AVone_sl, AVone_agg, AVone_ref, AVone_fn, AVone_ifc, AVcells_v, AVcells_sl, AVcells_agg, AVcells_ref, AVcells_fn, AVcells_ifc, Value.oneCell', allSz]; omega)) (cL) ?_; refine GC_run2 4000 ?_; dsimp only [go_sem, Nat.reduceBEq, Nat.reduceAdd, Nat.reduceMul, Nat.reduceSub, Int.reduceBEq, Int.reduceBNe, Int.reduceAdd, Int.reduceSub, Int.reduceMul, Int.reduceToNat, Int.reduceNeg])
  (refine GC.call (by first | rfl | (simp; done) | (simp [hdOK_encU, hdOK_encL, allSz_encU, allSz_encL, encU_length, encL_length, encD_one, encD_cells, AVone_v, AVone_sl, AVone_agg, AVone_ref, AVone_fn, AVone_ifc, AVcells_v, AVcells_sl, AVcells_agg, AVcells_ref, AVcells_fn, AVcells_ifc, Value.oneCell', allSz]; done) | (simp [hdOK_encU, hdOK_encL, allSz_encU, allSz_encL, encU_length, encL_length, encD_one, encD_cells, AVone_v, AVone_sl, AVone_agg, AVone_ref, AVone_fn, AVone_ifc, AVcells_v, AVcells_sl, AVcells_agg, AVcells_ref, AVcells_fn, AVcells_ifc, Value.oneCell', allSz]; omega)) (cI) ?_; refine GC_run2 4000 ?_; dsimp only [go_sem, Nat.reduceBEq, Nat.reduceAdd, Nat.reduceMul, Nat.reduceSub, Int.reduceBEq, Int.reduceBNe, Int.reduceAdd, Int.reduceSub, Int.reduceMul, Int.reduceToNat, Int.reduceNeg])
  (refine GC.call (by first | rfl | (simp; done) | (simp [hdOK_encU, hdOK_encL, allSz_encU, allSz_encL, encU_length, encL_length, encD_one, encD_cells, AVone_v, AVone_sl, AVone_agg, AVone_ref, AVone_fn, AVone_ifc, AVcells_v, AVcells_sl, AVcells_agg, AVcells_ref, AVcells_fn, AVcells_ifc, Value.oneCell', allSz]; done) | (simp [hdOK_encU, hdOK_encL, allSz_encU, allSz_encL, encU_length, encL_length, encD_one, encD_cells, AVone_v, AVone_sl, AVone_agg, AVone_ref, AVone_fn, AVone_ifc, AVcells_v, AVcells_sl, AVcells_agg, AVcells_ref, AVcells_fn, AVcells_ifc, Value.oneCell', allSz]; omega)) (cM) ?_; refine GC_run2 4000 ?_; dsimp only [go_sem, Nat.reduceBEq, Nat.reduceAdd, Nat.reduceMul, Nat.reduceSub, Int.reduceBEq, Int.reduceBNe, Int.reduceAdd, Int.reduceSub, Int.reduceMul, Int.reduceToNat, Int.reduceNeg])
  (refine GC.call (by first | rfl | (simp; done) | (simp [hdOK_encU, hdOK_encL, allSz_encU, allSz_encL, encU_length, encL_length, encD_one, encD_cells, AVone_v, AVone_sl, AVone_agg, AVone_ref, AVone_fn, AVone_ifc, AVcells_v, AVcells_sl, AVcells_agg, AVcells_ref, AVcells_fn, AVcells_ifc, Value.oneCell', allSz]; done) | (simp [hdOK_encU, hdOK_encL, allSz_encU, allSz_encL, encU_length, encL_length, encD_one, encD_cells, AVone_v, AVone_sl, AVone_agg, AVone_ref, AVone_fn, AVone_ifc, AVcells_v, AVcells_sl, AVcells_agg, AVcells_ref, AVcells_fn, AVcells_ifc, Value.oneCell', allSz]; omega)) (cD) ?_; refine GC_run2 4000 ?_; dsimp only [go_sem, Nat.reduceBEq, Nat.reduceAdd, Nat.reduceMul, Nat.reduceSub, Int.reduceBEq, Int.reduceBNe, Int.reduceAdd, Int.reduceSub, Int.reduceMul, Int.reduceToNat, Int.reduceNeg])
  (refine GC.call (by first | rfl | (simp; done) | (simp [hdOK_encU, hdOK_encL, allSz_encU, allSz_encL, encU_length, encL_length, encD_one, encD_cells, AVone_v, AVone_sl, AVone_agg, AVone_ref, AVone_fn, AVone_ifc, AVcells_v, AVcells_sl, AVcells_agg, AVcells_ref, AVcells_fn, AVcells_ifc, Value.oneCell', allSz]; done) | (simp [hdOK_encU, hdOK_encL, allSz_encU, allSz_encL, encU_length, encL_length, encD_one, encD_cells, AVone_v, AVone_sl, AVone_agg, AVone_ref, AVone_fn, AVone_ifc, AVcells_v, AVcells_sl, AVcells_agg, AVcells_ref, AVcells_fn, AVcells_ifc, Value.oneCell', allSz]; omega)) (cC) ?_; refine GC_run2 4000 ?_; dsimp only [go_sem, Nat.reduceBEq, Nat.reduceAdd, Nat.reduceMul, Nat.reduceSub, Int.reduceBEq, Int.reduceBNe, Int.reduceAdd, Int.reduceSub, Int.reduceMul, Int.reduceToNat, Int.reduceNeg])
  (refine GC.call (by first | rfl | (simp; done) | (simp [hdOK_encU, hdOK_encL, allSz_encU, allSz_encL, encU_length, encL_length, encD_one, encD_cells, AVone_v, AVone_sl, AVone_agg, AVone_ref, AVone_fn, AVone_ifc, AVcells_v, AVcells_sl, AVcells_agg, AVcells_ref, AVcells_fn, AVcells_ifc, Value.oneCell', allSz]; done) | (simp [hdOK_encU, hdOK_encL, allSz_encU, allSz_encL, encU_length, encL_length, encD_one, encD_cells, AVone_v, AVone_sl, AVone_agg, AVone_ref, AVone_fn, AVone_ifc, AVcells_v, AVcells_sl, AVcells_agg, AVcells_ref, AVcells_fn, AVcells_ifc, Value.oneCell', allSz]; omega)) (c7) ?_; refine GC_run2 4000 ?_; dsimp only [go_sem, Nat.reduceBEq, Nat.reduceAdd, Nat.reduceMul, Nat.reduceSub, Int.reduceBEq, Int.reduceBNe, Int.reduceAdd, Int.reduceSub, Int.reduceMul, Int.reduceToNat, Int.reduceNeg])
  (refine GC.call (by first | rfl | (simp; done) | (simp [hdOK_encU, hdOK_encL, allSz_encU, allSz_encL, encU_length, encL_length, encD_one, encD_cells, AVone_v, AVone_sl, AVone_agg, AVone_ref, AVone_fn, AVone_ifc, AVcells_v, AVcells_sl, AVcells_agg, AVcells_ref, AVcells_fn, AVcells_ifc, Value.oneCell', allSz]; done) | (simp [hdOK_encU, hdOK_encL, allSz_encU, allSz_encL, encU_length, encL_length, encD_one, encD_cells, AVone_v, AVone_sl, AVone_agg, AVone_ref, AVone_fn, AVone_ifc, AVcells_v, AVcells_sl, AVcells_agg, AVcells_ref, AVcells_fn, AVcells_ifc, Value.oneCell', allSz]; omega)) (c8) ?_; refine GC_run2 4000 ?_; dsimp only [go_sem, Nat.reduceBEq, Nat.reduceAdd, Nat.reduceMul, Nat.reduceSub, Int.reduceBEq, Int.reduceBNe, Int.reduceAdd, Int.reduceSub, Int.reduceMul, Int.reduceToNat, Int.reduceNeg])
  (refine GC.call (by first | rfl | (simp; done) | (simp [hdOK_encU, hdOK_encL, allSz_encU, allSz_encL, encU_length, encL_length, encD_one, encD_cells, AVone_v, AVone_sl, AVone_agg, AVone_ref, AVone_fn, AVone_ifc, AVcells_v, AVcells_sl, AVcells_agg, AVcells_ref, AVcells_fn, AVcells_ifc, Value.oneCell', allSz]; done) | (simp [hdOK_encU, hdOK_encL, allSz_encU, allSz_encL, encU_length, encL_length, encD_one, encD_cells, AVone_v, AVone_sl, AVone_agg, AVone_ref, AVone_fn, AVone_ifc, AVcells_v, AVcells_sl, AVcells_agg, AVcells_ref, AVcells_fn, AVcells_ifc, Value.oneCell', allSz]; omega)) (c8L) ?_; refine GC_run2 4000 ?_; dsimp only [go_sem, Nat.reduceBEq, Nat.reduceAdd, Nat.reduceMul, Nat.reduceSub, Int.reduceBEq, Int.reduceBNe, Int.reduceAdd, Int.reduceSub, Int.reduceMul, Int.reduceToNat, Int.reduceNeg])
  (refine GC.call (by first | rfl | (simp; done) | (simp [hdOK_encU, hdOK_encL, allSz_encU, allSz_encL, encU_length, encL_length, encD_one, encD_cells, AVone_v, AVone_sl, AVone_agg, AVone_ref, AVone_fn, AVone_ifc, AVcells_v, AVcells_sl, AVcells_agg, AVcells_ref, AVcells_fn, AVcells_ifc, Value.oneCell', allSz]; done) | (simp [hdOK_encU, hdOK_encL, allSz_encU, allSz_encL, encU_length, encL_length, encD_one, encD_cells, AVone_v, AVone_sl, AVone_agg, AVone_ref, AVone_fn, AVone_ifc, AVcells_v, AVcells_sl, AVcells_agg, AVcells_ref, AVcells_fn, AVcells_ifc, Value.oneCell', allSz]; omega)) (cK) ?_; refine GC_run2 4000 ?_; dsimp only [go_sem, Nat.reduceBEq, Nat.reduceAdd, Nat.reduceMul, Nat.reduceSub, Int.reduceBEq, Int.reduceBNe, Int.reduceAdd, Int.reduceSub, Int.reduceMul, Int.reduceToNat, Int.reduceNeg])
  (refine GC.call (by first | rfl | (simp; done) | (simp [hdOK_encU, hdOK_encL, allSz_encU, allSz_encL, encU_length, encL_length, encD_one, encD_cells, AVone_v, AVone_sl, AVone_agg, AVone_ref, AVone_fn, AVone_ifc, AVcells_v, AVcells_sl, AVcells_agg, AVcells_ref, AVcells_fn, AVcells_ifc, Value.oneCell', allSz]; done) | (simp [hdOK_encU, hdOK_encL, allSz_encU, allSz_encL, encU_length, encL_length, encD_one, encD_cells, AVone_v, AVone_sl, AVone_agg, AVone_ref, AVone_fn, AVone_ifc, AVcells_v, AVcells_sl, AVcells_agg, AVcells_ref, AVcells_fn, AVcells_ifc, Value.oneCell', allSz]; omega)) (cS) ?_; refine GC_run2 4000 ?_; dsimp only [go_sem, Nat.reduceBEq, Nat.reduceAdd, Nat.reduceMul, Nat.reduceSub, Int.reduceBEq, Int.reduceBNe, Int.reduceAdd, Int.reduceSub, Int.reduceMul, Int.reduceToNat, Int.reduceNeg])
  (refine GC.call (by first | rfl | (simp; done) | (simp [hdOK_encU, hdOK_encL, allSz_encU, allSz_encL, encU_length, encL_length, encD_one, encD_cells, AVone_v, AVone_sl, AVone_agg, AVone_ref, AVone_fn, AVone_ifc, AVcells_v, AVcells_sl, AVcells_agg, AVcells_ref, AVcells_fn, AVcells_ifc, Value.oneCell', allSz]; done) | (simp [hdOK_encU, hdOK_encL, allSz_encU, allSz_encL, encU_length, encL_length, encD_one, encD_cells, AVone_v, AVone_sl, AVone_agg, AVone_ref, AVone_fn, AVone_ifc, AVcells_v, AVcells_sl, AVcells_agg, AVcells_ref, AVcells_fn, AVcells_ifc, Value.oneCell', allSz]; omega)) (cY) ?_; refine GC_run2 4000 ?_; dsimp only [go_sem, Nat.reduceBEq, Nat.reduceAdd, Nat.reduceMul, Nat.reduceSub, Int.reduceBEq, Int.reduceBNe, Int.reduceAdd, Int.reduceSub, Int.reduceMul, Int.reduceToNat, Int.reduceNeg])
  (refine GC.call (by first | rfl | (simp; done) | (simp [hdOK_encU, hdOK_encL, allSz_encU, allSz_encL, encU_length, encL_length, encD_one, encD_cells, AVone_v, AVone_sl, AVone_agg, AVone_ref, AVone_fn, AVone_ifc, AVcells_v, AVcells_sl, AVcells_agg, AVcells_ref, AVcells_fn, AVcells_ifc, Value.oneCell', allSz]; done) | (simp [hdOK_encU, hdOK_encL, allSz_encU, allSz_encL, encU_length, encL_length, encD_one, encD_cells, AVone_v, AVone_sl, AVone_agg, AVone_ref, AVone_fn, AVone_ifc, AVcells_v, AVcells_sl, AVcells_agg, AVcells_ref, AVcells_fn, AVcells_ifc, Value.oneCell', allSz]; omega)) (cMY) ?_; refine GC_run2 4000 ?_; dsimp only [go_sem, Nat.reduceBEq, Nat.reduceAdd, Nat.reduceMul, Nat.reduceSub, Int.reduceBEq, Int.reduceBNe, Int.reduceAdd, Int.reduceSub, Int.reduceMul, Int.reduceToNat, Int.reduceNeg])
  (refine GC.ord (by first | rfl | (simp; done) | (simp [hdOK_encU, hdOK_encL, allSz_encU, allSz_encL, encU_length, encL_length, encD_one, encD_cells, AVone_v, AVone_sl, AVone_agg, AVone_ref, AVone_fn, AVone_ifc, AVcells_v, AVcells_sl, AVcells_agg, AVcells_ref, AVcells_fn, AVcells_ifc, Value.oneCell', allSz]; done) | (simp [hdOK_encU, hdOK_encL, allSz_encU, allSz_encL, encU_length, encL_length, encD_one, encD_cells, AVone_v, AVone_sl, AVone_agg, AVone_ref, AVone_fn, AVone_ifc, AVcells_v, AVcells_sl, AVcells_agg, AVcells_ref, AVcells_fn, AVcells_ifc, Value.oneCell', allSz]; omega)) (by kernel_rfl) (by kernel_rfl) ?_; refine GC_run2 4000 ?_; dsimp only [go_sem, Nat.reduceBEq, Nat.reduceAdd, Nat.reduceMul, Nat.reduceSub, Int.reduceBEq, Int.reduceBNe, Int.reduceAdd, Int.reduceSub, Int.reduceMul, Int.reduceToNat, Int.reduceNeg])
  refine GC.finE (by first | rfl | (simp; done) | (simp [hdOK_encU, hdOK_encL, allSz_encU, allSz_encL, encU_length, encL_length, encD_one, encD_cells, AVone_v, AVone_sl, AVone_agg, AVone_ref, AVone_fn, AVone_ifc, AVcells_v, AVcells_sl, AVcells_agg, AVcells_ref, AVcells_fn, AVcells_ifc, Value.oneCell', allSz]; done) | (simp [hdOK_encU, hdOK_encL, allSz_encU, allSz_encL, encU_length, encL_length, encD_one, encD_cells, AVone_v, AVone_sl, AVone_agg, AVone_ref, AVone_fn, AVone_ifc, AVcells_v, AVcells_sl, AVcells_agg, AVcells_ref, AVcells_fn, AVcells_ifc, Value.oneCell', allSz]; omega)) ?_
  rfl
end
end Go.Sy

/- Data cc they are read. -/
set_option linter.unusedVariables false
namespace Go.Sy
open Go.RowKit

mutual
/-- Every number of it is of its kind. -/
def wfD : Dat → Prop
  | .mk k c _ mag t l => (Lit.int .i64 k).wf = true ∧ (Lit.int .i32 c).wf = true ∧ (∀ z ∈ mag, (Lit.int .u32 z).wf = true) ∧ mag.length ≤ maxLen ∧ t.size ≤ maxLen ∧ l.length ≤ maxLen ∧ wfL l
def wfL : List Dat → Prop
  | [] => True
  | d :: r => wfD d ∧ wfL r
end
theorem encU_map (l : List Int) : encU l = l.map fun z => .v (.int .u32 z) := by
  induction l with
  | nil => rfl
  | cons x l ih => rw [List.map_cons, ← ih]; rfl
theorem dats_of {Q : List AV → Prop} : ∀ {xs : List (List AV)}, (∀ x ∈ xs, ∃ d, x = cellsD d ∧ wfD d) → ∃ ds, xs.map (packV true) = encL ds ∧ ds.length = xs.length ∧ wfL ds
  | [], _ => ⟨[], rfl, rfl, trivial⟩
  | x :: xs, h => by
    obtain ⟨d, rfl, h1⟩ := h x (by simp)
    obtain ⟨ds, h2, h3, h4⟩ := dats_of (Q := Q) (xs := xs) fun y hy => h y (List.mem_cons_of_mem _ hy)
    refine ⟨d :: ds, ?_, by simp [h3], h1, h4⟩
    rw [List.map_cons, h2]
    simp only [packV, cond_true, encL, encD_cellsD]
end Go.Sy

/- Data cc they are read. By gen.py. -/
set_option linter.unusedVariables false
set_option maxRecDepth 100000
namespace Go.Sy
open Go.RowKit Go.Proofs

def D_tys : List TypeId := [27, 25, 24, 22, 79, 3, 21, 9, 4]
theorem D_tys_ok : okTys Tryd.prog D_tys = true := by kernel_rfl
theorem D_dat_of : ∀ (n : Nat) (cc : List AV), HasV Tryd.prog n 27 cc → ∃ d, cc = cellsD d ∧ wfD d := by
  intro n
  induction n using Nat.strongRecOn with
  | _ n ih =>
    intro cc h
    obtain ⟨n1, rfl, hlen, hf⟩ := h.struct Tryd.underlying27
    have c27 : Tryd.prog.cellsOf 27 = 6 := by kernel_rfl
    have c3 : Tryd.prog.cellsOf 3 = 1 := by kernel_rfl
    have c21 : Tryd.prog.cellsOf 21 = 1 := by kernel_rfl
    have c24 : Tryd.prog.cellsOf 24 = 2 := by kernel_rfl
    have c9 : Tryd.prog.cellsOf 9 = 1 := by kernel_rfl
    have c25 : Tryd.prog.cellsOf 25 = 1 := by kernel_rfl
    have c4 : Tryd.prog.cellsOf 4 = 1 := by kernel_rfl
    have c22 : Tryd.prog.cellsOf 22 = 1 := by kernel_rfl
    rw [c27] at hlen
    match cc, hlen, hf with
    | [a0, a1, a2, a3, a4, a5], _, hf =>
      simp only [List.mem_cons, List.not_mem_nil, or_false, forall_eq_or_imp, forall_eq, c3, c21, c24, c9, c25, List.drop_zero, List.drop_succ_cons, List.take_succ_cons, List.take_zero] at hf
      obtain ⟨h0, h1, h2, h4, h5⟩ := hf
      obtain ⟨k, e0, w0⟩ := h0.int Tryd.underlying3
      obtain ⟨c, e1, w1⟩ := h1.int Tryd.underlying21
      obtain ⟨t, e4, w4⟩ := h4.string Tryd.underlying9
      obtain ⟨n2, rfl, _, hf2⟩ := h2.struct Tryd.underlying24
      simp only [List.mem_cons, List.not_mem_nil, or_false, forall_eq_or_imp, forall_eq, c4, c22, List.drop_zero, List.drop_succ_cons, List.take_succ_cons, List.take_zero] at hf2
      obtain ⟨h2, h3⟩ := hf2
      obtain ⟨neg, e2⟩ := h2.bool Tryd.underlying4
      obtain ⟨mag, e3, w3, w3'⟩ := h3.ints Tryd.underlying22 Tryd.underlying79
      obtain ⟨n3, e6, xs, e5, w5, hx⟩ := h5.slice Tryd.underlying25
      have hagg : aggB Tryd.prog 27 = true := by kernel_rfl
      rw [hagg] at e5
      obtain ⟨ds, e7, e8, w6⟩ := dats_of (Q := fun _ => True) fun x hx' => ih n3 (by omega) x (hx x hx')
      rw [e7] at e5
      rw [← encU_map] at e3
      cases e0; cases e1; cases e2; cases e3; cases e4; cases e5
      exact ⟨.mk k c neg mag t ds, rfl, w0, w1, w3', w3, w4, by omega, w6⟩
theorem D_arg_dat {H : Type} {enc : TypeId × Value → H} {w : World} {spare : Nat → Bool} {held : Bool} {κ : Nat → Addr} {base : Nat} {r : Reach} {v : Value} {d : DataW H} {ps : List MemPlace}
    (hv : Value.okWide Tryd.prog w r base 27 v) (h : DataW.Trod enc Tryd.prog w 0 spare held 27 v d ps) : ∃ x : Dat, wfD x ∧ RepV κ (memOf w) (encD x) v := by
  obtain ⟨n, cc, h1, h2⟩ := arg_rep (κ := κ) D_tys_ok (by decide) hv h
  obtain ⟨x, rfl, hx⟩ := D_dat_of n cc h1
  have hagg : aggB Tryd.prog 27 = true := by kernel_rfl
  rw [hagg] at h2
  exact ⟨x, hx, by rw [encD_cellsD]; exact h2⟩
theorem D_arg_dats {H : Type} {enc : TypeId × Value → H} {w : World} {spare : Nat → Bool} {held : Bool} {κ : Nat → Addr} {base : Nat} {r : Reach} {v : Value} {d : DataW H} {ps : List MemPlace}
    (hv : Value.okWide Tryd.prog w r base 25 v) (h : DataW.Trod enc Tryd.prog w 0 spare held 25 v d ps) : ∃ x : List Dat, wfL x ∧ x.length ≤ maxLen ∧ RepV κ (memOf w) (.sl (encL x)) v := by
  obtain ⟨n, cc, h1, h2⟩ := arg_rep (κ := κ) D_tys_ok (by decide) hv h
  obtain ⟨n3, rfl, xs, rfl, w5, hx⟩ := h1.slice Tryd.underlying25
  have hagg : aggB Tryd.prog 27 = true := by kernel_rfl
  have hagg2 : aggB Tryd.prog 25 = false := by kernel_rfl
  rw [hagg2, hagg] at h2
  obtain ⟨ds, e7, e8, w6⟩ := dats_of (Q := fun _ => True) fun x hx' => D_dat_of n3 x (hx x hx')
  rw [e7] at h2
  exact ⟨ds, w6, by omega, h2⟩
end Go.Sy
