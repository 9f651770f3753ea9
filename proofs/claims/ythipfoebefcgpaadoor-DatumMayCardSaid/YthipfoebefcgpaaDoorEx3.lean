/- Loops by rounds, plain words of data, ranges over functions, data as they are read. -/
import Derived.Test.YthipfoebefcgpaaDoorEx1
import Derived.Test.YthipfoebefcgpaaDoorEx2
import Derived.Laws.Strings
import Derived.Lib.ValidU
import Derived.Lib.RuneCount
import Derived.ChangeArms
import Derived.RangeFuncNested
import Derived.RangeFuncLeaves
import Derived.OwnWalkIn
import Derived.OrdersIn
set_option linter.unusedVariables false
set_option linter.unusedSimpArgs false
/- The executor as the walk rewrites it: each equation by rfl. By runlem.py. -/
namespace Go.Sy
def aBuildK (b : Bool) (T : TypeId → Option TyI) (g : Nat → Option SObj) (t : TypeId) (idx : List Nat) (xs : Option (List TV)) : Option Eff := match b with
  | true => aBuildT T t idx xs
  | false => aBuild T g t idx xs
theorem aBuildK_t (T : TypeId → Option TyI) (g : Nat → Option SObj) (t : TypeId) (idx : List Nat) (xs : Option (List TV)) : aBuildK true T g t idx xs = aBuildT T t idx xs := rfl
theorem aBuildK_f (T : TypeId → Option TyI) (g : Nat → Option SObj) (t : TypeId) (idx : List Nat) (xs : Option (List TV)) : aBuildK false T g t idx xs = aBuild T g t idx xs := rfl
def ownD (d : Option Tmp) : Nat := match d with | some d => 8 * d | none => 7
section
variable (K : Cfg → Cfg) (rq : Bool) (d : Bool) (all os : List Oper) (s0 : St) (tr : List Foot) (k : List It) (s : St) (dst : Option Tmp)
/-- An operation's effect, applied. -/
def runE (x : Option Eff) (c : Cfg) : Cfg := match x with
  | some e => K ⟨rq && (e.req && allFresh s e.nw), .go, .ops d all os s0 (trA d tr (effFoot e)) :: k, s.app dst e⟩
  | none => c
def runA (f : FuncId) (id : Nat) (x : Option (List AV × List (Nat × SObj) × List Nat × Bool × Bool)) (c : Cfg) : Cfg := match x with
  | some (as, ws, is, lent, b) => K ⟨rq && b, .cl f as ws is lent dst id d all os s0 tr, k, s⟩
  | none => c
def runY (M : Mode) (f : FuncId) (xs : List TV) (id : Nat) (c : Cfg) (b : Bool) : Cfg := match b with
  | true => K ⟨rq, .clx f xs dst id d all os s0 tr, k, s⟩
  | false => runA K rq d all os s0 tr k s dst f id (argsOf (M.L f) s.g xs) c
theorem runY_t (M : Mode) (f : FuncId) (xs : List TV) (id : Nat) (c : Cfg) : runY K rq d all os s0 tr k s dst M f xs id c true = K ⟨rq, .clx f xs dst id d all os s0 tr, k, s⟩ := rfl
theorem runY_f (M : Mode) (f : FuncId) (xs : List TV) (id : Nat) (c : Cfg) : runY K rq d all os s0 tr k s dst M f xs id c false = runA K rq d all os s0 tr k s dst f id (argsOf (M.L f) s.g xs) c := rfl
def runF (M : Mode) (id : Nat) (x : Option (FuncId × List TV)) (c : Cfg) : Cfg := match x with
  | some (f, xs) => runY K rq d all os s0 tr k s dst M f xs id c (M.X f)
  | none => c
def runG (o : Oper) (x : Option (Option (Tmp × Bool × Bool))) (c : Cfg) : Cfg := match x with
  | some (some (t, b, w)) => K ⟨rq, .gd t b w o d all os s0 tr, k, s⟩
  | _ => c
def runO (o : Oper) (f : Bool) (x : Option (Option (Tmp × Bool × Bool))) (c : Cfg) : Cfg := match f with
  | true => K ⟨rq, .go, .ops d all os s0 (trA d tr noFoot) :: k, s.setT o.dst udf⟩
  | false => runG K rq d all os s0 tr k s o x c
theorem runO_t (o : Oper) (x : Option (Option (Tmp × Bool × Bool))) (c : Cfg) : runO K rq d all os s0 tr k s o true x c = K ⟨rq, .go, .ops d all os s0 (trA d tr noFoot) :: k, s.setT o.dst udf⟩ := rfl
theorem runO_f (o : Oper) (x : Option (Option (Tmp × Bool × Bool))) (c : Cfg) : runO K rq d all os s0 tr k s o false x c = runG K rq d all os s0 tr k s o x c := rfl
def runB (a b : Code) (x : Option Bool) (c : Cfg) : Cfg := match x with
  | some t => K ⟨rq, .br t a b, k, s⟩
  | none => c
def runX (x : Option (List It)) (c : Cfg) : Cfg := match x with
  | some k' => K ⟨rq, .go, k', s⟩
  | none => c
def runR (nd : Bool) (x : Option (Bool × List RItem)) (c : Cfg) : Cfg := match x with
  | some (b, res) => K ⟨rq && (b && nd), .fin res, [], s⟩
  | none => c
def runS (x : Option TV) (c : Cfg) : Cfg := match x with
  | some x => K ⟨rq, .fst x, [], s⟩
  | none => c
theorem runS_some (x : TV) (c : Cfg) : runS K rq s (some x) c = K ⟨rq, .fst x, [], s⟩ := rfl
def runV (C : Ctx) (rv : List ResultVar) (c : Cfg) (b : Bool) : Cfg := match b with
  | true => runS K rq s (retX s rv) c
  | false => runR K rq s (nodupB (rowsOf s rv)) (retItems C s rv) c
theorem runV_t (C : Ctx) (rv : List ResultVar) (c : Cfg) : runV K rq s C rv c true = runS K rq s (retX s rv) c := rfl
theorem runV_f (C : Ctx) (rv : List ResultVar) (c : Cfg) : runV K rq s C rv c false = runR K rq s (nodupB (rowsOf s rv)) (retItems C s rv) c := rfl
def gdK (b w : Bool) (y n : Cfg) : Cfg := match b, w with
  | true, true => K y
  | false, false => K y
  | true, false => K n
  | false, true => K n
def brK (t : Bool) (y n : Cfg) : Cfg := match t with
  | true => K y
  | false => K n
theorem band_t (b : Bool) : (true && b) = b := rfl
theorem band_f (b : Bool) : (false && b) = false := rfl
theorem bor_t (b : Bool) : (true || b) = true := rfl
theorem bor_f (b : Bool) : (false || b) = b := rfl
theorem bnot_t : (!true) = false := rfl
theorem bnot_f : (!false) = true := rfl
theorem gdK_tt (y n : Cfg) : gdK K true true y n = K y := rfl
theorem gdK_ff (y n : Cfg) : gdK K false false y n = K y := rfl
theorem gdK_tf (y n : Cfg) : gdK K true false y n = K n := rfl
theorem gdK_ft (y n : Cfg) : gdK K false true y n = K n := rfl
theorem brK_t (y n : Cfg) : brK K true y n = K y := rfl
theorem brK_f (y n : Cfg) : brK K false y n = K n := rfl
theorem runE_some (e : Eff) (c : Cfg) : runE K rq d all os s0 tr k s dst (some e) c = K ⟨rq && (e.req && allFresh s e.nw), .go, .ops d all os s0 (trA d tr (effFoot e)) :: k, s.app dst e⟩ := rfl
theorem runF_some (M : Mode) (f : FuncId) (xs : List TV) (id : Nat) (c : Cfg) : runF K rq d all os s0 tr k s dst M id (some (f, xs)) c = runY K rq d all os s0 tr k s dst M f xs id c (M.X f) := rfl
theorem runA_some (f : FuncId) (as : List AV) (ws : List (Nat × SObj)) (is : List Nat) (lent b : Bool) (id : Nat) (c : Cfg) : runA K rq d all os s0 tr k s dst f id (some (as, ws, is, lent, b)) c = K ⟨rq && b, .cl f as ws is lent dst id d all os s0 tr, k, s⟩ := rfl
theorem runG_some (t : Tmp) (b w : Bool) (o : Oper) (c : Cfg) : runG K rq d all os s0 tr k s o (some (some (t, b, w))) c = K ⟨rq, .gd t b w o d all os s0 tr, k, s⟩ := rfl
theorem runB_some (t : Bool) (a b : Code) (c : Cfg) : runB K rq k s a b (some t) c = K ⟨rq, .br t a b, k, s⟩ := rfl
theorem runX_some (k' : List It) (c : Cfg) : runX K rq s (some k') c = K ⟨rq, .go, k', s⟩ := rfl
theorem runR_some (b : Bool) (res : List RItem) (nd : Bool) (c : Cfg) : runR K rq s nd (some (b, res)) c = K ⟨rq && (b && nd), .fin res, [], s⟩ := rfl
end
/-- One step, and what comes of it. -/
def stepK (C : Ctx) (rv : Array ResultVar) (K : Cfg → Cfg) : Cfg → Cfg
  | ⟨rq, sp, k, s⟩ => match sp with
    | .go => match k with
      | [] => runV K rq s C rv.toList ⟨rq, .go, [], s⟩ C.M.XR
      | i :: k => match i with
        | .code c => match c with
          | .skip => K ⟨rq, .go, k, s⟩
          | .seq a b => K ⟨rq, .go, .code a :: .code b :: k, s⟩
          | .region _ ops d => K ⟨rq, .go, .ops d ops.toList ops.toList s [] :: k, s⟩
          | .block id c => K ⟨rq, .go, .code c :: .blk id :: k, s⟩
          | .exit id => runX K rq s (popTo id k) ⟨rq, .go, .code (.exit id) :: k, s⟩
          | .cond c a b => runB K rq k s a b (boolOf (s.ev C c)) ⟨rq, .go, .code (.cond c a b) :: k, s⟩
          | .ret => runV K rq s C rv.toList ⟨rq, .go, .code .ret :: k, s⟩ C.M.XR
          | c => ⟨rq, .go, .code c :: k, s⟩
        | .blk _ => K ⟨rq, .go, k, s⟩
        | .ops d all os s0 tr => match os with
          | [] => match d with
            | false => K ⟨rq, .go, k, s⟩
            | true => ⟨rq, .go, .ops true all [] s0 tr :: k, s⟩
          | o :: os => match o.guard with
            | none => K ⟨rq, .go, .one o :: .ops d all os s0 tr :: k, s⟩
            | some g => runO K rq d all os s0 tr k s o (guardOff all s (some g)) (guardOf all s (some g)) ⟨rq, .go, .ops d all (o :: os) s0 tr :: k, s⟩
        | .one o => match k with
          | .ops d all os s0 tr :: k => match isCall o.op with
            | none => runE K rq d all os s0 tr k s o.dst (aop C s (ownId o) o) ⟨rq, .go, .one o :: .ops d all os s0 tr :: k, s⟩
            | some fa => runF K rq d all os s0 tr k s o.dst C.M (ownId o) (callOf C s fa.1 fa.2) ⟨rq, .go, .one o :: .ops d all os s0 tr :: k, s⟩
          | k => ⟨rq, .go, .one o :: k, s⟩
        | i => ⟨rq, .go, i :: k, s⟩
    | .gd t b w o d all os s0 tr => gdK K b w ⟨rq, .go, .one o :: .ops d all os s0 tr :: k, s.setT (some t) (.av (.v (.bool w)))⟩ ⟨rq, .go, .ops d all os s0 (trA d tr noFoot) :: k, (s.setT (some t) (.av (.v (.bool (!w))))).setT o.dst udf⟩
    | .br t a b => brK K t ⟨rq, .go, .code a :: k, s⟩ ⟨rq, .go, .code b :: k, s⟩
    | sp => ⟨rq, sp, k, s⟩
def run2 (C : Ctx) (rv : Array ResultVar) : Nat → Cfg → Cfg
  | 0, c => c
  | n + 1, c => stepK C rv (run2 C rv n) c
def isGo : Sp → Bool
  | .gd _ _ _ _ _ _ _ _ _ => false
  | .br _ _ _ => false
  | _ => true
theorem stepK_eq (C : Ctx) (rv : Array ResultVar) (K : Cfg → Cfg) (c : Cfg) (hg : isGo c.sp = true) : stepK C rv K c = match step C rv c with | some c' => K c' | none => c := by
  obtain ⟨rq, sp, k, s⟩ := c
  cases sp with
  | go =>
    cases k with
    | nil => simp only [stepK, step, runV, runR, runS]; cases C.M.XR <;> cases retItems C s rv.toList <;> cases retX s rv.toList <;> rfl
    | cons i k =>
      cases i with
      | code c =>
        cases c with
        | exit id => simp only [stepK, step, runX]; cases popTo id k <;> rfl
        | cond c a b => simp only [stepK, step, runB]; cases boolOf (s.ev C c) <;> rfl
        | ret => simp only [stepK, step, runV, runR, runS]; cases C.M.XR <;> cases retItems C s rv.toList <;> cases retX s rv.toList <;> rfl
        | _ => rfl
      | blk id => rfl
      | lp n st I j => rfl
      | ops d all os s0 tr =>
        cases os with
        | nil => cases d <;> rfl
        | cons o os =>
          simp only [stepK, step]
          cases o.guard with
          | none => rfl
          | some g =>
            obtain ⟨j, w⟩ := g
            simp only [runO, runG]
            cases guardOff all s (some (j, w)) with
            | true => rfl
            | false =>
              cases guardOf all s (some (j, w)) with
              | none => rfl
              | some x => cases x <;> rfl
      | one o =>
        cases k with
        | nil => rfl
        | cons i k =>
          cases i <;> try rfl
          case ops d all os s0 tr =>
            simp only [stepK, step]
            cases isCall o.op with
            | none => simp only [runE]; cases aop C s (ownId o) o <;> rfl
            | some fa =>
              obtain ⟨fo, args⟩ := fa
              simp only [runF]
              cases callOf C s fo args with
              | none => rfl
              | some p =>
                obtain ⟨f, xs⟩ := p
                simp only [runY, runA]
                cases C.M.X f <;> cases argsOf (C.M.L f) s.g xs <;> rfl
  | gd => cases hg
  | br => cases hg
  | _ => rfl
theorem GC_run2 {C : Ctx} {rv : Array ResultVar} {R : RI → Prop} : ∀ (n : Nat) {c : Cfg}, GC C rv R (run2 C rv n c) → GC C rv R c
  | 0, c, h => h
  | n + 1, c, h => by
    cases hg : isGo c.sp with
    | true =>
      simp only [run2] at h
      rw [stepK_eq _ _ _ _ hg] at h
      split at h
      · rename_i c' hc; exact GC_step hc (GC_run2 n h)
      · exact h
    | false =>
      obtain ⟨rq, sp, k, s⟩ := c
      cases sp with
      | gd t b w o d all os s0 tr =>
        simp only [run2, stepK] at h
        cases b <;> cases w
        · exact GC.gdY rfl (GC_run2 n h)
        · exact GC.gdN rfl (GC_run2 n h)
        · exact GC.gdN rfl (GC_run2 n h)
        · exact GC.gdY rfl (GC_run2 n h)
      | br t a b =>
        simp only [run2, stepK] at h
        cases t
        · exact GC.brF (GC_run2 n h)
        · exact GC.brT (GC_run2 n h)
      | _ => cases hg
theorem GC_gdK {C : Ctx} {rv : Array ResultVar} {R : RI → Prop} {K : Cfg → Cfg} {b w : Bool} {y n : Cfg} (h1 : b = w → GC C rv R (K y)) (h2 : b = (!w) → GC C rv R (K n)) : GC C rv R (gdK K b w y n) := by
  cases b <;> cases w
  · exact h1 rfl
  · exact h2 rfl
  · exact h2 rfl
  · exact h1 rfl
theorem GC_brK {C : Ctx} {rv : Array ResultVar} {R : RI → Prop} {K : Cfg → Cfg} {t : Bool} {y n : Cfg} (h1 : t = true → GC C rv R (K y)) (h2 : t = false → GC C rv R (K n)) : GC C rv R (brK K t y n) := by
  cases t
  · exact h2 rfl
  · exact h1 rfl
section
variable (C : Ctx) (rv : Array ResultVar) (n : Nat) (rq : Bool) (d : Bool) (all os : List Oper) (s0 : St) (tr : List Foot) (k : List It) (s : St) (dst : Option Tmp) (ty : TypeId) (pos : String) (af : Array Edge) (gd : Option (Nat × Bool))
theorem run_zero (c : Cfg) : run2 C rv 0 c = c := rfl
theorem run_nil : run2 C rv (n + 1) ⟨rq, .go, [], s⟩ = runV (run2 C rv n) rq s C rv.toList ⟨rq, .go, [], s⟩ C.M.XR := rfl
theorem run_skip : run2 C rv (n + 1) ⟨rq, .go, .code .skip :: k, s⟩ = run2 C rv n ⟨rq, .go, k, s⟩ := rfl
theorem run_seq (a b : Code) : run2 C rv (n + 1) ⟨rq, .go, .code (.seq a b) :: k, s⟩ = run2 C rv n ⟨rq, .go, .code a :: .code b :: k, s⟩ := rfl
theorem run_region (i : Nat) (ops : Array Oper) : run2 C rv (n + 1) ⟨rq, .go, .code (.region i ops d) :: k, s⟩ = run2 C rv n ⟨rq, .go, .ops d ops.toList ops.toList s [] :: k, s⟩ := rfl
theorem run_block (id : Nat) (c : Code) : run2 C rv (n + 1) ⟨rq, .go, .code (.block id c) :: k, s⟩ = run2 C rv n ⟨rq, .go, .code c :: .blk id :: k, s⟩ := rfl
theorem run_blk (id : Nat) : run2 C rv (n + 1) ⟨rq, .go, .blk id :: k, s⟩ = run2 C rv n ⟨rq, .go, k, s⟩ := rfl
theorem run_exit (id : Nat) : run2 C rv (n + 1) ⟨rq, .go, .code (.exit id) :: k, s⟩ = runX (run2 C rv n) rq s (popTo id k) ⟨rq, .go, .code (.exit id) :: k, s⟩ := rfl
theorem run_cond (c : Operand) (a b : Code) : run2 C rv (n + 1) ⟨rq, .go, .code (.cond c a b) :: k, s⟩ = runB (run2 C rv n) rq k s a b (boolOf (s.ev C c)) ⟨rq, .go, .code (.cond c a b) :: k, s⟩ := rfl
theorem run_ret : run2 C rv (n + 1) ⟨rq, .go, .code .ret :: k, s⟩ = runV (run2 C rv n) rq s C rv.toList ⟨rq, .go, .code .ret :: k, s⟩ C.M.XR := rfl
theorem run_loop (c : Code) : run2 C rv (n + 1) ⟨rq, .go, .code (.loop c) :: k, s⟩ = ⟨rq, .go, .code (.loop c) :: k, s⟩ := rfl
theorem run_lp (m : Nat) (st : Nat → St) (I : Nat → Prop) (j : Nat) : run2 C rv (n + 1) ⟨rq, .go, .lp m st I j :: k, s⟩ = ⟨rq, .go, .lp m st I j :: k, s⟩ := rfl
theorem run_opsNil : run2 C rv (n + 1) ⟨rq, .go, .ops false all [] s0 tr :: k, s⟩ = run2 C rv n ⟨rq, .go, k, s⟩ := rfl
theorem run_opsOrd : run2 C rv (n + 1) ⟨rq, .go, .ops true all [] s0 tr :: k, s⟩ = ⟨rq, .go, .ops true all [] s0 tr :: k, s⟩ := rfl
theorem run_opsOp (op : Op) : run2 C rv (n + 1) ⟨rq, .go, .ops d all (⟨dst, op, ty, pos, af, none⟩ :: os) s0 tr :: k, s⟩ = run2 C rv n ⟨rq, .go, .one ⟨dst, op, ty, pos, af, none⟩ :: .ops d all os s0 tr :: k, s⟩ := rfl
theorem run_opsGuard (op : Op) (g : Nat × Bool) : run2 C rv (n + 1) ⟨rq, .go, .ops d all (⟨dst, op, ty, pos, af, some g⟩ :: os) s0 tr :: k, s⟩ =
    runO (run2 C rv n) rq d all os s0 tr k s ⟨dst, op, ty, pos, af, some g⟩ (guardOff all s (some g)) (guardOf all s (some g)) ⟨rq, .go, .ops d all (⟨dst, op, ty, pos, af, some g⟩ :: os) s0 tr :: k, s⟩ := rfl
theorem run_cl (f : FuncId) (as : List AV) (ws : List (Nat × SObj)) (is : List Nat) (lent : Bool) (id : Nat) : run2 C rv (n + 1) ⟨rq, .cl f as ws is lent dst id d all os s0 tr, k, s⟩ = ⟨rq, .cl f as ws is lent dst id d all os s0 tr, k, s⟩ := rfl
theorem run_gd (t : Tmp) (b w : Bool) (o : Oper) : run2 C rv (n + 1) ⟨rq, .gd t b w o d all os s0 tr, k, s⟩ = gdK (run2 C rv n) b w ⟨rq, .go, .one o :: .ops d all os s0 tr :: k, s.setT (some t) (.av (.v (.bool w)))⟩ ⟨rq, .go, .ops d all os s0 (trA d tr noFoot) :: k, (s.setT (some t) (.av (.v (.bool (!w))))).setT o.dst udf⟩ := rfl
theorem run_br (t : Bool) (a b : Code) : run2 C rv (n + 1) ⟨rq, .br t a b, k, s⟩ = brK (run2 C rv n) t ⟨rq, .go, .code a :: k, s⟩ ⟨rq, .go, .code b :: k, s⟩ := rfl
theorem run_clx (f : FuncId) (xs : List TV) (id : Nat) : run2 C rv (n + 1) ⟨rq, .clx f xs dst id d all os s0 tr, k, s⟩ = ⟨rq, .clx f xs dst id d all os s0 tr, k, s⟩ := rfl
theorem run_fst (x : TV) : run2 C rv (n + 1) ⟨rq, .fst x, k, s⟩ = ⟨rq, .fst x, k, s⟩ := rfl
theorem run_fin (res : List RItem) : run2 C rv (n + 1) ⟨rq, .fin res, k, s⟩ = ⟨rq, .fin res, k, s⟩ := rfl
theorem run_callf (f : Operand) (args : Array Operand) (ats : Array TypeId) :
    run2 C rv (n + 1) ⟨rq, .go, .one ⟨dst, .call ⟨.value f, args, ats⟩, ty, pos, af, gd⟩ :: .ops d all os s0 tr :: k, s⟩ =
      runF (run2 C rv n) rq d all os s0 tr k s dst C.M (ownD dst) (callOf C s f args) ⟨rq, .go, .one ⟨dst, .call ⟨.value f, args, ats⟩, ty, pos, af, gd⟩ :: .ops d all os s0 tr :: k, s⟩ := rfl
theorem run_move (x : Operand) : run2 C rv (n + 1) ⟨rq, .go, .one ⟨dst, .move x, ty, pos, af, gd⟩ :: .ops d all os s0 tr :: k, s⟩ = runE (run2 C rv n) rq d all os s0 tr k s dst ((s.ev C x).bind fun v => plain true v) ⟨rq, .go, .one ⟨dst, .move x, ty, pos, af, gd⟩ :: .ops d all os s0 tr :: k, s⟩ := rfl
theorem run_nilCheck (x : Operand) : run2 C rv (n + 1) ⟨rq, .go, .one ⟨dst, .nilCheck x, ty, pos, af, gd⟩ :: .ops d all os s0 tr :: k, s⟩ = runE (run2 C rv n) rq d all os s0 tr k s dst (aCheck (s.ev C x)) ⟨rq, .go, .one ⟨dst, .nilCheck x, ty, pos, af, gd⟩ :: .ops d all os s0 tr :: k, s⟩ := rfl
theorem run_assign (x : Operand) : run2 C rv (n + 1) ⟨rq, .go, .one ⟨dst, .assign x, ty, pos, af, gd⟩ :: .ops d all os s0 tr :: k, s⟩ = runE (run2 C rv n) rq d all os s0 tr k s dst (aAssign C s (ownD dst) ty x) ⟨rq, .go, .one ⟨dst, .assign x, ty, pos, af, gd⟩ :: .ops d all os s0 tr :: k, s⟩ := rfl
theorem run_pick (c a b : Operand) : run2 C rv (n + 1) ⟨rq, .go, .one ⟨dst, .pick c a b, ty, pos, af, gd⟩ :: .ops d all os s0 tr :: k, s⟩ = runE (run2 C rv n) rq d all os s0 tr k s dst (aPick (s.ev C c) (s.ev C a) (s.ev C b)) ⟨rq, .go, .one ⟨dst, .pick c a b, ty, pos, af, gd⟩ :: .ops d all os s0 tr :: k, s⟩ := rfl
theorem run_alloc (t : TypeId) : run2 C rv (n + 1) ⟨rq, .go, .one ⟨dst, .alloc t, ty, pos, af, gd⟩ :: .ops d all os s0 tr :: k, s⟩ = runE (run2 C rv n) rq d all os s0 tr k s dst (aAlloc C.T (ownD dst) t) ⟨rq, .go, .one ⟨dst, .alloc t, ty, pos, af, gd⟩ :: .ops d all os s0 tr :: k, s⟩ := rfl
theorem run_box (t : TypeId) (x : Operand) : run2 C rv (n + 1) ⟨rq, .go, .one ⟨dst, .box t x, ty, pos, af, gd⟩ :: .ops d all os s0 tr :: k, s⟩ = runE (run2 C rv n) rq d all os s0 tr k s dst (aBox (ownD dst) (s.ev C x)) ⟨rq, .go, .one ⟨dst, .box t x, ty, pos, af, gd⟩ :: .ops d all os s0 tr :: k, s⟩ := rfl
theorem run_build (t : TypeId) (parts : Array (Nat × Operand)) : run2 C rv (n + 1) ⟨rq, .go, .one ⟨dst, .build t parts, ty, pos, af, gd⟩ :: .ops d all os s0 tr :: k, s⟩ = runE (run2 C rv n) rq d all os s0 tr k s dst (aBuildK (C.M.K t) C.T s.g0 t (parts.toList.map (·.1)) (s.evl C (parts.toList.map (·.2)))) ⟨rq, .go, .one ⟨dst, .build t parts, ty, pos, af, gd⟩ :: .ops d all os s0 tr :: k, s⟩ := rfl
theorem run_buildSlice (t : TypeId) (m : Nat) (parts : Array (Nat × Operand)) : run2 C rv (n + 1) ⟨rq, .go, .one ⟨dst, .buildSlice t m parts, ty, pos, af, gd⟩ :: .ops d all os s0 tr :: k, s⟩ = runE (run2 C rv n) rq d all os s0 tr k s dst (aBuildSlice C.T s.g0 t m (parts.toList.map (·.1)) (s.evl C (parts.toList.map (·.2)))) ⟨rq, .go, .one ⟨dst, .buildSlice t m parts, ty, pos, af, gd⟩ :: .ops d all os s0 tr :: k, s⟩ := rfl
theorem run_load (t : TypeId) (a : Operand) : run2 C rv (n + 1) ⟨rq, .go, .one ⟨dst, .load t a, ty, pos, af, gd⟩ :: .ops d all os s0 tr :: k, s⟩ = runE (run2 C rv n) rq d all os s0 tr k s dst ((C.T t).bind fun ty => (s.ev C a).bind fun x => aLoad (C.M.K t) ty s.g0 x) ⟨rq, .go, .one ⟨dst, .load t a, ty, pos, af, gd⟩ :: .ops d all os s0 tr :: k, s⟩ := rfl
theorem run_store (t : TypeId) (a x : Operand) : run2 C rv (n + 1) ⟨rq, .go, .one ⟨dst, .store t a x, ty, pos, af, gd⟩ :: .ops d all os s0 tr :: k, s⟩ = runE (run2 C rv n) rq d all os s0 tr k s dst ((C.T t).bind fun ty => (s.ev C a).bind fun p => (s.ev C x).bind fun v => aStore ty s.g0 p v) ⟨rq, .go, .one ⟨dst, .store t a x, ty, pos, af, gd⟩ :: .ops d all os s0 tr :: k, s⟩ := rfl
theorem run_binOp (op : BinOp) (t t2 : TypeId) (x y : Operand) : run2 C rv (n + 1) ⟨rq, .go, .one ⟨dst, .binOp op t x y t2, ty, pos, af, gd⟩ :: .ops d all os s0 tr :: k, s⟩ = runE (run2 C rv n) rq d all os s0 tr k s dst ((s.ev C x).bind fun a => (s.ev C y).bind fun b => (aBin (C.T t) op y a b).bind fun r => plain r.1 (.av (.v r.2))) ⟨rq, .go, .one ⟨dst, .binOp op t x y t2, ty, pos, af, gd⟩ :: .ops d all os s0 tr :: k, s⟩ := rfl
theorem run_unOp (op : UnOp) (t : TypeId) (x : Operand) : run2 C rv (n + 1) ⟨rq, .go, .one ⟨dst, .unOp op t x, ty, pos, af, gd⟩ :: .ops d all os s0 tr :: k, s⟩ = runE (run2 C rv n) rq d all os s0 tr k s dst (aUn op (s.ev C x)) ⟨rq, .go, .one ⟨dst, .unOp op t x, ty, pos, af, gd⟩ :: .ops d all os s0 tr :: k, s⟩ := rfl
theorem run_convert (sr dt : TypeId) (x : Operand) : run2 C rv (n + 1) ⟨rq, .go, .one ⟨dst, .convert sr dt x, ty, pos, af, gd⟩ :: .ops d all os s0 tr :: k, s⟩ = runE (run2 C rv n) rq d all os s0 tr k s dst (aConv (C.T sr) ((C.T dt).bind (·.kind)) (s.ev C x)) ⟨rq, .go, .one ⟨dst, .convert sr dt x, ty, pos, af, gd⟩ :: .ops d all os s0 tr :: k, s⟩ := rfl
theorem run_slice (t : TypeId) (x : Operand) (lo hi mx : Option Operand) : run2 C rv (n + 1) ⟨rq, .go, .one ⟨dst, .slice t x lo hi mx, ty, pos, af, gd⟩ :: .ops d all os s0 tr :: k, s⟩ = runE (run2 C rv n) rq d all os s0 tr k s dst ((s.ev C x).bind fun v => (s.evo C lo).bind fun lo => (s.evo C hi).bind fun hi => (s.evo C mx).bind fun mx => aSlice C.T (C.T t) s.g0 v lo hi mx) ⟨rq, .go, .one ⟨dst, .slice t x lo hi mx, ty, pos, af, gd⟩ :: .ops d all os s0 tr :: k, s⟩ := rfl
theorem run_fieldAddr (t : TypeId) (x : Operand) (f : Nat) : run2 C rv (n + 1) ⟨rq, .go, .one ⟨dst, .fieldAddr t x f, ty, pos, af, gd⟩ :: .ops d all os s0 tr :: k, s⟩ = runE (run2 C rv n) rq d all os s0 tr k s dst ((C.T t).bind fun ty => (s.ev C x).bind fun v => aField ty.fields f v) ⟨rq, .go, .one ⟨dst, .fieldAddr t x f, ty, pos, af, gd⟩ :: .ops d all os s0 tr :: k, s⟩ := rfl
theorem run_indexAddr (t : TypeId) (x i : Operand) : run2 C rv (n + 1) ⟨rq, .go, .one ⟨dst, .indexAddr t x i, ty, pos, af, gd⟩ :: .ops d all os s0 tr :: k, s⟩ = runE (run2 C rv n) rq d all os s0 tr k s dst (((C.T t).bind (·.elem)).bind fun e => (C.T e).bind fun te => (s.ev C x).bind fun v => ((s.ev C i).bind intOf?).bind fun n => aIndex te.size s.g0 v n) ⟨rq, .go, .one ⟨dst, .indexAddr t x i, ty, pos, af, gd⟩ :: .ops d all os s0 tr :: k, s⟩ := rfl
theorem run_index (t : TypeId) (x i : Operand) : run2 C rv (n + 1) ⟨rq, .go, .one ⟨dst, .index t x i, ty, pos, af, gd⟩ :: .ops d all os s0 tr :: k, s⟩ = runE (run2 C rv n) rq d all os s0 tr k s dst (aByte (C.T t) (s.ev C x) ((s.ev C i).bind intOf?)) ⟨rq, .go, .one ⟨dst, .index t x i, ty, pos, af, gd⟩ :: .ops d all os s0 tr :: k, s⟩ := rfl
theorem run_field (t : TypeId) (x : Operand) (f : Nat) : run2 C rv (n + 1) ⟨rq, .go, .one ⟨dst, .field t x f, ty, pos, af, gd⟩ :: .ops d all os s0 tr :: k, s⟩ = runE (run2 C rv n) rq d all os s0 tr k s dst ((C.T t).bind fun ty => aPart ty.fields f (s.ev C x)) ⟨rq, .go, .one ⟨dst, .field t x f, ty, pos, af, gd⟩ :: .ops d all os s0 tr :: k, s⟩ := rfl
theorem run_extract (x : Operand) (i : Nat) : run2 C rv (n + 1) ⟨rq, .go, .one ⟨dst, .extract x i, ty, pos, af, gd⟩ :: .ops d all os s0 tr :: k, s⟩ = runE (run2 C rv n) rq d all os s0 tr k s dst (aExtract (s.ev C x) i) ⟨rq, .go, .one ⟨dst, .extract x i, ty, pos, af, gd⟩ :: .ops d all os s0 tr :: k, s⟩ := rfl
theorem run_makeInterface (t : TypeId) (x : Operand) : run2 C rv (n + 1) ⟨rq, .go, .one ⟨dst, .makeInterface t x, ty, pos, af, gd⟩ :: .ops d all os s0 tr :: k, s⟩ = runE (run2 C rv n) rq d all os s0 tr k s dst (aIface C.T s.g0 t (s.ev C x)) ⟨rq, .go, .one ⟨dst, .makeInterface t x, ty, pos, af, gd⟩ :: .ops d all os s0 tr :: k, s⟩ := rfl
theorem run_makeFunc (f : FuncId) (first caps : Array Operand) : run2 C rv (n + 1) ⟨rq, .go, .one ⟨dst, .makeFunc (.func f) first caps, ty, pos, af, gd⟩ :: .ops d all os s0 tr :: k, s⟩ = runE (run2 C rv n) rq d all os s0 tr k s dst (aFunc f first.toList (capsOf C s caps.toList)) ⟨rq, .go, .one ⟨dst, .makeFunc (.func f) first caps, ty, pos, af, gd⟩ :: .ops d all os s0 tr :: k, s⟩ := rfl
theorem run_len (args : Array Operand) (ats : Array TypeId) : run2 C rv (n + 1) ⟨rq, .go, .one ⟨dst, .call ⟨.builtin .len, args, ats⟩, ty, pos, af, gd⟩ :: .ops d all os s0 tr :: k, s⟩ = runE (run2 C rv n) rq d all os s0 tr k s dst (aLen (ty1 C.T ats.toList) (s.evl C args.toList)) ⟨rq, .go, .one ⟨dst, .call ⟨.builtin .len, args, ats⟩, ty, pos, af, gd⟩ :: .ops d all os s0 tr :: k, s⟩ := rfl
theorem run_max (args : Array Operand) (ats : Array TypeId) : run2 C rv (n + 1) ⟨rq, .go, .one ⟨dst, .call ⟨.builtin .max, args, ats⟩, ty, pos, af, gd⟩ :: .ops d all os s0 tr :: k, s⟩ = runE (run2 C rv n) rq d all os s0 tr k s dst (aMax true (s.evl C args.toList)) ⟨rq, .go, .one ⟨dst, .call ⟨.builtin .max, args, ats⟩, ty, pos, af, gd⟩ :: .ops d all os s0 tr :: k, s⟩ := rfl
theorem run_min (args : Array Operand) (ats : Array TypeId) : run2 C rv (n + 1) ⟨rq, .go, .one ⟨dst, .call ⟨.builtin .min, args, ats⟩, ty, pos, af, gd⟩ :: .ops d all os s0 tr :: k, s⟩ = runE (run2 C rv n) rq d all os s0 tr k s dst (aMax false (s.evl C args.toList)) ⟨rq, .go, .one ⟨dst, .call ⟨.builtin .min, args, ats⟩, ty, pos, af, gd⟩ :: .ops d all os s0 tr :: k, s⟩ := rfl
theorem run_append (args : Array Operand) (ats : Array TypeId) : run2 C rv (n + 1) ⟨rq, .go, .one ⟨dst, .call ⟨.builtin .append, args, ats⟩, ty, pos, af, gd⟩ :: .ops d all os s0 tr :: k, s⟩ = runE (run2 C rv n) rq d all os s0 tr k s dst (aApp C.T s.g0 (ownD dst) (s.evl C args.toList) ats.toList) ⟨rq, .go, .one ⟨dst, .call ⟨.builtin .append, args, ats⟩, ty, pos, af, gd⟩ :: .ops d all os s0 tr :: k, s⟩ := rfl
end
end Go.Sy

/- Loops told by rounds; plain words for the walks. -/
set_option linter.unusedVariables false
namespace Go.Sy

def memN (x : Nat) : List Nat → Bool
  | [] => false
  | y :: r => bif y == x then true else memN x r
def keepT : List (Nat × TV) → List Nat → List (Nat × TV)
  | [], _ => []
  | (t, x) :: r, kt => bif memN t kt then (t, x) :: keepT r kt else keepT r kt
def dropO : List (Nat × SObj) → List Nat → List (Nat × SObj)
  | [], _ => []
  | (t, x) :: r, kt => bif memN t kt then dropO r kt else (t, x) :: dropO r kt
/-- A state told anew: these temporaries are kept, these values and objects are laid over. -/
def St.re (s : St) (kt : List Nat) (ct : List (Nat × TV)) (co : List (Nat × SObj)) : St := ⟨ct ++ keepT s.tmps kt, co ++ dropO s.objs (fsts co)⟩

def leT (s : St) : List (Nat × TV) → Prop
  | [] => True
  | (t, x) :: r => look s.tmps t = some x ∧ leT s r
def leO (s : St) : List (Nat × SObj) → Prop
  | [] => True
  | (t, x) :: r => look s.objs t = some x ∧ leO s r

theorem leT_look {s : St} : ∀ {l : List (Nat × TV)}, leT s l → ∀ {t : Nat} {x : TV}, look l t = some x → look s.tmps t = some x
  | [], _, t, x, h => by simp [look] at h
  | (k, y) :: r, hl, t, x, h => by
    simp only [look] at h
    cases hk : k == t with
    | true => rw [hk] at h; cases h; have : k = t := by simpa using hk
              subst this; exact hl.1
    | false => rw [hk] at h; exact leT_look hl.2 h
theorem leO_look {s : St} : ∀ {l : List (Nat × SObj)}, leO s l → ∀ {t : Nat} {x : SObj}, look l t = some x → look s.objs t = some x
  | [], _, t, x, h => by simp [look] at h
  | (k, y) :: r, hl, t, x, h => by
    simp only [look] at h
    cases hk : k == t with
    | true => rw [hk] at h; cases h; have : k = t := by simpa using hk
              subst this; exact hl.1
    | false => rw [hk] at h; exact leO_look hl.2 h
theorem St.le_of {s s' : St} (h1 : leT s' s.tmps) (h2 : leO s' s.objs) : s.le s' := ⟨fun t x h => leT_look h1 h, fun i o h => leO_look h2 h⟩

theorem look_append {α : Type} : ∀ (a b : List (Nat × α)) (t : Nat), look (a ++ b) t = (look a t).or (look b t)
  | [], b, t => rfl
  | (k, x) :: a, b, t => by
    simp only [List.cons_append, look]
    cases hk : k == t with
    | true => simp
    | false => simp [look_append a b t]
theorem look_keepT : ∀ (l : List (Nat × TV)) (kt : List Nat) {t : Nat} {x : TV}, look (keepT l kt) t = some x → look l t = some x
  | [], kt, t, x, h => by simp [keepT, look] at h
  | (k, y) :: r, kt, t, x, h => by
    simp only [keepT] at h
    cases hm : memN k kt with
    | true =>
      rw [hm] at h
      simp only [cond_true, look] at h ⊢
      cases hk : k == t with
      | true => rw [hk] at h; exact h
      | false => rw [hk] at h; exact look_keepT r kt h
    | false =>
      rw [hm] at h
      simp only [cond_false] at h
      have h2 := look_keepT r kt h
      simp only [look]
      cases hk : k == t with
      | false => exact h2
      | true =>
        exfalso
        have : k = t := by simpa using hk
        subst this
        -- the key isn't kept
        have nk : ∀ (l : List (Nat × TV)), look (keepT l kt) k = none := by
          intro l
          induction l with
          | nil => rfl
          | cons p l ih =>
            obtain ⟨q, z⟩ := p
            simp only [keepT]
            cases hq : memN q kt with
            | false => simpa using ih
            | true =>
              simp only [cond_true, look]
              cases hqk : q == k with
              | false => simpa using ih
              | true =>
                have : q = k := by simpa using hqk
                subst this
                rw [hm] at hq; cases hq
        rw [nk r] at h
        cases h
theorem look_dropO : ∀ (l : List (Nat × SObj)) (kt : List Nat) {t : Nat} {x : SObj}, look (dropO l kt) t = some x → look l t = some x
  | [], kt, t, x, h => by simp [dropO, look] at h
  | (k, y) :: r, kt, t, x, h => by
    simp only [dropO] at h
    cases hm : memN k kt with
    | false =>
      rw [hm] at h
      simp only [cond_false, look] at h ⊢
      cases hk : k == t with
      | true => rw [hk] at h; exact h
      | false => rw [hk] at h; exact look_dropO r kt h
    | true =>
      rw [hm] at h
      simp only [cond_true] at h
      have h2 := look_dropO r kt h
      simp only [look]
      cases hk : k == t with
      | false => exact h2
      | true =>
        exfalso
        have : k = t := by simpa using hk
        subst this
        have nk : ∀ (l : List (Nat × SObj)), look (dropO l kt) k = none := by
          intro l
          induction l with
          | nil => rfl
          | cons p l ih =>
            obtain ⟨q, z⟩ := p
            simp only [dropO]
            cases hq : memN q kt with
            | true => simpa using ih
            | false =>
              simp only [cond_false, look]
              cases hqk : q == k with
              | false => simpa using ih
              | true =>
                have : q = k := by simpa using hqk
                subst this
                rw [hm] at hq; cases hq
        rw [nk r] at h
        cases h
theorem St.re_le {s : St} {kt : List Nat} {ct : List (Nat × TV)} {co : List (Nat × SObj)} (h1 : leT s ct) (h2 : leO s co) : (s.re kt ct co).le s := by
  refine ⟨fun t x h => ?_, fun t x h => ?_⟩
  · simp only [St.re, look_append] at h
    cases hc : look ct t with
    | some y => rw [hc] at h; cases h; exact leT_look h1 hc
    | none => rw [hc] at h; exact look_keepT _ _ h
  · simp only [St.re, look_append] at h
    cases hc : look co t with
    | some y => rw [hc] at h; cases h; exact leO_look h2 hc
    | none => rw [hc] at h; exact look_dropO _ _ h

section
variable {C : Ctx} {rv : Array ResultVar} {R : RI → Prop} {rq : Bool} {k : List It} {s : St}
/-- A loop: what its rounds turn, told by the round's number. -/
theorem GC.loopR {c : Code} (h : rq = true) (n : Nat) (kt : List Nat) (ct : Nat → List (Nat × TV)) (co : Nat → List (Nat × SObj)) (I : Nat → Prop) (h0 : leT s (ct 0)) (h0' : leO s (co 0)) (hI : I 0)
    (hs : ∀ j, j ≤ n → I j → GC C rv R ⟨true, .go, .code c :: .lp n (fun j => s.re kt (ct j) (co j)) I j :: k, s.re kt (ct j) (co j)⟩) : GC C rv R ⟨rq, .go, .code (.loop c) :: k, s⟩ :=
  GC.loop h n _ I (St.re_le h0 h0') hI hs
theorem GC.backR {n : Nat} {st : Nat → St} {I : Nat → Prop} {j : Nat} (h : rq = true) (h1 : j < n) (hI : I (j + 1)) (h2 : leT s (st (j + 1)).tmps) (h3 : leO s (st (j + 1)).objs) : GC C rv R ⟨rq, .go, .lp n st I j :: k, s⟩ :=
  GC.back h h1 hI (St.le_of h2 h3)
end

theorem GC.finE {C : Ctx} {rv : Array ResultVar} {rq : Bool} {k : List It} {s : St} {res res' : List RItem} (h : rq = true) (hr : res = res') : GC C rv (fun r => r = .items res') ⟨rq, .fin res, k, s⟩ := GC.fin h (congrArg RI.items hr)
theorem wrap_i64 {n : Int} (h1 : -9223372036854775808 ≤ n) (h2 : n < 9223372036854775808) : IntKind.i64.wrap n = n := by
  simp [IntKind.wrap, IntKind.bits, IntKind.signed]
  omega
end Go.Sy
namespace Go.Sy
theorem GC.go {C : Ctx} {rv : Array ResultVar} {R : RI → Prop} {k : List It} {s : St} (h : GC C rv R ⟨true, .go, k, s⟩) : Go C rv R k s := h.2
end Go.Sy
namespace Go.Sy
theorem toTV_nil : toTV (.slice none 0 0) = .full [] := rfl
theorem toTV_int (k : IntKind) (n : Int) : toTV (.int k n) = .av (.v (.int k n)) := rfl
theorem toTV_bool (b : Bool) : toTV (.bool b) = .av (.v (.bool b)) := rfl
theorem toTV_str (s : ByteArray) : toTV (.string s) = .av (.v (.string s)) := rfl
theorem toTV_ptr (p : Option Addr) : toTV (.pointer p) = .av (.v (.pointer p)) := rfl
theorem toTV_ifc : toTV .nilIface = .av (.v .nilIface) := rfl
theorem toTV_fn : toTV .nilFunc = .av (.v .nilFunc) := rfl
theorem toAV_nil : toAV (.slice none 0 0) = .sl [] := rfl
theorem toAV_int (k : IntKind) (n : Int) : toAV (.int k n) = .v (.int k n) := rfl
theorem toAV_bool (b : Bool) : toAV (.bool b) = .v (.bool b) := rfl
theorem toAV_str (s : ByteArray) : toAV (.string s) = .v (.string s) := rfl
theorem toAV_ptr (p : Option Addr) : toAV (.pointer p) = .v (.pointer p) := rfl
theorem toAV_ifc : toAV .nilIface = .v .nilIface := rfl
theorem toAV_fn : toAV .nilFunc = .v .nilFunc := rfl
section
variable (C : Ctx) (s : St) (own : Nat) (ty : TypeId)
theorem aAssign_nil : aAssign C s own ty (.const (.slice none 0 0)) = match (C.T ty).bind (·.elem) with
    | some e => match C.T e with
      | some te => match s.g0 own with
        | none => some { req := true, val := .row own 0, wr := [(own, .row true e te.size [])], rd := [own], nw := [own] }
        | some _ => some { req := true, val := .full [], wr := [], rd := [own], nw := [] }
      | none => none
    | none => none := rfl
theorem aAssign_tmp (t : Tmp) : aAssign C s own ty (.tmp t) = (s.ev C (.tmp t)).bind fun v => plain true v := rfl
theorem aAssign_int (k : IntKind) (n : Int) : aAssign C s own ty (.const (.int k n)) = plain true (.av (.v (.int k n))) := rfl
theorem aAssign_bool (b : Bool) : aAssign C s own ty (.const (.bool b)) = plain true (.av (.v (.bool b))) := rfl
theorem aAssign_str (b : ByteArray) : aAssign C s own ty (.const (.string b)) = plain true (.av (.v (.string b))) := rfl
theorem aAssign_ptr (b : Option Addr) : aAssign C s own ty (.const (.pointer b)) = plain true (.av (.v (.pointer b))) := rfl
theorem aAssign_nilf : aAssign C s own ty (.const .nilFunc) = plain true (.av (.v .nilFunc)) := rfl
theorem aAssign_ifc : aAssign C s own ty (.const .nilIface) = plain true (.av (.v .nilIface)) := rfl
theorem aAssign_func (f : FuncId) : aAssign C s own ty (.func f) = (s.ev C (.func f)).bind fun v => plain true v := rfl
theorem aAssign_glob (f : Nat) : aAssign C s own ty (.global f) = (s.ev C (.global f)).bind fun v => plain true v := rfl
end
theorem nilConst_slice : nilConst (.const (.slice none 0 0)) = some .slice := rfl
theorem nilConst_ptr : nilConst (.const (.pointer none)) = some .ptr := rfl
theorem nilConst_ifc : nilConst (.const .nilIface) = some .iface := rfl
theorem nilConst_tmp (t : Tmp) : nilConst (.tmp t) = none := rfl
end Go.Sy
namespace Go.Sy
theorem AVone_v (x : Value) : (AV.v x).one = x.oneCell' := rfl
theorem AVone_sl (x : List AV) : (AV.sl x).one = true := rfl
theorem AVone_agg (x : List AV) : (AV.agg x).one = true := rfl
theorem AVone_ref (x : List AV) : (AV.ref x).one = true := rfl
theorem AVone_fn (f : FuncId) (x : List AV) : (AV.fn f x).one = true := rfl
theorem AVone_ifc (t : TypeId) (x : AV) : (AV.ifc t x).one = true := rfl
theorem AVone_sent (g : Nat) : (AV.sent g).one = true := rfl
theorem AVcells_v (x : Value) : (AV.v x).cells = [.v x] := rfl
theorem AVcells_sl (x : List AV) : (AV.sl x).cells = [.sl x] := rfl
theorem AVcells_agg (x : List AV) : (AV.agg x).cells = x := rfl
theorem AVcells_ref (x : List AV) : (AV.ref x).cells = [.ref x] := rfl
theorem AVcells_fn (f : FuncId) (x : List AV) : (AV.fn f x).cells = [.fn f x] := rfl
theorem AVcells_ifc (t : TypeId) (x : AV) : (AV.ifc t x).cells = [.ifc t x] := rfl
theorem AVcells_sent (g : Nat) : (AV.sent g).cells = [.sent g] := rfl
end Go.Sy
namespace Go.Sy
/-- A slice without elements: nil, or not. -/
theorem Sound.empty {C : Ctx} {f : FuncId} {res : List RItem} (h : ∀ a c, Sound C f [.v (.slice a 0 c)] res) : Sound C f [.sl []] res := by
  refine ⟨(h none 0).callee, fun m w vs h1 h2 h3 hA => ?_⟩
  obtain ⟨u, us, rfl, hu, hus⟩ := hA
  simp only [RepV] at hu
  obtain ⟨a, c, rfl, _⟩ := hu
  exact (h a c).run m w _ h1 h2 h3 ⟨_, us, rfl, by simp only [RepV]; rfl, hus⟩
end Go.Sy
namespace Go.Sy
theorem toNat0 : Int.toNat 0 = 0 := rfl
theorem toNat1 : Int.toNat 1 = 1 := rfl
theorem toNat2 : Int.toNat 2 = 2 := rfl
theorem toNat3 : Int.toNat 3 = 3 := rfl
theorem getD0 {α : Type} (a d : α) (l : List α) : (a :: l).getD 0 d = a := rfl
theorem getD1 {α : Type} (a b d : α) (l : List α) : (a :: b :: l).getD 1 d = b := rfl
theorem getD2 {α : Type} (a b c d : α) (l : List α) : (a :: b :: c :: l).getD 2 d = c := rfl
theorem getD3 {α : Type} (a b c e d : α) (l : List α) : (a :: b :: c :: e :: l).getD 3 d = e := rfl
end Go.Sy
namespace Go.Sy
theorem cst0 : ((0 : Nat) : Int) = 0 := rfl
theorem cst1 : ((1 : Nat) : Int) = 1 := rfl
theorem cst2 : ((2 : Nat) : Int) = 2 := rfl
theorem cst3 : ((3 : Nat) : Int) = 3 := rfl
theorem cst4 : ((4 : Nat) : Int) = 4 := rfl
theorem cst5 : ((5 : Nat) : Int) = 5 := rfl
theorem cst6 : ((6 : Nat) : Int) = 6 := rfl
theorem cst7 : ((7 : Nat) : Int) = 7 := rfl
theorem cst8 : ((8 : Nat) : Int) = 8 := rfl
theorem cst9 : ((9 : Nat) : Int) = 9 := rfl
theorem cst10 : ((10 : Nat) : Int) = 10 := rfl
theorem cst11 : ((11 : Nat) : Int) = 11 := rfl
end Go.Sy
namespace Go.Sy
theorem hdOK_nil (sz : Nat) : hdOK sz [] = true := rfl
theorem hdOK_cons (sz : Nat) (x : AV) (r : List AV) : hdOK sz (x :: r) = (x.one && decide (x.cells.length = sz)) := rfl
theorem hdOK_all {sz : Nat} : ∀ {xs : List AV}, allSz sz xs = true → hdOK sz xs = true
  | [], _ => rfl
  | x :: r, h => by
    simp only [allSz, Bool.and_eq_true, decide_eq_true_eq] at h
    simp [hdOK, h.1.1, h.1.2]
end Go.Sy

/- Data as trees, apart from any program. -/
set_option linter.unusedVariables false
namespace Go.Sy

inductive Dat where
  | mk (kind c : Int) (neg : Bool) (mag : List Int) (t : ByteArray) (l : List Dat)
def Dat.kind : Dat → Int | .mk k _ _ _ _ _ => k
def Dat.c : Dat → Int | .mk _ c _ _ _ _ => c
def Dat.neg : Dat → Bool | .mk _ _ n _ _ _ => n
def Dat.mag : Dat → List Int | .mk _ _ _ m _ _ => m
def Dat.t : Dat → ByteArray | .mk _ _ _ _ t _ => t
def Dat.l : Dat → List Dat | .mk _ _ _ _ _ l => l
instance : Inhabited Dat := ⟨.mk 0 0 false [] ⟨#[]⟩ []⟩

def encU (l : List Int) : List AV := l.map fun n => .v (.int .u32 n)
mutual
def encD : Dat → AV
  | .mk k c neg mag t l => .agg [.v (.int .i64 k), .v (.int .i32 c), .v (.bool neg), .sl (encU mag), .v (.string t), .sl (encL l)]
def encL : List Dat → List AV
  | [] => []
  | d :: r => encD d :: encL r
end
theorem encL_map : ∀ l : List Dat, encL l = l.map encD
  | [] => rfl
  | d :: r => by simp [encL, encL_map r]
theorem encL_length (l : List Dat) : (encL l).length = l.length := by rw [encL_map]; simp
theorem encU_length (l : List Int) : (encU l).length = l.length := by simp [encU]
theorem encL_get {l : List Dat} {j : Nat} (h : j < l.length) : (encL l).getD j dflt = encD l[j] := by
  rw [encL_map]; simp [h]
theorem encU_get {l : List Int} {j : Nat} (h : j < l.length) : (encU l).getD j dflt = .v (.int .u32 l[j]) := by simp [encU, h]
theorem encL_append (a b : List Dat) : encL (a ++ b) = encL a ++ encL b := by simp [encL_map]
theorem encL_take (l : List Dat) (n : Nat) : encL (l.take n) = (encL l).take n := by simp [encL_map]
theorem encL_drop (l : List Dat) (n : Nat) : encL (l.drop n) = (encL l).drop n := by simp [encL_map]

mutual
/-- How many data there are in one. -/
def cnt : Dat → Nat
  | .mk _ _ _ _ _ l => 1 + cntL l
def cntL : List Dat → Nat
  | [] => 0
  | d :: r => cnt d + cntL r
end
theorem cnt_pos (d : Dat) : 0 < cnt d := by cases d; simp only [cnt]; omega
theorem cntL_len : ∀ l : List Dat, l.length ≤ cntL l
  | [] => Nat.zero_le _
  | d :: r => by have := cntL_len r; have := cnt_pos d; simp only [cntL, List.length_cons]; omega
theorem cntL_get : ∀ {l : List Dat} {d : Dat}, d ∈ l → cnt d ≤ cntL l
  | x :: r, d, h => by
    simp only [cntL]
    rcases List.mem_cons.1 h with rfl | h
    · omega
    · have := cntL_get h; omega
theorem cntL_append : ∀ a b : List Dat, cntL (a ++ b) = cntL a + cntL b
  | [], b => by simp [cntL]
  | x :: a, b => by simp only [List.cons_append, cntL, cntL_append a b]; omega
/-- The bound up to which all is counted. -/
def big : Nat := 1099511627776
mutual
/-- No list of a datum, no text is past all bounds. -/
def fineL : List Dat → Prop
  | [] => True
  | d :: r => fineD d ∧ fineL r
def fineD : Dat → Prop
  | .mk _ _ _ mag t l => mag.length < 1099511627776 ∧ t.size < 1099511627776 ∧ fineL l
end
def fine (d : Dat) : Prop := cnt d < 1099511627776 ∧ fineD d
theorem fineL_mem : ∀ {l : List Dat}, fineL l → ∀ d ∈ l, fineD d
  | [], _, d, h => by simp at h
  | x :: r, hl, d, h => by
    rcases List.mem_cons.1 h with rfl | h
    · exact hl.1
    · exact fineL_mem hl.2 d h
theorem fine.sub {k c : Int} {neg : Bool} {mag : List Int} {t : ByteArray} {l : List Dat} (h : fine (.mk k c neg mag t l)) {d : Dat} (hd : d ∈ l) : fine d := by
  obtain ⟨h1, h2⟩ := h
  simp only [cnt] at h1
  have := cntL_get hd
  exact ⟨by omega, fineL_mem h2.2.2 d hd⟩
theorem fine.len {k c : Int} {neg : Bool} {mag : List Int} {t : ByteArray} {l : List Dat} (h : fine (.mk k c neg mag t l)) : l.length < 1099511627776 := by
  obtain ⟨h1, h2⟩ := h
  simp only [cnt] at h1
  have := cntL_len l
  omega
theorem fine.mag {k c : Int} {neg : Bool} {mag : List Int} {t : ByteArray} {l : List Dat} (h : fine (.mk k c neg mag t l)) : mag.length < 1099511627776 := h.2.1
theorem fine.txt {k c : Int} {neg : Bool} {mag : List Int} {t : ByteArray} {l : List Dat} (h : fine (.mk k c neg mag t l)) : t.size < 1099511627776 := h.2.2.1

theorem dec_lt {a b : Nat} (h : a < b) : decide ((a : Int) < (b : Int)) = true := by simpa using h
theorem dec_ge {a b : Nat} (h : b ≤ a) : decide ((a : Int) < (b : Int)) = false := by simpa using h
theorem wrap_nat (j : Nat) (h : j < 1099511627776) : IntKind.i64.wrap ((j : Int) + 1) = ((j + 1 : Nat) : Int) := by
  rw [wrap_i64 (by omega) (by omega)]; rfl
end Go.Sy

/- What the functions on data compute, apart from any program. -/
set_option linter.unusedVariables false
namespace Go.Sy

theorem toList_inj {a b : ByteArray} (h : a.toList = b.toList) : a = b := by
  rw [ByteArray.toList_eq, ByteArray.toList_eq] at h
  have h2 : a.data = b.data := Array.toList_inj.1 h
  cases a; cases b; simp_all

def flatD : Dat → Dat → Bool
  | .mk k c neg mag t l, .mk k' c' neg' mag' t' l' => k == k' && (c == c' && (neg == neg' && (decide (mag = mag') && (t.toList == t'.toList && decide (l.length = l'.length)))))
mutual
def sameD : Dat → Dat → Bool
  | .mk k c neg mag t l, .mk k' c' neg' mag' t' l' => k == k' && (c == c' && (neg == neg' && (decide (mag = mag') && (t.toList == t'.toList && sameL l l'))))
def sameL : List Dat → List Dat → Bool
  | [], [] => true
  | a :: r, b :: s => sameD a b && sameL r s
  | [], _ :: _ => false
  | _ :: _, [] => false
end
mutual
theorem sameD_eq : ∀ (a b : Dat), sameD a b = true → a = b
  | .mk k c neg mag t l, .mk k' c' neg' mag' t' l', h => by
    simp only [sameD, Bool.and_eq_true, beq_iff_eq, decide_eq_true_eq] at h
    obtain ⟨h1, h2, h3, h4, h5, h6⟩ := h
    rw [h1, h2, h3, h4, toList_inj h5, sameL_eq l l' h6]
theorem sameL_eq : ∀ (a b : List Dat), sameL a b = true → a = b
  | [], [], _ => rfl
  | a :: r, b :: s, h => by
    simp only [sameL, Bool.and_eq_true] at h
    rw [sameD_eq a b h.1, sameL_eq r s h.2]
  | [], _ :: _, h => by simp [sameL] at h
  | _ :: _, [], h => by simp [sameL] at h
end
mutual
theorem sameD_refl : ∀ (a : Dat), sameD a a = true
  | .mk k c neg mag t l => by simp [sameD, sameL_refl l]
theorem sameL_refl : ∀ (a : List Dat), sameL a a = true
  | [] => rfl
  | a :: r => by simp [sameL, sameD_refl a, sameL_refl r]
end
theorem sameD_iff {a b : Dat} : sameD a b = true ↔ a = b := ⟨sameD_eq a b, fun h => h ▸ sameD_refl a⟩
theorem sameL_iff {a b : List Dat} : sameL a b = true ↔ a = b := ⟨sameL_eq a b, fun h => h ▸ sameL_refl a⟩
theorem sameL_len {a b : List Dat} (h : a.length ≠ b.length) : sameL a b = false := by
  cases hs : sameL a b with
  | false => rfl
  | true => exact absurd (congrArg _ (sameL_eq a b hs)) h
theorem sameD_flat (a b : Dat) : sameD a b = (flatD a b && sameL a.l b.l) := by
  obtain ⟨k, c, neg, mag, t, l⟩ := a
  obtain ⟨k', c', neg', mag', t', l'⟩ := b
  simp only [sameD, flatD, Dat.l]
  by_cases hl : l.length = l'.length
  · simp [hl, Bool.and_assoc]
  · simp [hl, sameL_len hl]

theorem getD_ne {α : Type} {a b : List α} {j : Nat} (ha : j < a.length) (hb : j < b.length) (h : a[j] ≠ b[j]) : a ≠ b := by
  intro e; subst e; exact h rfl
theorem eq_of_upto {α : Type} {a b : List α} (hl : a.length = b.length) (h : a.take a.length = b.take a.length) : a = b := by
  rw [List.take_length, hl, List.take_length] at h
  exact h
theorem take_step {α : Type} {a b : List α} {j : Nat} (ha : j < a.length) (hb : j < b.length) (h : a.take j = b.take j) (e : a[j] = b[j]) : a.take (j + 1) = b.take (j + 1) := by
  rw [List.take_succ_eq_append_getElem ha, List.take_succ_eq_append_getElem hb, h, e]
theorem beq_len (a b : Nat) : ((a : Int) == (b : Int)) = decide (a = b) := by
  by_cases h : a = b
  · simp [h]
  · simp [h]; omega
theorem bne_len (a b : Nat) : ((a : Int) != (b : Int)) = !decide (a = b) := by simp [bne, beq_len]

/-! ### depth, count -/
mutual
/-- Data within data. -/
def depthD : Dat → Nat
  | .mk k _ _ _ _ l => max (if k = 8 then 1 else 0) (depthL k l)
def depthL (k : Int) : List Dat → Nat
  | [] => 0
  | x :: r => max (depthD x + if k = 7 ∧ r = [] ∧ x.kind = 7 then 0 else 1) (depthL k r)
end
/-- What the j-th of a datum's items gives. -/
def ditm (k : Int) (l : List Dat) (j : Nat) : Nat := match l[j]? with
  | some x => depthD x + if k = 7 ∧ j + 1 = l.length ∧ x.kind = 7 then 0 else 1
  | none => 0
def dpre (k : Int) (l : List Dat) (z : Nat) : Nat → Nat
  | 0 => z
  | j + 1 => max (dpre k l z j) (ditm k l j)
theorem dpre_cons (k : Int) (x : Dat) (r : List Dat) (z : Nat) : ∀ j, j ≤ r.length → dpre k (x :: r) z (j + 1) = max (ditm k (x :: r) 0) (dpre k r z j)
  | 0, _ => by simp [dpre, Nat.max_comm]
  | j + 1, h => by
    have e : ditm k (x :: r) (j + 1) = ditm k r j := by simp [ditm]
    rw [dpre, dpre_cons k x r z j (by omega), e, dpre, Nat.max_assoc]
theorem dpre_all (k : Int) (z : Nat) : ∀ l : List Dat, dpre k l z l.length = max z (depthL k l)
  | [] => by simp [dpre, depthL]
  | x :: r => by
    rw [List.length_cons, dpre_cons k x r z _ (Nat.le_refl _), dpre_all k z r, depthL]
    have : ditm k (x :: r) 0 = depthD x + if k = 7 ∧ r = [] ∧ x.kind = 7 then 0 else 1 := by
      simp only [ditm, List.getElem?_cons_zero, List.length_cons]
      cases r <;> simp
    rw [this]
    omega
mutual
theorem depthD_le : ∀ d : Dat, depthD d ≤ cnt d
  | .mk k _ _ _ _ l => by
    have := depthL_le k l
    simp only [depthD, cnt]
    split <;> omega
theorem depthL_le (k : Int) : ∀ l : List Dat, depthL k l ≤ 1 + cntL l
  | [] => by simp [depthL]
  | x :: r => by
    have h1 := depthD_le x
    have h2 := depthL_le k r
    simp only [depthL, cntL]
    split <;> omega
end
theorem ditm_le (k : Int) (l : List Dat) (j : Nat) : ditm k l j ≤ 1 + cntL l := by
  unfold ditm
  cases h : l[j]? with
  | none => simp
  | some x =>
    have h1 := depthD_le x
    have h2 := cntL_get (List.mem_of_getElem? h)
    simp only
    split <;> omega
theorem dpre_le (k : Int) (l : List Dat) (z : Nat) (hz : z ≤ 1) : ∀ j, dpre k l z j ≤ 1 + cntL l
  | 0 => by simp only [dpre]; omega
  | j + 1 => by
    have := dpre_le k l z hz j
    have := ditm_le k l j
    simp only [dpre]; omega
/-- How many data the first ones have. -/
def cpre (l : List Dat) (j : Nat) : Nat := 1 + cntL (l.take j)
theorem cpre_step {l : List Dat} {j : Nat} (h : j < l.length) : cpre l (j + 1) = cpre l j + cnt l[j] := by
  simp only [cpre, List.take_succ_eq_append_getElem h, cntL_append, cntL]; omega
theorem cpre_all (l : List Dat) : cpre l l.length = 1 + cntL l := by simp [cpre]
theorem cntL_take (l : List Dat) (j : Nat) : cntL (l.take j) ≤ cntL l := by
  have := cntL_append (l.take j) (l.drop j)
  rw [List.take_append_drop] at this
  omega
theorem cpre_le (l : List Dat) (j : Nat) : cpre l j ≤ 1 + cntL l := by have := cntL_take l j; simp only [cpre]; omega
end Go.Sy

/- Lists of data: items, lists that are made. -/
set_option linter.unusedVariables false
namespace Go.Sy

theorem allSz_encU : ∀ l : List Int, allSz 1 (encU l) = true
  | [] => rfl
  | x :: r => by
    have : encU (x :: r) = .v (.int .u32 x) :: encU r := rfl
    simp [this, allSz, AV.one, Value.oneCell', AV.cells, allSz_encU r]
theorem encD_one (d : Dat) : (encD d).one = true := by cases d; rfl
theorem encD_cells (d : Dat) : (encD d).cells.length = 6 := by cases d; rfl
theorem allSz_encL : ∀ l : List Dat, allSz 6 (encL l) = true
  | [] => rfl
  | x :: r => by simp [encL, allSz, encD_one, encD_cells, allSz_encL r]

theorem hdOK_encU (l : List Int) : hdOK 1 (encU l) = true := hdOK_all (allSz_encU l)
theorem hdOK_encL (l : List Dat) : hdOK 6 (encL l) = true := hdOK_all (allSz_encL l)

/-- A pair's two. -/
def stepD : Dat → Option (Dat × Dat)
  | .mk k _ _ _ _ [a, b] => if k = 7 then some (a, b) else none
  | _ => none
theorem stepD_some {d a b : Dat} (h : stepD d = some (a, b)) : ∃ c neg mag t, d = .mk 7 c neg mag t [a, b] := by
  unfold stepD at h
  split at h
  · split at h
    · rename_i hk; cases h; exact ⟨_, _, _, _, by rw [hk]⟩
    · cases h
  · cases h
theorem stepD_none {k c : Int} {neg : Bool} {mag : List Int} {t : ByteArray} {l : List Dat} (h : stepD (.mk k c neg mag t l) = none) : ¬ (k = 7 ∧ l.length = 2) := by
  rintro ⟨rfl, h2⟩
  match l, h2 with
  | [a, b], _ => simp [stepD] at h
theorem stepD_cnt {d a b : Dat} (h : stepD d = some (a, b)) : cnt a + cnt b < cnt d := by
  obtain ⟨c, neg, mag, t, rfl⟩ := stepD_some h
  simp only [cnt, cntL]; omega
theorem stepD_fine {d a b : Dat} (h : stepD d = some (a, b)) (hf : fine d) : fine a ∧ fine b := by
  obtain ⟨c, neg, mag, t, rfl⟩ := stepD_some h
  exact ⟨hf.sub (by simp), hf.sub (by simp)⟩

/-- The items of a chain of pairs, and its end. -/
def itemsA (d : Dat) : List Dat × Dat := match h : stepD d with
  | some (a, b) => (a :: (itemsA b).1, (itemsA b).2)
  | none => ([], d)
termination_by cnt d
decreasing_by all_goals (have := stepD_cnt h; omega)
theorem itemsA_some {d a b : Dat} (h : stepD d = some (a, b)) : itemsA d = (a :: (itemsA b).1, (itemsA b).2) := by
  rw [itemsA]
  split
  · rename_i a' b' h'
    rw [h] at h'
    cases h'
    rfl
  · rename_i h'
    rw [h] at h'; cases h'
theorem itemsA_none {d : Dat} (h : stepD d = none) : itemsA d = ([], d) := by
  rw [itemsA]
  split
  · rename_i a' b' h'
    rw [h] at h'; cases h'
  · rfl
/-- The items of a list. -/
def itemsD (d : Dat) : Option (List Dat) := if (itemsA d).2.kind = 0 then some (itemsA d).1 else none
def tailN : Nat → Dat → Dat
  | 0, d => d
  | j + 1, d => match stepD d with
    | some (_, b) => tailN j b
    | none => d
theorem items_spec : ∀ (n : Nat) (d : Dat), cnt d ≤ n → (∀ (j : Nat) (h : j < (itemsA d).1.length), stepD (tailN j d) = some ((itemsA d).1[j], tailN (j + 1) d)) ∧ tailN (itemsA d).1.length d = (itemsA d).2 ∧ stepD (itemsA d).2 = none ∧ (itemsA d).1.length < cnt d
  | 0, d, h => absurd h (by have := cnt_pos d; omega)
  | n + 1, d, hn => by
    cases h : stepD d with
    | none =>
      rw [itemsA_none h]
      exact ⟨fun j hj => by simp at hj, rfl, h, cnt_pos d⟩
    | some p =>
      obtain ⟨a, b⟩ := p
      have hc := stepD_cnt h
      obtain ⟨h1, h2, h3, h4⟩ := items_spec n b (by omega)
      rw [itemsA_some h]
      refine ⟨fun j hj => ?_, ?_, h3, ?_⟩
      · cases j with
        | zero => simp [tailN, h]
        | succ j =>
          have := h1 j (by simpa using hj)
          simpa [tailN, h] using this
      · simpa [tailN, h] using h2
      · simp only [List.length_cons]
        have := cnt_pos a
        omega
theorem tailN_fine : ∀ (j : Nat) (d : Dat), fine d → fine (tailN j d)
  | 0, d, h => h
  | j + 1, d, h => by
    simp only [tailN]
    cases hs : stepD d with
    | none => exact h
    | some p => exact tailN_fine j p.2 (stepD_fine (a := p.1) (b := p.2) hs h).2

/-- Pairs, one behind the other. -/
def nilD : Dat := .mk 0 0 false [] ⟨#[]⟩ []
def listE (l : List Dat) (e : Dat) : Dat := match l with
  | [] => e
  | x :: r => .mk 7 0 false [] ⟨#[]⟩ [x, listE r e]
def listD (l : List Dat) : Dat := listE l nilD
def consD (a d : Dat) : Dat := .mk 7 0 false [] ⟨#[]⟩ [a, d]
theorem listE_drop {l : List Dat} {i : Nat} (h : i < l.length) (e : Dat) : listE (l.drop i) e = consD l[i] (listE (l.drop (i + 1)) e) := by
  rw [List.drop_eq_getElem_cons h]; rfl
theorem itemsA_list (l : List Dat) (e : Dat) (he : stepD e = none) : itemsA (listE l e) = (l, e) := by
  induction l with
  | nil => exact itemsA_none he
  | cons x r ih =>
    rw [itemsA_some (a := x) (b := listE r e) (by simp [listE, stepD]), ih]
theorem itemsD_list (l : List Dat) : itemsD (listD l) = some l := by
  rw [itemsD, listD, itemsA_list l nilD rfl]; rfl
theorem cntL_rev (l : List Dat) : ∀ e, cnt (listE l e) = cntL l + l.length + cnt e := by
  induction l with
  | nil => intro e; simp [listE, cntL]
  | cons x r ih => intro e; simp only [listE, cnt, cntL, ih, List.length_cons]; omega
/-- A datum in a variable. -/
def boxD (d : Dat) : SObj := .box [.av (.v (.int .i64 d.kind)), .av (.v (.int .i32 d.c)), .av (.v (.bool d.neg)), .av (.sl (encU d.mag)), .av (.v (.string d.t)), .av (.sl (encL d.l))]
end Go.Sy

/- Which data may be, apart from any program. -/
set_option linter.unusedVariables false
namespace Go.Sy

/-- A datum with what its kind has alone. -/
def bareD : Dat → Dat
  | .mk k c neg mag t l => .mk k (if k = 3 then c else 0) (if k = 4 then neg else false) (if k = 4 then mag else []) (if k = 5 ∨ k = 6 then t else ⟨#[]⟩) (if k = 7 ∨ k = 8 then l else [])
def charOK (c : Int) : Bool := decide (0 ≤ c) && (decide (c ≤ 1114111) && (decide (c < 55296) || decide (57343 < c)))
def trimL (m : List Int) : List Int := (m.reverse.dropWhile (· == 0)).reverse
def numOK (neg : Bool) (mag : List Int) : Bool := decide (mag.length ≤ 48) && (decide ((trimL mag).length = mag.length) && (!neg || decide (0 < mag.length)))
def textOK (t : ByteArray) (least : Int) : Bool := Lib.validD t.data.toList && (decide (least ≤ (Lib.runeCount t : Int)) && decide ((Lib.runeCount t : Int) ≤ 62))
mutual
/-- May a datum be, but for its depth? -/
def plainD : Dat → Bool
  | .mk k c neg mag t l => decide (0 ≤ k) && (decide (k ≤ 10) && (flatD (.mk k c neg mag t l) (bareD (.mk k c neg mag t l)) &&
      (if k = 3 then charOK c else if k = 4 then numOK neg mag else if k = 6 then textOK t 1 else if k = 5 then textOK t 0 else
       if k = 7 then decide (l.length = 2) && plainL l else if k = 8 then decide (l.length ≤ 62) && plainL l else true)))
def plainL : List Dat → Bool
  | [] => true
  | d :: r => plainD d && plainL r
end
theorem plainL_all : ∀ l : List Dat, plainL l = l.all plainD
  | [] => rfl
  | d :: r => by simp [plainL, plainL_all r]
def mayD (d : Dat) : Bool := plainD d && decide (depthD d ≤ 64)
theorem bareD_fine {d : Dat} (h : fine d) : fine (bareD d) := by
  obtain ⟨k, c, neg, mag, t, l⟩ := d
  obtain ⟨h1, h2, h3, h4⟩ := h
  have e : ∀ (P : Prop) [Decidable P] (a b : List Dat), cntL a ≤ cntL l → cntL b ≤ cntL l → cntL (if P then a else b) ≤ cntL l := by intro P _ a b ha hb; split <;> assumption
  have e0 : ∀ (P : Prop) [Decidable P] (a b : List Dat), fineL a → fineL b → fineL (if P then a else b) := by intro P _ a b ha hb; split <;> assumption
  have e1 : ∀ (P : Prop) [Decidable P] (a b : List Int), a.length < 1099511627776 → b.length < 1099511627776 → (if P then a else b).length < 1099511627776 := by intro P _ a b ha hb; split <;> assumption
  have e2 : ∀ (P : Prop) [Decidable P] (a b : ByteArray), a.size < 1099511627776 → b.size < 1099511627776 → (if P then a else b).size < 1099511627776 := by intro P _ a b ha hb; split <;> assumption
  simp only [cnt] at h1
  refine ⟨?_, e1 _ _ _ h2 (by simp), e2 _ _ _ h3 (by show (0 : Nat) < _; omega), e0 _ _ _ h4 trivial⟩
  show 1 + cntL _ < _
  have := e (k = 7 ∨ k = 8) l [] (Nat.le_refl _) (by simp [cntL])
  omega
theorem trimL_snoc (m : List Int) (x : Int) : trimL (m ++ [x]) = if x = 0 then trimL m else m ++ [x] := by
  simp only [trimL, List.reverse_append, List.reverse_cons, List.reverse_nil, List.nil_append, List.singleton_append, List.dropWhile_cons]
  by_cases h : x = 0
  · simp [h]
  · simp [h]
theorem trimL_le (m : List Int) : (trimL m).length ≤ m.length := by
  simp only [trimL, List.length_reverse]
  exact Nat.le_trans (List.dropWhile_sublist _).length_le (by simp)
end Go.Sy
namespace Go.Sy
/-- The first index at which p holds; -1. -/
def idxFrom {α : Type} (p : α → Bool) : List α → Nat → Int
  | [], _ => -1
  | x :: r, i => if p x then (i : Int) else idxFrom p r (i + 1)
theorem idxFrom_any {α : Type} (p : α → Bool) : ∀ (l : List α) (i : Nat), decide (idxFrom p l i ≥ 0) = l.any p
  | [], i => by simp [idxFrom]
  | x :: r, i => by
    have ih := idxFrom_any p r (i + 1)
    by_cases h : p x = true
    · simp [idxFrom, h]
    · simp only [Bool.not_eq_true] at h
      simp [idxFrom, h, ← ih]
theorem idxFrom_drop {α : Type} (p : α → Bool) {l : List α} {j : Nat} (h : j < l.length) (hp : p l[j] = false) : idxFrom p (l.drop j) j = idxFrom p (l.drop (j + 1)) (j + 1) := by
  rw [List.drop_eq_getElem_cons h]; simp [idxFrom, hp]
theorem idxFrom_hit {α : Type} (p : α → Bool) {l : List α} {j : Nat} (h : j < l.length) (hp : p l[j] = true) : idxFrom p (l.drop j) j = j := by
  rw [List.drop_eq_getElem_cons h]; simp [idxFrom, hp]
theorem encU_take (l : List Int) (n : Nat) : encU (l.take n) = (encU l).take n := by simp [encU]
theorem trim_step {m : List Int} {j : Nat} (h : j < m.length) (hI : trimL (m.take (m.length - j)) = trimL m) (hz : m[m.length - 1 - j] = 0) : trimL (m.take (m.length - (j + 1))) = trimL m := by
  have e : m.length - j = (m.length - 1 - j) + 1 := by omega
  rw [e, List.take_succ_eq_append_getElem (by omega), trimL_snoc, if_pos hz] at hI
  rw [← hI]; congr 2; omega
theorem trim_stop {m : List Int} {j : Nat} (h : j < m.length) (hI : trimL (m.take (m.length - j)) = trimL m) (hz : m[m.length - 1 - j] ≠ 0) : m.take (m.length - j) = trimL m := by
  have e : m.length - j = (m.length - 1 - j) + 1 := by omega
  rw [e, List.take_succ_eq_append_getElem (by omega), trimL_snoc, if_neg hz] at hI
  rw [← hI, e, List.take_succ_eq_append_getElem (by omega)]
end Go.Sy
namespace Go.Sy
def restD (k c : Int) (neg : Bool) (mag : List Int) (t : ByteArray) (l : List Dat) : Bool :=
  if k = 3 then charOK c else if k = 4 then numOK neg mag else if k = 6 then textOK t 1 else if k = 5 then textOK t 0 else
       if k = 7 then decide (l.length = 2) && plainL l else if k = 8 then decide (l.length ≤ 62) && plainL l else true
theorem plainD_eq (k c : Int) (neg : Bool) (mag : List Int) (t : ByteArray) (l : List Dat) : plainD (.mk k c neg mag t l) = (decide (0 ≤ k) && (decide (k ≤ 10) && (flatD (.mk k c neg mag t l) (bareD (.mk k c neg mag t l)) && restD k c neg mag t l))) := by
  rw [plainD]; rfl
end Go.Sy
namespace Go.Sy
def errBig : Int := 6
/-- A number of a sign and limbs; the error. -/
def madeN (neg : Bool) (m : List Int) : Bool × List Int × Int := if 48 < (trimL m).length then (false, [], 6) else (neg && decide (0 < (trimL m).length), trimL m, 0)
def abs64 (n : Int) : Int := if n < 0 then IntKind.u64.wrap (0 - IntKind.u64.wrap n) else IntKind.u64.wrap n
def ofN (n : Int) : Bool × List Int := ((madeN (decide (n < 0)) [IntKind.u32.wrap (abs64 n), IntKind.u32.wrap ((abs64 n).fdiv (2 ^ min 32 64))]).1, (madeN (decide (n < 0)) [IntKind.u32.wrap (abs64 n), IntKind.u32.wrap ((abs64 n).fdiv (2 ^ min 32 64))]).2.1)
def intD (n : Int) : Dat := .mk 4 0 (ofN n).1 (ofN n).2 ⟨#[]⟩ []
def strD (s : ByteArray) : Dat := .mk 5 0 false [] s []
def symD (s : ByteArray) : Dat := .mk 6 0 false [] s []
def cost (dv : Bool) (n : Nat) : Int := if dv then ((n / 16 : Nat) : Int) else 0
mutual
/-- What is left of so much, behind a datum. -/
def weighD (bt bm : Nat) (dv : Bool) : Dat → Int → Int
  | .mk _ _ _ mag t l, left => if bt < t.size ∨ bm < mag.length then -1 else weighL bt bm dv l (left - 1 - cost dv t.size - cost dv mag.length)
def weighL (bt bm : Nat) (dv : Bool) : List Dat → Int → Int
  | [], left => left
  | d :: r, left => if 0 ≤ left then weighL bt bm dv r (weighD bt bm dv d left) else left
end
theorem cost_nonneg (dv : Bool) (n : Nat) : 0 ≤ cost dv n := by unfold cost; split <;> omega
theorem weighL_neg (bt bm : Nat) (dv : Bool) (l : List Dat) {x : Int} (h : x < 0) : weighL bt bm dv l x = x := by
  cases l with
  | nil => rfl
  | cons d r => simp only [weighL]; rw [if_neg (by omega)]
theorem weighL_append (bt bm : Nat) (dv : Bool) : ∀ (a b : List Dat) (x : Int), weighL bt bm dv (a ++ b) x = weighL bt bm dv b (weighL bt bm dv a x)
  | [], b, x => rfl
  | d :: a, b, x => by
    simp only [List.cons_append, weighL]
    split
    · exact weighL_append bt bm dv a b _
    · rw [weighL_neg bt bm dv b (by omega)]
mutual
theorem weighD_le (bt bm : Nat) (dv : Bool) : ∀ (d : Dat) (x : Int), weighD bt bm dv d x = -1 ∨ weighD bt bm dv d x + cnt d ≤ x ∨ weighD bt bm dv d x < 0
  | .mk _ _ _ mag t l, x => by
    simp only [weighD, cnt]
    split
    · exact .inl rfl
    · have h1 := cost_nonneg dv t.size
      have h2 := cost_nonneg dv mag.length
      rcases weighL_le bt bm dv l (x - 1 - cost dv t.size - cost dv mag.length) with h | h
      · right; left; omega
      · exact .inr (.inr h)
theorem weighL_le (bt bm : Nat) (dv : Bool) : ∀ (l : List Dat) (x : Int), weighL bt bm dv l x + cntL l ≤ x ∨ weighL bt bm dv l x < 0
  | [], x => by simp [weighL, cntL]
  | d :: r, x => by
    simp only [weighL, cntL]
    split
    · rcases weighD_le bt bm dv d x with h | h | h
      · right; rw [h, weighL_neg bt bm dv r (by omega)]; omega
      · rcases weighL_le bt bm dv r (weighD bt bm dv d x) with h2 | h2
        · left; omega
        · exact .inr h2
      · right; rw [weighL_neg bt bm dv r h]; exact h
    · right; omega
end
mutual
theorem weighD_fine (bt bm : Nat) (dv : Bool) (h1 : bt < 1099511627776) (h2 : bm < 1099511627776) : ∀ (d : Dat) (x : Int), 0 ≤ weighD bt bm dv d x → fineD d
  | .mk _ _ _ mag t l, x, h => by
    simp only [weighD] at h
    split at h
    · omega
    · exact ⟨by omega, by omega, weighL_fine bt bm dv h1 h2 l _ h⟩
theorem weighL_fine (bt bm : Nat) (dv : Bool) (h1 : bt < 1099511627776) (h2 : bm < 1099511627776) : ∀ (l : List Dat) (x : Int), 0 ≤ weighL bt bm dv l x → fineL l
  | [], x, h => trivial
  | d :: r, x, h => by
    simp only [weighL] at h
    split at h
    · refine ⟨weighD_fine bt bm dv h1 h2 d x ?_, weighL_fine bt bm dv h1 h2 r _ h⟩
      rcases Int.lt_or_le (weighD bt bm dv d x) 0 with h3 | h3
      · rw [weighL_neg bt bm dv r h3] at h; omega
      · exact h3
    · omega
end
/-- What isn't heavy is fine. -/
theorem weigh_fine {bt bm : Nat} {dv : Bool} (h1 : bt < 1099511627776) (h2 : bm < 1099511627776) {d : Dat} {x : Int} (hx : x < 1099511627776) (h : 0 ≤ weighD bt bm dv d x) : fine d := by
  refine ⟨?_, weighD_fine bt bm dv h1 h2 d x h⟩
  rcases weighD_le bt bm dv d x with h3 | h3 | h3 <;> omega
end Go.Sy

/- Contracts that come from elsewhere: a call that computes a plain value. -/
set_option linter.unusedVariables false
namespace Go.Sy
open Go.RowKit
theorem Sound.of_calls {C : Ctx} {f : FuncId} {args : List AV} {v : Value} (hc : Go.Sy.callee C.P f = true)
    (h : ∀ w vs, (∀ m, Cons m w → True) → Below C.W0.heap.size C.W0 w → (∃ m, Cons m w ∧ RepA C.κ m args vs) → Calls C.P f vs.toArray w fun e w' => e = .returned v ∧ Below w.heap.size w w') : Sound C f args [.av (.v v)] := by
  refine ⟨hc, fun m w vs h1 h2 h3 hA => (h w vs (fun _ _ => trivial) h3 ⟨m, h1, hA⟩).mono fun e w' he => ?_⟩
  obtain ⟨rfl, hb⟩ := he
  refine ⟨⟨v, m, rfl, MLe.refl m, fun _ _ => rfl, fun b o u hu => ?_, hb, ?_⟩⟩
  · have hlt := h1.lt hu
    rw [hb.cell (p := ⟨b, o, none⟩) hlt]
    exact h1 b o u hu
  · show RepV C.κ m (.v v) v
    simp only [RepV]
/-- Of one string. -/
theorem Sound.of_string {C : Ctx} {f : FuncId} {s : ByteArray} {v : Value} (hc : Go.Sy.callee C.P f = true)
    (h : ∀ w, Below C.W0.heap.size C.W0 w → Calls C.P f #[.string s] w fun e w' => e = .returned v ∧ Below w.heap.size w w') : Sound C f [.v (.string s)] [.av (.v v)] := by
  refine Sound.of_calls hc fun w vs _ hW hA => ?_
  obtain ⟨m, _, u, us, rfl, hu, rfl⟩ := hA
  simp only [RepV] at hu
  subst hu
  exact h w hW
end Go.Sy

/- What can be read, as abstract values. -/
set_option linter.unusedVariables false
namespace Go.Sy
open Go.RowKit

def packV (agg : Bool) (cs : List AV) : AV := bif agg then .agg cs else cs.headD dflt

/-- Cells of a type, as values. -/
def HasV (P : Program) : Nat → TypeId → List AV → Prop
  | 0, _, _ => False
  | n + 1, t, as => match P.underlying t with
    | some .bool => ∃ b, as = [.v (.bool b)]
    | some (.int k) => ∃ z, as = [.v (.int k z)] ∧ (Lit.int k z).wf = true
    | some .string => ∃ s : ByteArray, as = [.v (.string s)] ∧ s.size ≤ maxLen
    | some (.slice e) => ∃ xs : List (List AV), as = [.sl (xs.map (packV (aggB P e)))] ∧ xs.length ≤ maxLen ∧ ∀ x ∈ xs, HasV P n e x
    | some (.struct fs) => as.length = P.cellsOf t ∧ ∀ f ∈ fs.toList, HasV P n f.type ((as.drop f.offset).take (P.cellsOf f.type))
    | _ => False

def tileB (P : Program) : List Field → Nat → Nat → Bool
  | [], o, e => o == e
  | f :: r, o, e => f.offset == o && tileB P r (o + P.cellsOf f.type) e
def okTys (P : Program) (L : List TypeId) : Bool := L.all fun t => match P.underlying t with
  | some .bool | some (.int _) | some .string => true
  | some (.slice e) => L.contains e && decide (0 < P.cellsOf e) && (aggB P e || decide (P.cellsOf e = 1))
  | some (.struct fs) => (fs.toList.all fun f => L.contains f.type) && tileB P fs.toList 0 (P.cellsOf t)
  | _ => false

section
variable {P : Program} {κ : Nat → Addr} {m : Mem} {n : Nat} {cs : List Value}

theorem RepL.append : ∀ {xs ys : List AV} {us vs : List Value}, RepL κ m xs us → RepL κ m ys vs → RepL κ m (xs ++ ys) (us ++ vs)
  | [], ys, us, vs, h, k => by simp only [RepL] at h; subst h; exact k
  | x :: xs, ys, us, vs, h, k => by
    simp only [RepL] at h
    obtain ⟨u, us', rfl, h1, h2, h3⟩ := h
    simp only [List.cons_append, RepL]
    exact ⟨u, us' ++ vs, rfl, h1, h2, h3.append k⟩

theorem tile_build : ∀ {fs : List Field} {o e : Nat}, tileB P fs o e = true → e ≤ cs.length → (∀ f ∈ fs, ∃ a, HasV P n f.type a ∧ RepL κ m a ((cs.drop f.offset).take (P.cellsOf f.type))) →
    o ≤ e ∧ ∃ as, RepL κ m as ((cs.drop o).take (e - o)) ∧ ∀ f ∈ fs, o ≤ f.offset ∧ HasV P n f.type ((as.drop (f.offset - o)).take (P.cellsOf f.type))
  | [], o, e, ht, hl, h => by
    have : o = e := by simpa [tileB] using ht
    subst this
    exact ⟨Nat.le_refl _, [], by simp [RepL], by simp⟩
  | f :: fs, o, e, ht, hl, h => by
    simp only [tileB, Bool.and_eq_true, beq_iff_eq] at ht
    obtain ⟨rfl, ht⟩ := ht
    obtain ⟨h1, as, h2, h3⟩ := tile_build ht hl fun g hg => h g (List.mem_cons_of_mem _ hg)
    obtain ⟨a, h4, h5⟩ := h f (by simp)
    have hal : a.length = P.cellsOf f.type := by
      have := h5.length
      rw [List.length_take, List.length_drop] at this
      omega
    refine ⟨by omega, a ++ as, ?_, fun g hg => ?_⟩
    · have e1 : e - f.offset = P.cellsOf f.type + (e - (f.offset + P.cellsOf f.type)) := by omega
      rw [e1, List.take_add, List.drop_drop]
      exact h5.append h2
    · rcases List.mem_cons.1 hg with rfl | hg
      · refine ⟨Nat.le_refl _, ?_⟩
        rw [Nat.sub_self, List.drop_zero, ← hal, List.take_left']
        · exact h4
        · rfl
      · obtain ⟨k1, k2⟩ := h3 g hg
        refine ⟨by omega, ?_⟩
        have e2 : g.offset - f.offset = a.length + (g.offset - (f.offset + P.cellsOf f.type)) := by omega
        rw [e2, ← List.drop_drop, List.drop_left]
        exact k2

theorem addr_add2 {a : Addr} (h : a.spot = none) (i j : Nat) : (a.add i).add j = ⟨a.block, a.off + i + j, none⟩ := by
  obtain ⟨b, o, sp⟩ := a
  simp only at h
  subst h
  rw [addr_add, addr_add]
theorem cells_get {w : World} {a : Addr} {k : Nat} {ci : List Value} (h : w.cells? 0 a k = some ci) : ci.length = k ∧ ∀ (j : Nat) u, ci[j]? = some u → w.cell? (a.add j) = some u := by
  unfold World.cells? at h
  rw [if_pos (Nat.zero_le _)] at h
  have hl := mapM_some_length h
  rw [List.length_range] at hl
  refine ⟨hl, fun j u hj => ?_⟩
  have hlt : j < k := by rw [← hl]; exact (List.getElem?_eq_some_iff.1 hj).1
  have := mapM_some_get h j j (List.getElem?_range hlt)
  rw [this, hj]
theorem spot_none {w : World} {a : Addr} {u : Value} (h : w.cell? a = some u) : a.spot = none := by
  unfold World.cell? at h
  split at h
  · cases hs : a.spot with
    | none => rfl
    | some x => rw [hs] at h; simp at h
  · cases h
theorem one_cells {u : Value} (h : u.oneCell' = true) : u.cells = #[u] := by cases u <;> first | rfl | simp [Value.oneCell'] at h

theorem trod_has {H : Type} {enc : TypeId × Value → H} {w : World} {spare : Nat → Bool} {held : Bool} {L : List TypeId} (hL : okTys P L = true) :
    ∀ (fuel : Nat) (t : TypeId) (cs : List Value) (x : DataW H × List MemPlace), t ∈ L → DataW.trod enc P w 0 spare held fuel t cs = some x → ∃ as, HasV P fuel t as ∧ RepL κ (memOf w) as cs
  | 0, t, cs, x, _, h => by simp [DataW.trod] at h
  | n + 1, t, cs, x, ht, h => by
    have hok := List.all_eq_true.1 hL t ht
    cases hu : P.underlying t with
    | none => rw [hu] at hok; cases hok
    | some d =>
      rw [hu] at hok
      cases d with
      | bool =>
        obtain ⟨b, rfl, _⟩ := DataW.trod_bool hu h
        refine ⟨[.v (.bool b)], by simp only [HasV, hu]; exact ⟨b, rfl⟩, ?_⟩
        simp only [RepL, RepV]
        exact ⟨_, _, rfl, rfl, rfl, rfl⟩
      | int k =>
        obtain ⟨z, rfl, _, hw⟩ := DataW.trod_int hu h
        refine ⟨[.v (.int k z)], by simp only [HasV, hu]; exact ⟨z, rfl, hw⟩, ?_⟩
        simp only [RepL, RepV]
        exact ⟨_, _, rfl, rfl, rfl, rfl⟩
      | string =>
        obtain ⟨s, rfl, _, hs⟩ := DataW.trod_string hu h
        refine ⟨[.v (.string s)], by simp only [HasV, hu]; exact ⟨s, rfl, hs⟩, ?_⟩
        simp only [RepL, RepV]
        exact ⟨_, _, rfl, rfl, rfl, rfl⟩
      | slice e =>
        simp only [Bool.and_eq_true, decide_eq_true_eq, Bool.or_eq_true, List.contains_eq_mem] at hok
        obtain ⟨⟨he, hpos⟩, hag⟩ := hok
        rcases DataW.trod_slice hu h with ⟨rfl, _⟩ | ⟨a, len, cap, elems, rest, n', hn, rfl, _, _, hlc, hcm, hel, hes, _⟩
        · refine ⟨[.sl []], by simp only [HasV, hu]; exact ⟨[], rfl, Nat.zero_le _, by simp⟩, ?_⟩
          simp only [RepL, RepV, RepE]
          exact ⟨_, _, rfl, rfl, ⟨none, 0, rfl, Nat.le_refl _, 0, 0, 0, .inl trivial, trivial⟩, rfl⟩
        · obtain rfl : n' = n := by omega
          have hex : ∀ i, ∃ p : List AV × List Value, i < len → HasV P n' e p.1 ∧ RepL κ (memOf w) p.1 p.2 ∧ w.cells? 0 (a.add (i * P.cellsOf e)) (P.cellsOf e) = some p.2 := by
            intro i
            by_cases hi : i < len
            · have h1 := hes i hi
              rw [List.getElem?_eq_getElem (by omega)] at h1
              obtain ⟨ci, h2, h3⟩ := Option.bind_eq_some_iff.1 h1
              obtain ⟨as, h4, h5⟩ := trod_has hL n' e ci _ he h3
              exact ⟨(as, ci), fun _ => ⟨h4, h5, h2⟩⟩
            · exact ⟨([], []), fun h => absurd h hi⟩
          obtain ⟨f, hf⟩ := Classical.axiomOfChoice hex
          have hlen : (((List.range len).map fun i => (f i).1).map (packV (aggB P e))).length = len := by simp
          have hspot : 0 < len → a.spot = none := by
            intro h0
            obtain ⟨_, _, h3⟩ := hf 0 h0
            obtain ⟨h4, h5⟩ := cells_get h3
            have := spot_none (h5 0 _ (List.getElem?_eq_getElem (by omega)))
            simpa [Addr.add] using this
          refine ⟨[.sl (((List.range len).map fun i => (f i).1).map (packV (aggB P e)))], ?_, ?_⟩
          · simp only [HasV, hu]
            refine ⟨_, rfl, by simp; omega, fun x hx => ?_⟩
            obtain ⟨i, hi, rfl⟩ := List.mem_map.1 hx
            exact (hf i (List.mem_range.1 hi)).1
          · simp only [RepL]
            refine ⟨_, _, rfl, rfl, ?_, rfl⟩
            simp only [RepV]
            rw [hlen]
            refine ⟨some a, cap, rfl, hlc, P.cellsOf e, a.block, a.off, ?_, ?_⟩
            · by_cases h0 : 0 < len
              · right
                have := hspot h0
                cases a; simp_all
              · left
                have : len = 0 := by omega
                subst this
                rfl
            · refine RepE.mk fun j x hj => ?_
              rw [List.getElem?_map, List.getElem?_map] at hj
              by_cases hi : j < len
              · rw [List.getElem?_range hi] at hj
                simp only [Option.map_some, Option.some.injEq] at hj
                subst hj
                obtain ⟨h1, h2, h3⟩ := hf j hi
                obtain ⟨h4, h5⟩ := cells_get h3
                have hsp := hspot (by omega)
                have hce : ∀ (k : Nat) u, (f j).2[k]? = some u → memOf w a.block (a.off + j * P.cellsOf e + k) = some u := by
                  intro k u hk
                  have := h5 k u hk
                  rw [addr_add2 hsp] at this
                  exact this
                cases hagg : aggB P e with
                | true =>
                  refine ⟨.agg (f j).2.toArray, ?_, by simp [Value.cells, h4], by simpa [Value.cells] using h2.one, fun k u hk => hce k u (by simpa [Value.cells] using hk)⟩
                  simp only [packV, cond_true, RepV]
                  exact ⟨_, rfl, h2⟩
                | false =>
                  have h1c : P.cellsOf e = 1 := by rcases hag with h | h; rw [hagg] at h; cases h; exact h
                  have hl2 := h2.length
                  rw [h4, h1c] at hl2
                  match hfa : (f j).1, hl2 with
                  | [y], _ =>
                    rw [hfa] at h2
                    simp only [RepL] at h2
                    obtain ⟨u, us, hu2, ho, hv, rfl⟩ := h2
                    refine ⟨u, by simpa [packV] using hv, by rw [one_cells ho, h1c]; rfl, by rw [one_cells ho]; simpa using ho, fun k v hk => hce k v ?_⟩
                    rw [one_cells ho] at hk
                    rw [hu2]
                    simpa using hk
              · rw [List.getElem?_eq_none (by simp; omega)] at hj
                cases hj
      | struct fs =>
        simp only [Bool.and_eq_true] at hok
        obtain ⟨hfs, htile⟩ := hok
        obtain ⟨xs, n', hn, _, hlen, hxs, hf⟩ := DataW.trod_struct hu h
        obtain rfl : n' = n := by omega
        obtain ⟨_, as, h1, h2⟩ := tile_build (cs := cs) (n := n') (κ := κ) (m := memOf w) htile (by omega) fun f hfm => by
          obtain ⟨i, hi⟩ := List.mem_iff_getElem?.1 hfm
          have h3 := hf i f (by simpa using hi)
          have hil : i < fs.size := by
            have := (List.getElem?_eq_some_iff.1 hi).1
            simpa using this
          rw [List.getElem?_eq_getElem (by omega)] at h3
          exact trod_has hL n' f.type _ _ (by simpa using List.all_eq_true.1 hfs f hfm) h3
        simp only [List.drop_zero, Nat.sub_zero] at h1 h2
        rw [List.take_of_length_le (by omega)] at h1
        refine ⟨as, ?_, h1⟩
        simp only [HasV, hu]
        exact ⟨by rw [← h1.length]; exact hlen, fun f hf => (h2 f hf).2⟩
      | _ => cases hok

theorem HasV.bool {t : TypeId} {as : List AV} (hu : P.underlying t = some .bool) (h : HasV P n t as) : ∃ b, as = [.v (.bool b)] := by
  cases n with
  | zero => exact h.elim
  | succ n => simpa only [HasV, hu] using h
theorem HasV.int {k : IntKind} {t : TypeId} {as : List AV} (hu : P.underlying t = some (.int k)) (h : HasV P n t as) : ∃ z, as = [.v (.int k z)] ∧ (Lit.int k z).wf = true := by
  cases n with
  | zero => exact h.elim
  | succ n => simpa only [HasV, hu] using h
theorem HasV.string {t : TypeId} {as : List AV} (hu : P.underlying t = some .string) (h : HasV P n t as) : ∃ s : ByteArray, as = [.v (.string s)] ∧ s.size ≤ maxLen := by
  cases n with
  | zero => exact h.elim
  | succ n => simpa only [HasV, hu] using h
theorem HasV.slice {e t : TypeId} {as : List AV} (hu : P.underlying t = some (.slice e)) (h : HasV P n t as) :
    ∃ n', n = n' + 1 ∧ ∃ xs : List (List AV), as = [.sl (xs.map (packV (aggB P e)))] ∧ xs.length ≤ maxLen ∧ ∀ x ∈ xs, HasV P n' e x := by
  cases n with
  | zero => exact h.elim
  | succ n => exact ⟨n, rfl, by simpa only [HasV, hu] using h⟩
theorem HasV.struct {fs : Array Field} {t : TypeId} {as : List AV} (hu : P.underlying t = some (.struct fs)) (h : HasV P n t as) :
    ∃ n', n = n' + 1 ∧ as.length = P.cellsOf t ∧ ∀ f ∈ fs.toList, HasV P n' f.type ((as.drop f.offset).take (P.cellsOf f.type)) := by
  cases n with
  | zero => exact h.elim
  | succ n => exact ⟨n, rfl, by simpa only [HasV, hu] using h⟩

/-- A list of ints of one kind. -/
theorem HasV.ints {k : IntKind} {e t : TypeId} {as : List AV} (hu : P.underlying t = some (.slice e)) (he : P.underlying e = some (.int k)) (h : HasV P n t as) :
    ∃ zs : List Int, as = [.sl (zs.map fun z => .v (.int k z))] ∧ zs.length ≤ maxLen ∧ ∀ z ∈ zs, (Lit.int k z).wf = true := by
  obtain ⟨n', _, xs, rfl, hl, hx⟩ := h.slice hu
  have ha : aggB P e = false := by simp [aggB, he]
  rw [ha]
  clear h
  induction xs with
  | nil => exact ⟨[], rfl, Nat.zero_le _, by simp⟩
  | cons x xs ih =>
    obtain ⟨zs, h1, h2, h3⟩ := ih (by simp at hl; omega) fun y hy => hx y (List.mem_cons_of_mem _ hy)
    obtain ⟨z, h4, h5⟩ := (hx x (by simp)).int he
    subst h4
    simp only [List.cons.injEq, AV.sl.injEq, and_true] at h1
    refine ⟨z :: zs, ?_, ?_, fun y hy => ?_⟩
    · simp only [List.map_cons, h1, packV, cond_false]; rfl
    · have := congrArg List.length h1
      simp at this
      simp at hl ⊢
      omega
    · rcases List.mem_cons.1 hy with rfl | hy
      · exact h5
      · exact h3 y hy
/-- A list of texts. -/
theorem HasV.strings {e t : TypeId} {as : List AV} (hu : P.underlying t = some (.slice e)) (he : P.underlying e = some .string) (h : HasV P n t as) :
    ∃ zs : List ByteArray, as = [.sl (zs.map fun z => .v (.string z))] ∧ zs.length ≤ maxLen ∧ ∀ z ∈ zs, z.size ≤ maxLen := by
  obtain ⟨n', _, xs, rfl, hl, hx⟩ := h.slice hu
  have ha : aggB P e = false := by simp [aggB, he]
  rw [ha]
  clear h
  induction xs with
  | nil => exact ⟨[], rfl, Nat.zero_le _, by simp⟩
  | cons x xs ih =>
    obtain ⟨zs, h1, h2, h3⟩ := ih (by simp at hl; omega) fun y hy => hx y (List.mem_cons_of_mem _ hy)
    obtain ⟨z, h4, h5⟩ := (hx x (by simp)).string he
    subst h4
    simp only [List.cons.injEq, AV.sl.injEq, and_true] at h1
    refine ⟨z :: zs, ?_, ?_, fun y hy => ?_⟩
    · simp only [List.map_cons, h1, packV, cond_false]; rfl
    · have := congrArg List.length h1
      simp at this
      simp at hl ⊢
      omega
    · rcases List.mem_cons.1 hy with rfl | hy
      · exact h5
      · exact h3 y hy

/-- An argument. -/
theorem arg_rep {H : Type} {enc : TypeId × Value → H} {w : World} {spare : Nat → Bool} {held : Bool} {L : List TypeId} (hL : okTys P L = true) {t : TypeId} {v : Value} {base : Nat} {r : Reach} {d : DataW H} {ps : List MemPlace} (ht : t ∈ L)
    (hv : Value.okWide P w r base t v) (h : DataW.Trod enc P w 0 spare held t v d ps) : ∃ n as, HasV P n t as ∧ RepV κ (memOf w) (packV (aggB P t) as) v := by
  obtain ⟨fuel, h⟩ := h
  obtain ⟨as, h1, h2⟩ := trod_has (κ := κ) hL fuel t _ _ ht h
  refine ⟨fuel, as, h1, ?_⟩
  have hok := List.all_eq_true.1 hL t ht
  have one : v.cells = #[v] → aggB P t = false → as.length = 1 → RepV κ (memOf w) (packV (aggB P t) as) v := fun hc ha hl => by
    rw [ha]
    match as, hl, h2 with
    | [y], _, h2 =>
      rw [hc] at h2
      simp only [RepL] at h2
      obtain ⟨u, us, h3, _, h4, rfl⟩ := h2
      simp at h3
      subst h3
      exact h4
  cases hu : P.underlying t with
  | none => rw [hu] at hok; cases hok
  | some d =>
    rw [hu] at hok
    have hv' := hv
    cases d with
    | bool =>
      obtain ⟨b, rfl⟩ := h1.bool hu
      refine one ?_ (by simp [aggB, hu]) rfl
      simp only [Value.okWide, hu, Cell.okWide] at hv'
      cases v <;> first | rfl | simp_all [Cell.ok]
    | int k =>
      obtain ⟨b, rfl, _⟩ := h1.int hu
      refine one ?_ (by simp [aggB, hu]) rfl
      simp only [Value.okWide, hu, Cell.okWide] at hv'
      cases v <;> first | rfl | simp_all [Cell.ok]
    | string =>
      obtain ⟨b, rfl, _⟩ := h1.string hu
      refine one ?_ (by simp [aggB, hu]) rfl
      simp only [Value.okWide, hu, Cell.okWide] at hv'
      cases v <;> first | rfl | simp_all [Cell.ok]
    | slice e =>
      obtain ⟨n', _, xs, rfl, _⟩ := h1.slice hu
      refine one ?_ (by simp [aggB, hu]) rfl
      simp only [Value.okWide, hu, Cell.okWide] at hv'
      cases v <;> first | rfl | simp_all [Cell.ok]
    | struct fs =>
      simp only [Value.okWide, hu] at hv'
      obtain ⟨cs, rfl, _⟩ := hv'
      have ha : aggB P t = true := by simp [aggB, hu]
      rw [ha]
      simp only [packV, cond_true, RepV]
      exact ⟨cs, rfl, h2⟩
    | _ => cases hok
end
end Go.Sy

/- Ranges over functions, part 1: a region within a fence that lets everything in; memory told anew at a round's head. -/
set_option linter.unusedVariables false
namespace Go.Sy
open Go.RowKit

section
variable {C : Ctx} {Ow : Nat → Prop} {m0 m m' : Mem} {γ γ' : Ga} {g g' : Gs} {w0 w W W' : World} {N : Nat} {s s' : St} {a : Act} {κ : Nat → Addr}

/-- What isn't cells is kept. -/
theorem Hp.keeps (h : Hp κ Ow m0 w0 g m γ W) (k : Fr (OwF g m γ W) W W') (B : Nat) : KeepsFrom B W W' := by
  refine ⟨k.size, fun b o _ hb hc => ?_⟩
  rw [k.block b ?_]
  · exact hb
  · rintro (hs | ⟨i, o', ho', hl, hx⟩)
    · have := (Array.getElem?_eq_some_iff.1 hb).1; omega
    · have hR := h.objs i o' ho'
      obtain ⟨h1, h2, h3⟩ := hx
      cases o' with
      | box cs =>
        obtain ⟨b', arr, e, h4, h5, h6, h7, h8⟩ := hR
        rw [h4] at h1
        simp only [blkOf, Option.some.injEq] at h1
        subst h1
        rw [hb] at h7; cases h7; simp [Obj.isCells] at hc
      | row ex e sz xs =>
        rcases hR with ⟨us, b', cap, h4, h5, ⟨_, h6⟩, h7, h8, h9⟩ | ⟨_, a, h4⟩ | ⟨_, h4, h5, b', o, h6, h7⟩
        · rw [h4] at h1
          simp only [blkOf, Option.some.injEq] at h1
          subst h1
          rcases h6 with ⟨h6, _⟩ | ⟨b2, cap2, cur, h6, _, h10, _⟩
          · rw [h4] at h6; cases h6
          · rw [h4] at h6; cases h6
            rw [hb] at h10; cases h10; simp [Obj.isCells] at hc
        · exact absurd h4 (h3 a 0)
        · rw [h6] at h1
          simp only [blkOf, Option.some.injEq] at h1
          subst h1
          cases xs with
          | nil => exact absurd rfl h5
          | cons x xs =>
            simp only [RepE] at h7
            obtain ⟨⟨y, _, h8, _, h9⟩, _⟩ := h7
            have := h9 0 _ (Array.getElem?_eq_getElem (by omega))
            rw [h2] at this; cases this
      | fbox cs => simp [live] at hl
      | frow cs => simp [live] at hl
      | gh x u => simp [live] at hl

/-- Frozen cells are kept where a block that is no cells turns. -/
theorem Cons.grown {row : Option Nat} (h : Cons m W) (hg : W.grownBy W' row) (hr : ∀ r, row = some r → ∃ o : Obj, W.heap[r]? = some o ∧ o.isCells = false) : Cons m W' := fun b o u hu => cell_kept (h b o u hu) hg hr
theorem Hp.grown {row : Option Nat} (h : Hp κ Ow m0 w0 g m γ W) (hg : W.grownBy W' row) (hB : ∀ r, row = some r → w0.heap.size ≤ r) (hr : ∀ r, row = some r → ∃ o : Obj, W.heap[r]? = some o ∧ o.isCells = false) : Hp κ Ow m0 w0 g m γ W' := by
  refine h.step (K := fun _ => False) (MLe.refl m) (fun _ _ => rfl) (h.cons.grown hg hr) (h.frGrown hg fun k hk => h.new k (hB k hk)) (fun i _ => ⟨rfl, rfl⟩) ?_ (fun i o id _ _ _ => Cmp.same rfl rfl) (fun _ _ h => h.elim) (fun _ _ _ _ _ h => h.elim)
  intro i o b _ ho hl hx
  refine ⟨?_, hx.2.1⟩
  have hlt := (h.exc ho hl hx).1
  obtain ⟨ob, hob⟩ : ∃ ob, W.heap[b]? = some ob := ⟨_, Array.getElem?_eq_getElem hlt⟩
  cases hc : ob.isCells with
  | true => exact grownBy_keeps_cells hg hr hob hc
  | false =>
    exfalso
    -- a live object's block is cells
    have hk := h.keeps (W' := W.putObj b (.cells #[] 0)) ⟨rfl, rfl, rfl, by simp, fun b' hb' => World.putObj_heap_other (by rintro rfl; exact hb' (.inr ⟨i, o, ho, hl, hx⟩))⟩ 0
    have h1 := hk.same b ob (Nat.zero_le _) hob hc
    rw [World.putObj_heap_same hlt] at h1
    cases h1
    simp [Obj.isCells] at hc

theorem Rel.grown {row : Option Nat} (h : Rel C Ow m0 w0 N s a W) (hg : W.grownBy W' row) (hB : ∀ r, row = some r → w0.heap.size ≤ r) (hr : ∀ r, row = some r → ∃ o : Obj, W.heap[r]? = some o ∧ o.isCells = false) : Rel C Ow m0 w0 N s a W' := by
  obtain ⟨m, γ, hp, ht⟩ := h.mem
  exact ⟨h.size, h.defers, m, γ, hp.grown hg hB hr, ht⟩
end

/-! ### within a fence -/
section
variable {P : Program} {F : Fence} {n : Nat} {o : Oper} {a : Act} {w : World} {K : Act → World → Prop} {Q : Exit → Act → World → Prop}

structure Wide (F : Fence) : Prop where
  fn : ∀ f, F.fn f
  room : F.depth = none
  calls : ∀ {n P f args w R}, Calls P f args w R → CallsIn F n P f args w R
  steps : ∀ {P m m'}, Steps P m m' → StepsIn (Machine.fenced P F) P m m'

theorem wide_wide : Wide Fence.wide := ⟨fun _ => trivial, rfl, fun h => callsIn_wide.2 h, fun h => stepsIn_wide.2 h⟩
theorem wide_round (l : Nat) : Wide (Fence.wide.inRound l) := ⟨fun _ => trivial, rfl, fun h => CallsIn.inRound l (callsIn_wide.2 h), fun h => by rw [fenced_inRound]; exact stepsIn_wide.2 h⟩

theorem Wide.oper (hF : Wide F) (hd : ∀ c, o.op ≠ .defer c) (h : o.wp P a w K Q) : o.wpIn F n P a w K Q := by
  refine ⟨fun f _ => hF.fn f, ?_⟩
  rw [Oper.semAt_plain F _ _ hd]
  unfold Oper.wp at h
  generalize (execOp a.eval o).run P w = r at *
  cases r with
  | ok x w' =>
    cases x <;> simp only [Oper.upon] at h <;> simp only [Oper.uponIn]
    case value => exact h
    case skip => exact h
    case defer => exact h
    case enter f args => exact ⟨by simp [hF.room], hF.calls h⟩
    case row row args =>
      refine ⟨by simp [hF.room], fun c cs _ => ?_⟩
      obtain ⟨v, w'', h1, h2⟩ := h c cs
      exact ⟨v, w'', h1, hF.steps h2⟩
  | halt x w' => cases x <;> simp only [Oper.upon] at h <;> simp only [Oper.uponIn] <;> exact h

def noDefer (ops : Array Oper) : Bool := ops.toList.all fun o => match o.op with | .defer _ => false | _ => true
theorem noDefer_spec {ops : Array Oper} (h : noDefer ops = true) {i : Nat} {o : Oper} (hi : ops[i]? = some o) : ∀ c, o.op ≠ .defer c := by
  intro c hc
  have := List.all_eq_true.1 h o (by rw [Array.mem_toList_iff]; exact Array.mem_of_getElem? hi)
  simp [hc] at this

theorem Wide.opIn (hF : Wide F) {ops : Array Oper} (hd : noDefer ops = true) (hQ : ¬ LetsOut Q) {i : Nat} (h : wpOp P ops Q i K a w) : wpOpIn F n P ops Q i K a w := by
  unfold wpOp at h
  unfold wpOpIn
  split
  · rename_i ho; simpa [ho] using h
  · rename_i o ho
    simp only [ho] at h
    split
    · rename_i hw
      simp only [hw, if_true] at h
      rcases h with h | h
      · exact hF.oper (noDefer_spec hd ho) h
      · exact absurd h.2 hQ
    · rename_i hw
      simp only [hw] at h
      exact ⟨fun f _ => hF.fn f, h⟩
theorem Wide.opsIn (hF : Wide F) {ops : Array Oper} (hd : noDefer ops = true) (hQ : ¬ LetsOut Q) : ∀ {l : List Nat} {a : Act} {w : World}, wpOps P ops Q l a w → wpOpsIn F n P ops Q l a w
  | [], a, w, h => h
  | i :: l, a, w, h => by
    rw [wpOps_cons] at h
    rw [wpOpsIn_cons]
    refine wpOpIn_mono (fun a w h => hF.opsIn hd hQ (l := l) h) (hF.opIn hd hQ h)
theorem Wide.anyIn (hF : Wide F) {ops : Array Oper} (hd : noDefer ops = true) (hQ : ¬ LetsOut Q) {md : Region.Mode} : ∀ {fuel : Nat} {listed : Array Bool} {a : Act} {w : World}, wpAny P md ops Q fuel listed a w → wpAnyIn F n P md ops Q fuel listed a w
  | 0, listed, a, w, h => h
  | fuel + 1, listed, a, w, h => ⟨h.1, fun i hi => wpOpIn_mono (fun a w h => hF.anyIn hd hQ h) (hF.opIn hd hQ (h.2 i hi))⟩
end

def Same (ops : Array Oper) (a a' : Act) : Prop := a'.tmps.size = a.tmps.size ∧ ∀ t, (∀ (i : Nat) (o : Oper), ops[i]? = some o → o.dst ≠ some t) → a'.tmps[t]? = a.tmps[t]?
def QS (ops : Array Oper) (a0 : Act) (Q : Exit → Act → World → Prop) : Exit → Act → World → Prop
  | .normal, a, w => Q .normal a w ∧ Same ops a0 a
  | e, a, w => Q e a w

section
variable {P : Program} {ops : Array Oper} {a0 a : Act} {w : World} {Q : Exit → Act → World → Prop} {K : Act → World → Prop}
theorem QS.out (h : LetsOut Q) : LetsOut (QS ops a0 Q) := h
theorem Same.intro_defers {ds : List Deferred} (h : Same ops a0 a) : Same ops a0 { a with defers := ds } := ⟨h.1, h.2⟩
theorem Same.put {i : Nat} {o : Oper} (h : Same ops a0 a) (hi : ops[i]? = some o) (v : Value) : Same ops a0 (a.put o.dst v) := by
  refine ⟨by rw [size_put]; exact h.1, fun t ht => ?_⟩
  refine Eq.trans ?_ (h.2 t ht)
  have hne := ht i o hi
  cases hd : o.dst with
  | none => rfl
  | some d =>
    rw [hd] at hne
    have : d ≠ t := fun e => hne (by rw [e])
    simp [Act.put, Array.getElem?_setIfInBounds, this]

theorem Oper.wp_same {i : Nat} {o : Oper} (hi : ops[i]? = some o) (hs : Same ops a0 a) (h : o.wp P a w K Q) : o.wp P a w (fun a' w' => K a' w' ∧ Same ops a0 a') (QS ops a0 Q) := by
  unfold Oper.wp at h ⊢
  generalize (execOp a.eval o).run P w = r at *
  cases r with
  | ok x w' =>
    cases x <;> simp only [Oper.upon] at h ⊢
    case value v => exact ⟨h, hs.put hi v⟩
    case skip => exact ⟨h, hs.put hi _⟩
    case defer d => exact ⟨h, Same.put (a := { a with defers := d :: a.defers }) (Same.intro_defers hs) hi _⟩
    case enter f args =>
      refine Calls.mono h fun e w'' he => ?_
      cases e with
      | returned v => exact ⟨he, hs.put hi v⟩
      | panicked c => exact he
      | outgrown => exact he
    case row row args => exact Rows.mono h fun v w'' he => ⟨he, hs.put hi v⟩
  | halt x w' => cases x <;> simp only [Oper.upon] at h ⊢ <;> exact h

theorem wpOp_same {i : Nat} (hs : Same ops a0 a) (h : wpOp P ops Q i K a w) : wpOp P ops (QS ops a0 Q) i (fun a' w' => K a' w' ∧ Same ops a0 a') a w := by
  unfold wpOp at *
  split
  · rename_i ho; exact ⟨by simpa [ho] using h, hs⟩
  · rename_i o ho
    simp only [ho] at h
    split
    · rename_i hw
      simp only [hw, if_true] at h
      rcases h with h | h
      · exact .inl (Oper.wp_same ho hs h)
      · exact .inr h
    · rename_i hw
      simp only [hw] at h
      exact ⟨h, hs.put ho _⟩
theorem wpOps_same : ∀ {l : List Nat} {a : Act} {w : World}, Same ops a0 a → wpOps P ops Q l a w → wpOps P ops (QS ops a0 Q) l a w
  | [], a, w, hs, h => ⟨h, hs⟩
  | i :: l, a, w, hs, h => by
    rw [wpOps_cons] at h ⊢
    exact wpOp_mono (fun a w h => wpOps_same (l := l) h.2 h.1) (wpOp_same hs h)
theorem wpAny_same {md : Region.Mode} : ∀ {fuel : Nat} {listed : Array Bool} {a : Act} {w : World}, Same ops a0 a → wpAny P md ops Q fuel listed a w → wpAny P md ops (QS ops a0 Q) fuel listed a w
  | 0, listed, a, w, hs, h => ⟨h.1, h.2, hs⟩
  | fuel + 1, listed, a, w, hs, h => ⟨fun hn => ⟨h.1 hn, hs⟩, fun i hi => wpOp_mono (fun a w h => wpAny_same h.2 h.1) (wpOp_same hs (h.2 i hi))⟩
end
section
variable {C : Ctx} {Ow : Nat → Prop} {m0 : Mem} {w0 w : World} {N : Nat} {s s' : St} {a : Act} {F : Fence} {n : Nat} {Q : Exit → Act → World → Prop}

/-- A region, from a derivation, within a fence. -/
theorem region_in (hF : Wide F) (hX : Cx C Ow m0 w0) (hmix : C.P.follows .mixedOrders = true) {id : Nat} {ops : Array Oper} {d : Bool} {rv : Array ResultVar} (hN : codeOK N (.region id ops d) = true) (hnd : noDefer ops = true)
    (h : Go C rv (fun _ => False) [.code (.region id ops d), .lp 1 (fun _ => s') (fun _ => True) 0] s) (hR : Rel C Ow m0 w0 N s a w) (hQo : ¬ LetsOut Q) (hQ : ∀ a' w', Rel C Ow m0 w0 N s' a' w' → Same ops a a' → Q .normal a' w') :
    (Code.region id ops d).wpIn F n C.P Q a w := by
  let Qr : Exit → Act → World → Prop := fun e a' w' => match e with
    | .normal => Rel C Ow m0 w0 N s' a' w'
    | e => Q e a' w'
  have hQr : ∀ e a' w', QS ops a Qr e a' w' → Q e a' w' := fun e a' w' h => by
    cases e with
    | normal => exact hQ _ _ h.1 h.2
    | _ => exact h
  have hQo2 : ¬ LetsOut (QS ops a Qr) := fun h => hQo h
  have hself : Same ops a a := ⟨rfl, fun _ _ => rfl⟩
  refine wpIn_mono (Q := QS ops a Qr) ?_ hQr
  have hN' : itsOK N [.code (.region id ops d), .lp 1 (fun _ => s') (fun _ => True) 0] := itsOK.cons hN (itsOK.cons rfl fun i hi => by simp at hi)
  have hg : Go C rv (fun _ => False) (.ops d ops.toList ops.toList s [] :: [.lp 1 (fun _ => s') (fun _ => True) 0]) s := by
    cases h with
    | region h => exact h
    | adopt hc _ _ => cases hc
  have hM := Go.mean (N := N) (R := fun _ _ => False) (fn := { (default : Func) with results := rv }) hX hmix (fun e w he => by rcases he with ⟨_, _, _, _, hf, _⟩ | ⟨_, _, _, _, _, _, hf, _⟩ <;> exact hf) hg
  obtain ⟨L, s2, hL, hord, hch, hend⟩ := hM
  have hend2 : ∀ a w, Rel C Ow m0 w0 N s2 a w → Qr .normal a w := fun a w hr => by
    have := hend hN'.tail a w hr
    simp only [ExK, Exit.then] at this
    exact this.2.2
  have hd : ∀ (i : Nat) (o : Oper), ops[i]? = some o → ∀ t, o.dst = some t → t < N := by
    intro i o hi t ht
    have := hN
    simp only [codeOK] at this
    have := List.all_eq_true.1 this o (by rw [Array.mem_toList_iff]; exact Array.mem_of_getElem? hi)
    simpa [ht] using this
  let l : List En := L.zipIdx.map fun p => ⟨p.2, p.1.1, p.1.2⟩
  have hl : l.map (fun e => (e.o, e.f)) = L := by
    simp only [l, List.map_map]
    have : ((fun e : En => (e.o, e.f)) ∘ fun p : (Oper × Foot) × Nat => (⟨p.2, p.1.1, p.1.2⟩ : En)) = Prod.fst := rfl
    rw [this, List.zipIdx_map_fst]
  have hli : l.map (·.i) = List.range ops.size := by
    simp only [l, List.map_map]
    have : ((fun e : En => e.i) ∘ fun p : (Oper × Foot) × Nat => (⟨p.2, p.1.1, p.1.2⟩ : En)) = Prod.snd := rfl
    rw [this, List.zipIdx_map_snd]
    have : L.length = ops.size := by rw [← Array.length_toList, ← hL]; simp
    rw [this, List.range_eq_range']
  have hget : ∀ e ∈ l, L[e.i]? = some (e.o, e.f) := by
    intro e he
    simp only [l, List.mem_map] at he
    obtain ⟨p, hp, rfl⟩ := he
    have := List.mem_zipIdx_iff_getElem?.1 hp
    simpa using this
  have hgo : ∀ e ∈ l, ops[e.i]? = some e.o := by
    intro e he
    have h1 := hget e he
    have : ops.toList[e.i]? = some e.o := by rw [← hL, List.getElem?_map, h1]; rfl
    simpa using this
  have hC := hch l hl
  cases d with
  | false =>
    refine wpIn_region (hF.opsIn hnd hQo2 (wpOps_same hself ?_))
    rw [← hli]
    exact hC.seq hX hd hend2 hgo hR
  | true =>
    obtain ⟨ho, hf⟩ := hord rfl
    simp only [List.nil_append] at ho hf
    refine wpIn_region_any hmix (hF.anyIn hnd hQo2 (wpAny_same hself ?_))
    have hlen : l.length = ops.size := by rw [← List.length_range (n := ops.size), ← hli]; simp
    refine Ch.any hX ho hd hend2 ops.size l _ s a _ hlen (by simp) ?_ ?_ ?_ ?_ ?_ hC hR.drew
    · have : (l.map (·.i)).Pairwise (· < ·) := by rw [hli]; exact List.pairwise_lt_range
      exact List.pairwise_map.1 this
    · intro j
      have : (∃ e ∈ l, e.i = j) ↔ j ∈ l.map (·.i) := by simp
      rw [this, hli, List.mem_range]
      constructor
      · intro hj; exact ⟨hj, by simp [hj]⟩
      · exact fun h => h.1
    · intro e he
      refine ⟨hgo e he, ?_⟩
      rw [List.getElem?_map, hget e he]; rfl
    · intro j hj hjs
      simp [hjs] at hj
    · intro e he i hi
      refine freshAll_spec hf e.f ?_ i hi
      rw [List.mem_map]
      exact ⟨(e.o, e.f), List.mem_of_getElem? (hget e he), rfl⟩

/-- One operation, where calls are deferred. -/
theorem Rel.opD (hX : Cx C Ow m0 w0) {o : Oper} {e : Eff} {b : Act} (hR : Rel C Ow m0 w0 N s { b with defers := [] } w) (hd : ∀ t, o.dst = some t → t < N) (he : aop C s (ownId o) o = some e) (hr : e.req = true) (hfr : ∀ i ∈ e.nw, SFr s i) :
    ∃ v w', Rel C Ow m0 w0 N (upS s o.dst e.val e.wr) { b.put o.dst v with defers := [] } w' ∧ ∀ K Q, K (b.put o.dst v) w' → o.wp C.P b w K Q := by
  obtain ⟨m, γ, hp, ht⟩ := hR.mem
  have hρ := ev_ok hX hp ht
  obtain ⟨v, w', m', γ', hrun, hn, hv⟩ := aop_sound hX.hT he hr hfr hp hρ
  have h1 := hR.put hd ht hn hfr hv
  have e1 : ({ b with defers := [] } : Act).put o.dst v = { b.put o.dst v with defers := [] } := by cases o.dst <;> rfl
  rw [e1] at h1
  refine ⟨v, w', h1, fun K Q hK => ?_⟩
  unfold Oper.wp
  have e2 : ({ b with defers := [] } : Act).eval = b.eval := by funext x; cases x <;> rfl
  rw [e2] at hrun
  rcases hrun with hrun | ⟨hrun, rfl⟩
  · rw [hrun]; exact hK
  · rw [hrun]; exact hK

/-- The call told from here. -/
theorem Cx.here {m : Mem} {γ : Ga} {W : World} {g : Gs} (hX : Cx C Ow m0 w0) (h : Hp C.κ Ow m0 w0 g m γ W) : Cx C (OwF g m γ W) m W :=
  ⟨hX.hT, hX.glob.mono h.ext, hX.W.trans ⟨h.fr.os, h.fr.tape, h.fr.output, h.fr.size, fun k hk => h.fr.block k (hX.low k hk)⟩, fun b hb ho => hX.low b hb (h.owF b ho), hX.SX⟩

theorem Rel.opK (hX : Cx C Ow m0 w0) {o : Oper} {e : Eff} {b : Act} {K : Act → World → Prop} (hR : Rel C Ow m0 w0 N s { b with defers := [] } w) (hd : ∀ t, o.dst = some t → t < N) (he : aop C s (ownId o) o = some e) (hr : e.req = true) (hfr : ∀ i ∈ e.nw, SFr s i)
    (hK : ∀ v w', Rel C Ow m0 w0 N (upS s o.dst e.val e.wr) { b.put o.dst v with defers := [] } w' → K (b.put o.dst v) w') : o.wp C.P b w K Q := by
  obtain ⟨v, w', h1, h2⟩ := hR.opD hX hd he hr hfr
  exact h2 K Q (hK v w' h1)
theorem wpOpsIn_plain {P : Program} {ops : Array Oper} {i : Nat} {rest : List Nat} {o : Oper} (hi : ops[i]? = some o) (hg : o.guard = none) (h : o.wpIn F n P a w (wpOpsIn F n P ops Q rest) Q) : wpOpsIn F n P ops Q (i :: rest) a w := by
  rw [wpOpsIn_cons]
  unfold wpOpIn
  simp only [hi]
  have : Region.wanted o (yielded ops a.tmps) = true := by simp [Region.wanted, hg]
  simp only [this, if_true]
  exact h
theorem look_mem {α : Type} : ∀ {l : List (Nat × α)} {t : Nat} {x : α}, look l t = some x → (t, x) ∈ l
  | [], t, x, h => by simp [look] at h
  | (k, y) :: r, t, x, h => by
    simp only [look] at h
    cases hk : k == t with
    | true =>
      rw [hk] at h; cases h
      have : k = t := by simpa using hk
      subst this; simp
    | false => rw [hk] at h; exact List.mem_cons_of_mem _ (look_mem h)
end
end Go.Sy
