/- Part 4 of 5 of what the proofs of this seat stand on: a small logic for walks, what the functions come to, and the walks themselves. No condition of its own. -/
import Derived.Test.YtoggggnlponfhaaE3
import Derived.Test.YtoggggnlponfhaaE2
import Derived.Deep.Slices
import Derived.ProofKit
import Derived.OpenShut
import Derived.Test.YtoggggnlponfhaaRows
set_option linter.unusedVariables false
set_option linter.unusedSimpArgs false
namespace Go.Proofs.Ytoggggnlponfhaa
open Go.G Burst8
set_option maxRecDepth 1000000
attribute [local irreducible] G.ParO G.Fin
theorem v_addW {P : Program} {W : World} {n : Nat} {L : Tm} {M : List Res} {R : List Fact} {o : Oper} {t u : TypeId} {x y : Operand} {a b : Int} (ho : o.op = .binOp .add t x y u) (hx : ev L x = some (.int .i64 a)) (hy : ev L y = some (.int .i64 b)) : OpQ P W n L M R o (.int .i64 (IntKind.i64.wrap (a + b))) :=
  OpQ.of_value fun f w h1 _ => by simp [execOp, ho, h1.ev hx, h1.ev hy, eqGuard, binOp, Op.intArith]
theorem FnM.to {P : Program} {k : FuncId} {args : List Value} {m : Res} {R0 : List Fact} {u v : Value} (h : FnM P k args m R0 (fun x => x = u)) (e : u = v) : FnM P k args m R0 (fun x => x = v) := e ▸ h
attribute [local irreducible] fw fwR fwC emptyT tabOf knownT canB boundsL
variable (B : Bog) (bo ro so : Option Addr) (bc rc sc : Nat) (bb mb : Nat)
def chkB (B : Bog) (v : Bool) : Int := if GoodB B then (if v then (if canB B (allS B) 0 false = true then 0 else 10) else 2) else 1
abbrev tB (B : Bog) : Tab := knownT B (allS B) 0 false
theorem chkB_1 {B : Bog} {v : Bool} (h : ¬ GoodB B) : chkB B v = 1 := if_neg h
theorem chkB_2 {B : Bog} {v : Bool} (h : GoodB B) (hv : v = false) : chkB B v = 2 := by unfold chkB; rw [if_pos h, hv]; rfl
theorem chkB_10 {B : Bog} {v : Bool} (h : GoodB B) (hv : v = true) (hc : canB B (allS B) 0 false = false) : chkB B v = 10 := by unfold chkB; rw [if_pos h, hv, if_pos rfl, hc]; rfl
theorem chkB_0 {B : Bog} {v : Bool} (h : GoodB B) (hv : v = true) (hc : canB B (allS B) 0 false = true) : chkB B v = 0 := by unfold chkB; rw [if_pos h, hv, if_pos rfl, hc]; rfl
/-- What a function answers: what is known, or why it is not. -/
def ansB {α : Type} (B : Bog) (v : Bool) (z : α) (x : α) : α × Int := if chkB B v = 0 then (x, 0) else (z, chkB B v)
theorem ansB_0 {α : Type} {B : Bog} {v : Bool} {z x : α} (h : chkB B v = 0) : ansB B v z x = (x, 0) := if_pos h
theorem ansB_n {α : Type} {B : Bog} {v : Bool} {z x : α} {e : Int} (h : chkB B v = e) (he : e ≠ 0) : ansB B v z x = (z, e) := by unfold ansB; rw [h, if_neg he]
/-- .. if something more is so. -/
def ansE {α : Type} (B : Bog) (v : Bool) (z : α) (x : α) (ok : Prop) [Decidable ok] : α × Int := if chkB B v = 0 then (if ok then (x, 0) else (z, 4)) else (z, chkB B v)
theorem ansE_n {α : Type} {B : Bog} {v : Bool} {z x : α} {ok : Prop} [Decidable ok] {e : Int} (h : chkB B v = e) (he : e ≠ 0) : ansE B v z x ok = (z, e) := by unfold ansE; rw [h, if_neg he]
theorem ansE_0 {α : Type} {B : Bog} {v : Bool} {z x : α} {ok : Prop} [Decidable ok] (h : chkB B v = 0) (hk : ok) : ansE B v z x ok = (x, 0) := by unfold ansE; rw [if_pos h, if_pos hk]
theorem ansE_4 {α : Type} {B : Bog} {v : Bool} {z x : α} {ok : Prop} [Decidable ok] (h : chkB B v = 0) (hk : ¬ ok) : ansE B v z x ok = (z, 4) := by unfold ansE; rw [if_pos h, if_neg hk]
abbrev isD (B : Bog) (d : Int) : Bool := decide (0 ≤ d ∧ d ≤ (B.rain.length : Int))
abbrev isK (B : Bog) (k : Int) : Bool := decide (0 ≤ k ∧ k ≤ (B.banks.length : Int) - 1)
def waterB (B : Bog) (d : Int) : Burst8.Span × Int := ansB B (isD B d) ⟨0, 0⟩ (spanT (tB B) (5 + d.toNat) 0)
def spareB (B : Bog) (k : Int) : Int × Int := ansE B (isK B k) 0 (worstT (tB B) k.toNat B.rain.length) (0 ≤ worstT (tB B) k.toNat B.rain.length)
def firstB (B : Bog) (d : Int) : Int × Int := ansE B (isD B d) 0 ((firstT (tB B) B.banks.length d.toNat).1 : Int) ((firstT (tB B) B.banks.length d.toNat).2 < 0)
def marginB (B : Bog) (k d : Int) : Burst8.Span × Int := ansB B (decide ((0 ≤ k ∧ k ≤ (B.banks.length : Int) - 1) ∧ (0 ≤ d ∧ d ≤ (B.rain.length : Int)))) ⟨0, 0⟩ (marginT (tB B) k.toNat d.toNat)
set_option maxHeartbeats 4000000 in
theorem water_x1 (d : Int) (hl1 : B.banks.length ≤ 40) (hl2 : B.rain.length ≤ 40) (hl3 : B.signs.length ≤ 40) (hng : ¬ GoodB B) : FnV Try.prog 14 [valB B bo ro so bc rc sc, i64 d] [rowD bo 4 encB B.banks, rowD ro 2 encS B.rain, rowD so 3 encG B.signs] (.tuple #[vS (waterB B d).1, i64 (waterB B d).2]) := by
  refine FnV.introD Try.call14 Try.func14 rfl Try.ntmps14 rfl ?_
  intro W M Rf
  refine r_seq ?_
  refine r_region ?_
  refine o_boxA rfl rfl rfl rfl rfl (fun b2 => ?_)
  refine o_box1 rfl rfl rfl rfl rfl rfl (fun b3 => ?_)
  refine o_alloc rfl inf24 rfl rfl rfl rfl rfl (fun b4 => ?_)
  refine o_alloc rfl inf31 rfl rfl rfl rfl rfl (fun b5 => ?_)
  refine o_nil ?_
  with_reducible refine r_then ?_
  refine r_seq ?_
  refine r_region ?_
  refine o_defer rfl rfl rfl rfl ?_
  refine o_nil ?_
  with_reducible refine r_then ?_
  refine r_seq ?_
  refine Imp.sealB b3 ?_
  refine r_parX 7 mixed (by kernel_rfl) (by rfl) ?_
  refine p_q _ rfl rfl rfl (fun _ _ => v_ldW rfl Try.underlying28 rfl inf28 rfl rfl) ?_
  refine p_q _ rfl rfl rfl (fun _ _ => v_makeFunc rfl rfl rfl) ?_
  refine p_deadX (open_x1 B bo ro so bc rc sc 47 [pt b3 0] [boxF b3 3 [i64 d]] hl1 hl2 hl3 hng) rfl rfl rfl rfl rfl SubRC.sub ?_
  refine p_acc (by simp only [List.nil_append, List.cons_append]; rfl) ?_
  refine p_dead 2 rfl rfl rfl (fun _ h => h) (by kernel_rfl) rfl rfl rfl ?_
  refine p_acc (by simp only [List.nil_append, List.cons_append]; rfl) ?_
  refine p_dead 3 rfl rfl rfl (fun _ h => h) (by kernel_rfl) rfl rfl rfl ?_
  refine p_q _ rfl rfl rfl (fun _ _ => v_lf1 rfl Try.underlying3 rfl rfl rfl) ?_
  refine p_q _ rfl rfl rfl (fun _ _ => v_addW rfl rfl rfl) ?_
  refine p_nilX (panOf (.iface 109 (i64 1))) (by simp only [List.nil_append, List.cons_append]; rfl) rfl (by kernel_rfl) rfl ?_ ?_
  ·
    with_reducible refine r_then_panic ?_
    exact d_panv answer_ans (Rd.two rfl (RdI.cellW Try.underlying24 rfl inf24 rfl rfl) (RdI.cell1 Try.underlying31 rfl rfl rfl)) (by rw [waterB, ansB_n (chkB_1 hng) (by decide)]; try rfl) SelMC.sel SubRC.sub
  ·
    refine f_q rfl ?_
    refine f_q rfl ?_
    exact f_dead
set_option maxHeartbeats 4000000 in
theorem water_x2 (d : Int) (hl1 : B.banks.length ≤ 40) (hl2 : B.rain.length ≤ 40) (hl3 : B.signs.length ≤ 40) (hg : GoodB B) (hv : isD B d = false) : FnV Try.prog 14 [valB B bo ro so bc rc sc, i64 d] [rowD bo 4 encB B.banks, rowD ro 2 encS B.rain, rowD so 3 encG B.signs] (.tuple #[vS (waterB B d).1, i64 (waterB B d).2]) := by
  refine FnV.introD Try.call14 Try.func14 rfl Try.ntmps14 rfl ?_
  intro W M Rf
  refine r_seq ?_
  refine r_region ?_
  refine o_boxA rfl rfl rfl rfl rfl (fun b2 => ?_)
  refine o_box1 rfl rfl rfl rfl rfl rfl (fun b3 => ?_)
  refine o_alloc rfl inf24 rfl rfl rfl rfl rfl (fun b4 => ?_)
  refine o_alloc rfl inf31 rfl rfl rfl rfl rfl (fun b5 => ?_)
  refine o_nil ?_
  with_reducible refine r_then ?_
  refine r_seq ?_
  refine r_region ?_
  refine o_defer rfl rfl rfl rfl ?_
  refine o_nil ?_
  with_reducible refine r_then ?_
  refine r_seq ?_
  refine Imp.sealB b3 ?_
  refine r_parX 7 mixed (by kernel_rfl) (by rfl) ?_
  refine p_q _ rfl rfl rfl (fun _ _ => v_ldW rfl Try.underlying28 rfl inf28 rfl rfl) ?_
  refine p_q _ rfl rfl rfl (fun _ _ => v_makeFunc rfl rfl rfl) ?_
  refine p_deadX (open_x2 B bo ro so bc rc sc 47 [pt b3 0] [boxF b3 3 [i64 d]] (fun bb mb => FnM.to (day47_m B bo ro so bc rc sc bb mb d b3) (congrArg Value.bool hv)) hl1 hl2 hl3 hg) rfl rfl rfl rfl rfl SubRC.sub ?_
  refine p_acc (by simp only [List.nil_append, List.cons_append]; rfl) ?_
  refine p_dead 2 rfl rfl rfl (fun _ h => h) (by kernel_rfl) rfl rfl rfl ?_
  refine p_acc (by simp only [List.nil_append, List.cons_append]; rfl) ?_
  refine p_dead 3 rfl rfl rfl (fun _ h => h) (by kernel_rfl) rfl rfl rfl ?_
  refine p_q _ rfl rfl rfl (fun _ _ => v_lf1 rfl Try.underlying3 rfl rfl rfl) ?_
  refine p_q _ rfl rfl rfl (fun _ _ => v_addW rfl rfl rfl) ?_
  refine p_nilX (panOf (.iface 109 (i64 2))) (by simp only [List.nil_append, List.cons_append]; rfl) rfl (by kernel_rfl) rfl ?_ ?_
  ·
    with_reducible refine r_then_panic ?_
    exact d_panv answer_ans (Rd.two rfl (RdI.cellW Try.underlying24 rfl inf24 rfl rfl) (RdI.cell1 Try.underlying31 rfl rfl rfl)) (by rw [waterB, ansB_n (chkB_2 hg hv) (by decide)]; try rfl) SelMC.sel SubRC.sub
  ·
    refine f_q rfl ?_
    refine f_q rfl ?_
    exact f_dead
set_option maxHeartbeats 4000000 in
theorem water_x3 (d : Int) (hl1 : B.banks.length ≤ 40) (hl2 : B.rain.length ≤ 40) (hl3 : B.signs.length ≤ 40) (hg : GoodB B) (hv : isD B d = true) (hc : canB B (allS B) 0 false = false) : FnV Try.prog 14 [valB B bo ro so bc rc sc, i64 d] [rowD bo 4 encB B.banks, rowD ro 2 encS B.rain, rowD so 3 encG B.signs] (.tuple #[vS (waterB B d).1, i64 (waterB B d).2]) := by
  refine FnV.introD Try.call14 Try.func14 rfl Try.ntmps14 rfl ?_
  intro W M Rf
  refine r_seq ?_
  refine r_region ?_
  refine o_boxA rfl rfl rfl rfl rfl (fun b2 => ?_)
  refine o_box1 rfl rfl rfl rfl rfl rfl (fun b3 => ?_)
  refine o_alloc rfl inf24 rfl rfl rfl rfl rfl (fun b4 => ?_)
  refine o_alloc rfl inf31 rfl rfl rfl rfl rfl (fun b5 => ?_)
  refine o_nil ?_
  with_reducible refine r_then ?_
  refine r_seq ?_
  refine r_region ?_
  refine o_defer rfl rfl rfl rfl ?_
  refine o_nil ?_
  with_reducible refine r_then ?_
  refine r_seq ?_
  refine Imp.sealB b3 ?_
  refine r_parX 7 mixed (by kernel_rfl) (by rfl) ?_
  refine p_q _ rfl rfl rfl (fun _ _ => v_ldW rfl Try.underlying28 rfl inf28 rfl rfl) ?_
  refine p_q _ rfl rfl rfl (fun _ _ => v_makeFunc rfl rfl rfl) ?_
  refine p_openL 3 (open_ok B bo ro so bc rc sc 47 [pt b3 0] [boxF b3 3 [i64 d]] (fun bb mb => FnM.to (day47_m B bo ro so bc rc sc bb mb d b3) (congrArg Value.bool hv)) hl1 hl2 hl3 hg) rfl rfl rfl rfl rfl SubRC.sub ?_
  refine p_acc (by simp only [List.nil_append, List.cons_append]; rfl) ?_
  refine p_takeX 2 (told_cx B bo ro bc rc hg hc) rfl rfl rfl rfl (by kernel_rfl) rfl rfl rfl SubRC.sub ?_
  refine p_acc (by simp only [List.nil_append, List.cons_append]; rfl) ?_
  refine p_dead 3 rfl rfl rfl (fun _ h => h) (by kernel_rfl) rfl rfl rfl ?_
  refine p_q _ rfl rfl rfl (fun _ _ => v_lf1 rfl Try.underlying3 rfl rfl rfl) ?_
  refine p_q _ rfl rfl rfl (fun _ _ => v_addW rfl rfl rfl) ?_
  refine p_nilX (panOf (.iface 109 (i64 10))) (by simp only [List.nil_append, List.cons_append]; rfl) rfl (by kernel_rfl) rfl ?_ ?_
  ·
    with_reducible refine r_then_panic ?_
    exact d_panv answer_ans (Rd.two rfl (RdI.cellW Try.underlying24 rfl inf24 rfl rfl) (RdI.cell1 Try.underlying31 rfl rfl rfl)) (by rw [waterB, ansB_n (chkB_10 hg hv hc) (by decide)]; try rfl) SelMC.sel SubRC.sub
  ·
    refine f_q rfl ?_
    refine f_q rfl ?_
    refine f_openL rfl (fun b8 => ?_)
    exact f_takeX
set_option maxHeartbeats 4000000 in
theorem water_ok (d : Int) (hl1 : B.banks.length ≤ 40) (hl2 : B.rain.length ≤ 40) (hl3 : B.signs.length ≤ 40) (hg : GoodB B) (hv : isD B d = true) (hc : canB B (allS B) 0 false = true) : FnV Try.prog 14 [valB B bo ro so bc rc sc, i64 d] [rowD bo 4 encB B.banks, rowD ro 2 encS B.rain, rowD so 3 encG B.signs] (.tuple #[vS (waterB B d).1, i64 (waterB B d).2]) := by
  have hd0 : 0 ≤ d ∧ d ≤ (B.rain.length : Int) := of_decide_eq_true hv
  have hnr := hg.nr
  have hnb := hg.nb
  refine FnV.introD Try.call14 Try.func14 rfl Try.ntmps14 rfl ?_
  intro W M Rf
  refine r_seq ?_
  refine r_region ?_
  refine o_boxA rfl rfl rfl rfl rfl (fun b2 => ?_)
  refine o_box1 rfl rfl rfl rfl rfl rfl (fun b3 => ?_)
  refine o_alloc rfl inf24 rfl rfl rfl rfl rfl (fun b4 => ?_)
  refine o_alloc rfl inf31 rfl rfl rfl rfl rfl (fun b5 => ?_)
  refine o_nil ?_
  with_reducible refine r_then ?_
  refine r_seq ?_
  refine r_region ?_
  refine o_defer rfl rfl rfl rfl ?_
  refine o_nil ?_
  with_reducible refine r_then ?_
  refine r_seq ?_
  refine Imp.sealB b3 ?_
  refine r_par' 7 mixed (by kernel_rfl) (by rfl) ?_
  refine p_q _ rfl rfl rfl (fun _ _ => v_ldW rfl Try.underlying28 rfl inf28 rfl rfl) ?_
  refine p_q _ rfl rfl rfl (fun _ _ => v_makeFunc rfl rfl rfl) ?_
  refine p_openL 3 (open_ok B bo ro so bc rc sc 47 [pt b3 0] [boxF b3 3 [i64 d]] (fun bb mb => FnM.to (day47_m B bo ro so bc rc sc bb mb d b3) (congrArg Value.bool hv)) hl1 hl2 hl3 hg) rfl rfl rfl rfl rfl SubRC.sub ?_
  refine p_acc (by simp only [List.nil_append, List.cons_append]; rfl) ?_
  refine p_take 2 (told_c B bo ro bc rc hg hc) rfl rfl rfl rfl (by kernel_rfl) rfl rfl rfl SubRC.sub ?_
  refine p_q _ rfl rfl rfl (fun _ _ => v_cast (v := .agg ((tB B).map i64).toArray) (v_field rfl Try.underlying73 Try.underlying71 inf71 rfl rfl rfl rfl) (by exact kC_ext (knownT_len _ _ _ _) _)) ?_
  refine p_q _ rfl rfl rfl (fun _ _ => v_lf1 rfl Try.underlying3 rfl rfl rfl) ?_
  refine p_q _ rfl rfl rfl (fun _ _ => v_cast (v := i64 ((5 + d.toNat : Nat) : Int)) (v_add rfl rfl rfl (by omega)) (congrArg (Value.int .i64) (by omega))) ?_
  refine p_nil2 (by simp only [List.nil_append, List.cons_append]; rfl) rfl ?_ (by kernel_rfl)
  refine f_q rfl ?_
  refine f_q rfl ?_
  refine f_openL rfl (fun b8 => ?_)
  refine f_take rfl ?_
  refine f_q rfl ?_
  refine f_q rfl ?_
  refine f_q rfl ?_
  refine f_nil ?_
  refine o_q _ rfl rfl rfl (OpQ.fn (tspan_v (tB B) (knownT_len _ _ _ _) (5 + d.toNat) 0 (by omega) (by omega) (SmallT.known hg _ _ _ 0 (by omega) (5 + d.toNat) (by omega))) rfl rfl SubRC.sub) ?_
  refine o_st rfl inf24 rfl rfl rfl rfl rfl rfl rfl rfl ?_
  refine o_st rfl inf31 rfl rfl rfl rfl rfl rfl rfl rfl ?_
  refine o_nil ?_
  with_reducible refine r_then ?_
  refine r_ret ?_
  exact d_retv answer_ans (Rd.two rfl (RdI.cellW Try.underlying24 rfl inf24 rfl rfl) (RdI.cell1 Try.underlying31 rfl rfl rfl)) (by rw [waterB, ansB_0 (chkB_0 hg hv hc)]; try rfl) SelMC.sel SubRC.sub
theorem water_v (d : Int) (hl1 : B.banks.length ≤ 40) (hl2 : B.rain.length ≤ 40) (hl3 : B.signs.length ≤ 40) : FnV Try.prog 14 [valB B bo ro so bc rc sc, i64 d] [rowD bo 4 encB B.banks, rowD ro 2 encS B.rain, rowD so 3 encG B.signs] (.tuple #[vS (waterB B d).1, i64 (waterB B d).2]) := by
  by_cases hg : GoodB B
  · cases hv : isD B d
    · exact water_x2 B bo ro so bc rc sc d hl1 hl2 hl3 hg hv
    · cases hc : canB B (allS B) 0 false
      · exact water_x3 B bo ro so bc rc sc d hl1 hl2 hl3 hg hv hc
      · exact water_ok B bo ro so bc rc sc d hl1 hl2 hl3 hg hv hc
  · exact water_x1 B bo ro so bc rc sc d hl1 hl2 hl3 hg
set_option maxHeartbeats 4000000 in
theorem margin_x1 (k d : Int) (hl1 : B.banks.length ≤ 40) (hl2 : B.rain.length ≤ 40) (hl3 : B.signs.length ≤ 40) (hng : ¬ GoodB B) : FnV Try.prog 16 [valB B bo ro so bc rc sc, i64 k, i64 d] [rowD bo 4 encB B.banks, rowD ro 2 encS B.rain, rowD so 3 encG B.signs] (.tuple #[vS (marginB B k d).1, i64 (marginB B k d).2]) := by
  refine FnV.introD Try.call16 Try.func16 rfl Try.ntmps16 rfl ?_
  intro W M Rf
  refine r_seq ?_
  refine r_region ?_
  refine o_boxA rfl rfl rfl rfl rfl (fun b3 => ?_)
  refine o_box1 rfl rfl rfl rfl rfl rfl (fun b4 => ?_)
  refine o_box1 rfl rfl rfl rfl rfl rfl (fun b5 => ?_)
  refine o_alloc rfl inf24 rfl rfl rfl rfl rfl (fun b6 => ?_)
  refine o_alloc rfl inf31 rfl rfl rfl rfl rfl (fun b7 => ?_)
  refine o_nil ?_
  with_reducible refine r_then ?_
  refine r_seq ?_
  refine r_region ?_
  refine o_defer rfl rfl rfl rfl ?_
  refine o_nil ?_
  with_reducible refine r_then ?_
  refine r_seq ?_
  refine Imp.sealB b4 ?_
  refine Imp.sealB b5 ?_
  refine r_parX 6 mixed (by kernel_rfl) (by rfl) ?_
  refine p_q _ rfl rfl rfl (fun _ _ => v_ldW rfl Try.underlying28 rfl inf28 rfl rfl) ?_
  refine p_q _ rfl rfl rfl (fun _ _ => v_makeFunc rfl rfl rfl) ?_
  refine p_deadX (open_x1 B bo ro so bc rc sc 54 [pt b4 0, pt b5 0] [boxF b4 3 [i64 k], boxF b5 3 [i64 d]] hl1 hl2 hl3 hng) rfl rfl rfl rfl rfl SubRC.sub ?_
  refine p_acc (by simp only [List.nil_append, List.cons_append]; rfl) ?_
  refine p_dead 2 rfl rfl rfl (fun _ h => h) (by kernel_rfl) rfl rfl rfl ?_
  refine p_q _ rfl rfl rfl (fun _ _ => v_lf1 rfl Try.underlying3 rfl rfl rfl) ?_
  refine p_q _ rfl rfl rfl (fun _ _ => v_lf1 rfl Try.underlying3 rfl rfl rfl) ?_
  refine p_nilX (panOf (.iface 109 (i64 1))) (by simp only [List.nil_append, List.cons_append]; rfl) rfl (by kernel_rfl) rfl ?_ ?_
  ·
    with_reducible refine r_then_panic ?_
    exact d_panv answer_ans (Rd.two rfl (RdI.cellW Try.underlying24 rfl inf24 rfl rfl) (RdI.cell1 Try.underlying31 rfl rfl rfl)) (by rw [marginB, ansB_n (chkB_1 hng) (by decide)]; try rfl) SelMC.sel SubRC.sub
  ·
    refine f_q rfl ?_
    refine f_q rfl ?_
    exact f_dead
set_option maxHeartbeats 4000000 in
theorem margin_x2 (k d : Int) (hl1 : B.banks.length ≤ 40) (hl2 : B.rain.length ≤ 40) (hl3 : B.signs.length ≤ 40) (hg : GoodB B) (hv : decide ((0 ≤ k ∧ k ≤ (B.banks.length : Int) - 1) ∧ (0 ≤ d ∧ d ≤ (B.rain.length : Int))) = false) : FnV Try.prog 16 [valB B bo ro so bc rc sc, i64 k, i64 d] [rowD bo 4 encB B.banks, rowD ro 2 encS B.rain, rowD so 3 encG B.signs] (.tuple #[vS (marginB B k d).1, i64 (marginB B k d).2]) := by
  refine FnV.introD Try.call16 Try.func16 rfl Try.ntmps16 rfl ?_
  intro W M Rf
  refine r_seq ?_
  refine r_region ?_
  refine o_boxA rfl rfl rfl rfl rfl (fun b3 => ?_)
  refine o_box1 rfl rfl rfl rfl rfl rfl (fun b4 => ?_)
  refine o_box1 rfl rfl rfl rfl rfl rfl (fun b5 => ?_)
  refine o_alloc rfl inf24 rfl rfl rfl rfl rfl (fun b6 => ?_)
  refine o_alloc rfl inf31 rfl rfl rfl rfl rfl (fun b7 => ?_)
  refine o_nil ?_
  with_reducible refine r_then ?_
  refine r_seq ?_
  refine r_region ?_
  refine o_defer rfl rfl rfl rfl ?_
  refine o_nil ?_
  with_reducible refine r_then ?_
  refine r_seq ?_
  refine Imp.sealB b4 ?_
  refine Imp.sealB b5 ?_
  refine r_parX 6 mixed (by kernel_rfl) (by rfl) ?_
  refine p_q _ rfl rfl rfl (fun _ _ => v_ldW rfl Try.underlying28 rfl inf28 rfl rfl) ?_
  refine p_q _ rfl rfl rfl (fun _ _ => v_makeFunc rfl rfl rfl) ?_
  refine p_deadX (open_x2 B bo ro so bc rc sc 54 [pt b4 0, pt b5 0] [boxF b4 3 [i64 k], boxF b5 3 [i64 d]] (fun bb mb => FnM.to (mar54_m B bo ro so bc rc sc bb mb k d b4 b5 (by omega)) (congrArg Value.bool hv)) hl1 hl2 hl3 hg) rfl rfl rfl rfl rfl SubRC.sub ?_
  refine p_acc (by simp only [List.nil_append, List.cons_append]; rfl) ?_
  refine p_dead 2 rfl rfl rfl (fun _ h => h) (by kernel_rfl) rfl rfl rfl ?_
  refine p_q _ rfl rfl rfl (fun _ _ => v_lf1 rfl Try.underlying3 rfl rfl rfl) ?_
  refine p_q _ rfl rfl rfl (fun _ _ => v_lf1 rfl Try.underlying3 rfl rfl rfl) ?_
  refine p_nilX (panOf (.iface 109 (i64 2))) (by simp only [List.nil_append, List.cons_append]; rfl) rfl (by kernel_rfl) rfl ?_ ?_
  ·
    with_reducible refine r_then_panic ?_
    exact d_panv answer_ans (Rd.two rfl (RdI.cellW Try.underlying24 rfl inf24 rfl rfl) (RdI.cell1 Try.underlying31 rfl rfl rfl)) (by rw [marginB, ansB_n (chkB_2 hg hv) (by decide)]; try rfl) SelMC.sel SubRC.sub
  ·
    refine f_q rfl ?_
    refine f_q rfl ?_
    exact f_dead
set_option maxHeartbeats 4000000 in
theorem margin_x3 (k d : Int) (hl1 : B.banks.length ≤ 40) (hl2 : B.rain.length ≤ 40) (hl3 : B.signs.length ≤ 40) (hg : GoodB B) (hv : decide ((0 ≤ k ∧ k ≤ (B.banks.length : Int) - 1) ∧ (0 ≤ d ∧ d ≤ (B.rain.length : Int))) = true) (hc : canB B (allS B) 0 false = false) : FnV Try.prog 16 [valB B bo ro so bc rc sc, i64 k, i64 d] [rowD bo 4 encB B.banks, rowD ro 2 encS B.rain, rowD so 3 encG B.signs] (.tuple #[vS (marginB B k d).1, i64 (marginB B k d).2]) := by
  refine FnV.introD Try.call16 Try.func16 rfl Try.ntmps16 rfl ?_
  intro W M Rf
  refine r_seq ?_
  refine r_region ?_
  refine o_boxA rfl rfl rfl rfl rfl (fun b3 => ?_)
  refine o_box1 rfl rfl rfl rfl rfl rfl (fun b4 => ?_)
  refine o_box1 rfl rfl rfl rfl rfl rfl (fun b5 => ?_)
  refine o_alloc rfl inf24 rfl rfl rfl rfl rfl (fun b6 => ?_)
  refine o_alloc rfl inf31 rfl rfl rfl rfl rfl (fun b7 => ?_)
  refine o_nil ?_
  with_reducible refine r_then ?_
  refine r_seq ?_
  refine r_region ?_
  refine o_defer rfl rfl rfl rfl ?_
  refine o_nil ?_
  with_reducible refine r_then ?_
  refine r_seq ?_
  refine Imp.sealB b4 ?_
  refine Imp.sealB b5 ?_
  refine r_parX 6 mixed (by kernel_rfl) (by rfl) ?_
  refine p_q _ rfl rfl rfl (fun _ _ => v_ldW rfl Try.underlying28 rfl inf28 rfl rfl) ?_
  refine p_q _ rfl rfl rfl (fun _ _ => v_makeFunc rfl rfl rfl) ?_
  refine p_openL 3 (open_ok B bo ro so bc rc sc 54 [pt b4 0, pt b5 0] [boxF b4 3 [i64 k], boxF b5 3 [i64 d]] (fun bb mb => FnM.to (mar54_m B bo ro so bc rc sc bb mb k d b4 b5 (by omega)) (congrArg Value.bool hv)) hl1 hl2 hl3 hg) rfl rfl rfl rfl rfl SubRC.sub ?_
  refine p_acc (by simp only [List.nil_append, List.cons_append]; rfl) ?_
  refine p_takeX 2 (told_cx B bo ro bc rc hg hc) rfl rfl rfl rfl (by kernel_rfl) rfl rfl rfl SubRC.sub ?_
  refine p_q _ rfl rfl rfl (fun _ _ => v_lf1 rfl Try.underlying3 rfl rfl rfl) ?_
  refine p_q _ rfl rfl rfl (fun _ _ => v_lf1 rfl Try.underlying3 rfl rfl rfl) ?_
  refine p_nilX (panOf (.iface 109 (i64 10))) (by simp only [List.nil_append, List.cons_append]; rfl) rfl (by kernel_rfl) rfl ?_ ?_
  ·
    with_reducible refine r_then_panic ?_
    exact d_panv answer_ans (Rd.two rfl (RdI.cellW Try.underlying24 rfl inf24 rfl rfl) (RdI.cell1 Try.underlying31 rfl rfl rfl)) (by rw [marginB, ansB_n (chkB_10 hg hv hc) (by decide)]; try rfl) SelMC.sel SubRC.sub
  ·
    refine f_q rfl ?_
    refine f_q rfl ?_
    refine f_openL rfl (fun b10 => ?_)
    exact f_takeX
set_option maxHeartbeats 4000000 in
theorem margin_ok (k d : Int) (hl1 : B.banks.length ≤ 40) (hl2 : B.rain.length ≤ 40) (hl3 : B.signs.length ≤ 40) (hg : GoodB B) (hv : decide ((0 ≤ k ∧ k ≤ (B.banks.length : Int) - 1) ∧ (0 ≤ d ∧ d ≤ (B.rain.length : Int))) = true) (hc : canB B (allS B) 0 false = true) : FnV Try.prog 16 [valB B bo ro so bc rc sc, i64 k, i64 d] [rowD bo 4 encB B.banks, rowD ro 2 encS B.rain, rowD so 3 encG B.signs] (.tuple #[vS (marginB B k d).1, i64 (marginB B k d).2]) := by
  have hkd : (0 ≤ k ∧ k ≤ (B.banks.length : Int) - 1) ∧ (0 ≤ d ∧ d ≤ (B.rain.length : Int)) := of_decide_eq_true hv
  have hnr := hg.nr
  have hnb := hg.nb
  refine FnV.introD Try.call16 Try.func16 rfl Try.ntmps16 rfl ?_
  intro W M Rf
  refine r_seq ?_
  refine r_region ?_
  refine o_boxA rfl rfl rfl rfl rfl (fun b3 => ?_)
  refine o_box1 rfl rfl rfl rfl rfl rfl (fun b4 => ?_)
  refine o_box1 rfl rfl rfl rfl rfl rfl (fun b5 => ?_)
  refine o_alloc rfl inf24 rfl rfl rfl rfl rfl (fun b6 => ?_)
  refine o_alloc rfl inf31 rfl rfl rfl rfl rfl (fun b7 => ?_)
  refine o_nil ?_
  with_reducible refine r_then ?_
  refine r_seq ?_
  refine r_region ?_
  refine o_defer rfl rfl rfl rfl ?_
  refine o_nil ?_
  with_reducible refine r_then ?_
  refine r_seq ?_
  refine Imp.sealB b4 ?_
  refine Imp.sealB b5 ?_
  refine r_par' 6 mixed (by kernel_rfl) (by rfl) ?_
  refine p_q _ rfl rfl rfl (fun _ _ => v_ldW rfl Try.underlying28 rfl inf28 rfl rfl) ?_
  refine p_q _ rfl rfl rfl (fun _ _ => v_makeFunc rfl rfl rfl) ?_
  refine p_openL 3 (open_ok B bo ro so bc rc sc 54 [pt b4 0, pt b5 0] [boxF b4 3 [i64 k], boxF b5 3 [i64 d]] (fun bb mb => FnM.to (mar54_m B bo ro so bc rc sc bb mb k d b4 b5 (by omega)) (congrArg Value.bool hv)) hl1 hl2 hl3 hg) rfl rfl rfl rfl rfl SubRC.sub ?_
  refine p_acc (by simp only [List.nil_append, List.cons_append]; rfl) ?_
  refine p_take 2 (told_c B bo ro bc rc hg hc) rfl rfl rfl rfl (by kernel_rfl) rfl rfl rfl SubRC.sub ?_
  refine p_q _ rfl rfl rfl (fun _ _ => v_cast (v := i64 ((k.toNat : Nat) : Int)) (v_lf1 rfl Try.underlying3 rfl rfl rfl) (congrArg (Value.int .i64) (by omega))) ?_
  refine p_q _ rfl rfl rfl (fun _ _ => v_cast (v := i64 ((d.toNat : Nat) : Int)) (v_lf1 rfl Try.underlying3 rfl rfl rfl) (congrArg (Value.int .i64) (by omega))) ?_
  refine p_nil2 (by simp only [List.nil_append, List.cons_append]; rfl) rfl ?_ (by kernel_rfl)
  refine f_q rfl ?_
  refine f_q rfl ?_
  refine f_openL rfl (fun b10 => ?_)
  refine f_take rfl ?_
  refine f_q rfl ?_
  refine f_q rfl ?_
  refine f_nil ?_
  refine o_q _ rfl rfl rfl (OpQ.fn (margin_v (tB B) (knownT_len _ _ _ _) (SmallT.known hg _ _ _) _ k.toNat d.toNat (by omega) (by omega)) rfl rfl SubRC.sub) ?_
  refine o_st rfl inf24 rfl rfl rfl rfl rfl rfl rfl rfl ?_
  refine o_st rfl inf31 rfl rfl rfl rfl rfl rfl rfl rfl ?_
  refine o_nil ?_
  with_reducible refine r_then ?_
  refine r_ret ?_
  exact d_retv answer_ans (Rd.two rfl (RdI.cellW Try.underlying24 rfl inf24 rfl rfl) (RdI.cell1 Try.underlying31 rfl rfl rfl)) (by rw [marginB, ansB_0 (chkB_0 hg hv hc)]; try rfl) SelMC.sel SubRC.sub
theorem Margin_v (k d : Int) (hl1 : B.banks.length ≤ 40) (hl2 : B.rain.length ≤ 40) (hl3 : B.signs.length ≤ 40) : FnV Try.prog 16 [valB B bo ro so bc rc sc, i64 k, i64 d] [rowD bo 4 encB B.banks, rowD ro 2 encS B.rain, rowD so 3 encG B.signs] (.tuple #[vS (marginB B k d).1, i64 (marginB B k d).2]) := by
  by_cases hg : GoodB B
  · cases hv : decide ((0 ≤ k ∧ k ≤ (B.banks.length : Int) - 1) ∧ (0 ≤ d ∧ d ≤ (B.rain.length : Int)))
    · exact margin_x2 B bo ro so bc rc sc k d hl1 hl2 hl3 hg hv
    · cases hc : canB B (allS B) 0 false
      · exact margin_x3 B bo ro so bc rc sc k d hl1 hl2 hl3 hg hv hc
      · exact margin_ok B bo ro so bc rc sc k d hl1 hl2 hl3 hg hv hc
  · exact margin_x1 B bo ro so bc rc sc k d hl1 hl2 hl3 hg
set_option maxHeartbeats 4000000 in
theorem spare_x1 (k : Int) (hl1 : B.banks.length ≤ 40) (hl2 : B.rain.length ≤ 40) (hl3 : B.signs.length ≤ 40) (hng : ¬ GoodB B) : FnV Try.prog 20 [valB B bo ro so bc rc sc, i64 k] [rowD bo 4 encB B.banks, rowD ro 2 encS B.rain, rowD so 3 encG B.signs] (.tuple #[i64 (spareB B k).1, i64 (spareB B k).2]) := by
  refine FnV.introD Try.call20 Try.func20 rfl Try.ntmps20 rfl ?_
  intro W M Rf
  refine r_seq ?_
  refine r_region ?_
  refine o_boxA rfl rfl rfl rfl rfl (fun b2 => ?_)
  refine o_box1 rfl rfl rfl rfl rfl rfl (fun b3 => ?_)
  refine o_q _ rfl rfl rfl (v_assign rfl rfl) ?_
  refine o_alloc rfl inf31 rfl rfl rfl rfl rfl (fun b5 => ?_)
  refine o_nil ?_
  with_reducible refine r_then ?_
  refine r_seq ?_
  refine r_region ?_
  refine o_defer rfl rfl rfl rfl ?_
  refine o_nil ?_
  with_reducible refine r_then ?_
  refine r_seq ?_
  refine Imp.sealB b3 ?_
  refine r_parX 8 mixed (by kernel_rfl) (by rfl) ?_
  refine p_q _ rfl rfl rfl (fun _ _ => v_ldW rfl Try.underlying28 rfl inf28 rfl rfl) ?_
  refine p_q _ rfl rfl rfl (fun _ _ => v_makeFunc rfl rfl rfl) ?_
  refine p_deadX (open_x1 B bo ro so bc rc sc 61 [pt b3 0] [boxF b3 3 [i64 k]] hl1 hl2 hl3 hng) rfl rfl rfl rfl rfl SubRC.sub ?_
  refine p_acc (by simp only [List.nil_append, List.cons_append]; rfl) ?_
  refine p_dead 2 rfl rfl rfl (fun _ h => h) (by kernel_rfl) rfl rfl rfl ?_
  refine p_q _ rfl rfl rfl (fun _ _ => v_lf1 rfl Try.underlying3 rfl rfl rfl) ?_
  refine p_q _ rfl rfl rfl (fun _ _ => v_fieldAddr rfl Try.underlying28 inf25 rfl rfl rfl rfl) ?_
  refine p_q _ rfl rfl rfl (fun _ _ => v_ld1 rfl Try.underlying25 rfl rfl rfl) ?_
  refine p_q _ rfl rfl rfl (fun _ _ => v_len rfl rfl Try.underlying25 rfl) ?_
  refine p_nilX (panOf (.iface 109 (i64 1))) (by simp only [List.nil_append, List.cons_append]; rfl) rfl (by kernel_rfl) rfl ?_ ?_
  ·
    with_reducible refine r_then_panic ?_
    exact d_panv answer_ans (Rd.two rfl (RdI.tmp rfl) (RdI.cell1 Try.underlying31 rfl rfl rfl)) (by rw [spareB, ansE_n (chkB_1 hng) (by decide)]; try rfl) SelMC.sel SubRC.sub
  ·
    refine f_q rfl ?_
    refine f_q rfl ?_
    exact f_dead
set_option maxHeartbeats 4000000 in
theorem spare_x2 (k : Int) (hl1 : B.banks.length ≤ 40) (hl2 : B.rain.length ≤ 40) (hl3 : B.signs.length ≤ 40) (hg : GoodB B) (hv : isK B k = false) : FnV Try.prog 20 [valB B bo ro so bc rc sc, i64 k] [rowD bo 4 encB B.banks, rowD ro 2 encS B.rain, rowD so 3 encG B.signs] (.tuple #[i64 (spareB B k).1, i64 (spareB B k).2]) := by
  refine FnV.introD Try.call20 Try.func20 rfl Try.ntmps20 rfl ?_
  intro W M Rf
  refine r_seq ?_
  refine r_region ?_
  refine o_boxA rfl rfl rfl rfl rfl (fun b2 => ?_)
  refine o_box1 rfl rfl rfl rfl rfl rfl (fun b3 => ?_)
  refine o_q _ rfl rfl rfl (v_assign rfl rfl) ?_
  refine o_alloc rfl inf31 rfl rfl rfl rfl rfl (fun b5 => ?_)
  refine o_nil ?_
  with_reducible refine r_then ?_
  refine r_seq ?_
  refine r_region ?_
  refine o_defer rfl rfl rfl rfl ?_
  refine o_nil ?_
  with_reducible refine r_then ?_
  refine r_seq ?_
  refine Imp.sealB b3 ?_
  refine r_parX 8 mixed (by kernel_rfl) (by rfl) ?_
  refine p_q _ rfl rfl rfl (fun _ _ => v_ldW rfl Try.underlying28 rfl inf28 rfl rfl) ?_
  refine p_q _ rfl rfl rfl (fun _ _ => v_makeFunc rfl rfl rfl) ?_
  refine p_deadX (open_x2 B bo ro so bc rc sc 61 [pt b3 0] [boxF b3 3 [i64 k]] (fun bb mb => FnM.to (bank61_m B bo ro so bc rc sc bb mb k b3 (by omega)) (congrArg Value.bool hv)) hl1 hl2 hl3 hg) rfl rfl rfl rfl rfl SubRC.sub ?_
  refine p_acc (by simp only [List.nil_append, List.cons_append]; rfl) ?_
  refine p_dead 2 rfl rfl rfl (fun _ h => h) (by kernel_rfl) rfl rfl rfl ?_
  refine p_q _ rfl rfl rfl (fun _ _ => v_lf1 rfl Try.underlying3 rfl rfl rfl) ?_
  refine p_q _ rfl rfl rfl (fun _ _ => v_fieldAddr rfl Try.underlying28 inf25 rfl rfl rfl rfl) ?_
  refine p_q _ rfl rfl rfl (fun _ _ => v_ld1 rfl Try.underlying25 rfl rfl rfl) ?_
  refine p_q _ rfl rfl rfl (fun _ _ => v_len rfl rfl Try.underlying25 rfl) ?_
  refine p_nilX (panOf (.iface 109 (i64 2))) (by simp only [List.nil_append, List.cons_append]; rfl) rfl (by kernel_rfl) rfl ?_ ?_
  ·
    with_reducible refine r_then_panic ?_
    exact d_panv answer_ans (Rd.two rfl (RdI.tmp rfl) (RdI.cell1 Try.underlying31 rfl rfl rfl)) (by rw [spareB, ansE_n (chkB_2 hg hv) (by decide)]; try rfl) SelMC.sel SubRC.sub
  ·
    refine f_q rfl ?_
    refine f_q rfl ?_
    exact f_dead
set_option maxHeartbeats 4000000 in
theorem spare_x3 (k : Int) (hl1 : B.banks.length ≤ 40) (hl2 : B.rain.length ≤ 40) (hl3 : B.signs.length ≤ 40) (hg : GoodB B) (hv : isK B k = true) (hc : canB B (allS B) 0 false = false) : FnV Try.prog 20 [valB B bo ro so bc rc sc, i64 k] [rowD bo 4 encB B.banks, rowD ro 2 encS B.rain, rowD so 3 encG B.signs] (.tuple #[i64 (spareB B k).1, i64 (spareB B k).2]) := by
  refine FnV.introD Try.call20 Try.func20 rfl Try.ntmps20 rfl ?_
  intro W M Rf
  refine r_seq ?_
  refine r_region ?_
  refine o_boxA rfl rfl rfl rfl rfl (fun b2 => ?_)
  refine o_box1 rfl rfl rfl rfl rfl rfl (fun b3 => ?_)
  refine o_q _ rfl rfl rfl (v_assign rfl rfl) ?_
  refine o_alloc rfl inf31 rfl rfl rfl rfl rfl (fun b5 => ?_)
  refine o_nil ?_
  with_reducible refine r_then ?_
  refine r_seq ?_
  refine r_region ?_
  refine o_defer rfl rfl rfl rfl ?_
  refine o_nil ?_
  with_reducible refine r_then ?_
  refine r_seq ?_
  refine Imp.sealB b3 ?_
  refine r_parX 8 mixed (by kernel_rfl) (by rfl) ?_
  refine p_q _ rfl rfl rfl (fun _ _ => v_ldW rfl Try.underlying28 rfl inf28 rfl rfl) ?_
  refine p_q _ rfl rfl rfl (fun _ _ => v_makeFunc rfl rfl rfl) ?_
  refine p_openL 3 (open_ok B bo ro so bc rc sc 61 [pt b3 0] [boxF b3 3 [i64 k]] (fun bb mb => FnM.to (bank61_m B bo ro so bc rc sc bb mb k b3 (by omega)) (congrArg Value.bool hv)) hl1 hl2 hl3 hg) rfl rfl rfl rfl rfl SubRC.sub ?_
  refine p_acc (by simp only [List.nil_append, List.cons_append]; rfl) ?_
  refine p_takeX 2 (told_cx B bo ro bc rc hg hc) rfl rfl rfl rfl (by kernel_rfl) rfl rfl rfl SubRC.sub ?_
  refine p_q _ rfl rfl rfl (fun _ _ => v_lf1 rfl Try.underlying3 rfl rfl rfl) ?_
  refine p_q _ rfl rfl rfl (fun _ _ => v_fieldAddr rfl Try.underlying28 inf25 rfl rfl rfl rfl) ?_
  refine p_q _ rfl rfl rfl (fun _ _ => v_ld1 rfl Try.underlying25 rfl rfl rfl) ?_
  refine p_q _ rfl rfl rfl (fun _ _ => v_len rfl rfl Try.underlying25 rfl) ?_
  refine p_nilX (panOf (.iface 109 (i64 10))) (by simp only [List.nil_append, List.cons_append]; rfl) rfl (by kernel_rfl) rfl ?_ ?_
  ·
    with_reducible refine r_then_panic ?_
    exact d_panv answer_ans (Rd.two rfl (RdI.tmp rfl) (RdI.cell1 Try.underlying31 rfl rfl rfl)) (by rw [spareB, ansE_n (chkB_10 hg hv hc) (by decide)]; try rfl) SelMC.sel SubRC.sub
  ·
    refine f_q rfl ?_
    refine f_q rfl ?_
    refine f_openL rfl (fun b9 => ?_)
    exact f_takeX
set_option maxHeartbeats 4000000 in
theorem spare_ok (k : Int) (hl1 : B.banks.length ≤ 40) (hl2 : B.rain.length ≤ 40) (hl3 : B.signs.length ≤ 40) (hg : GoodB B) (hv : isK B k = true) (hc : canB B (allS B) 0 false = true) : FnV Try.prog 20 [valB B bo ro so bc rc sc, i64 k] [rowD bo 4 encB B.banks, rowD ro 2 encS B.rain, rowD so 3 encG B.signs] (.tuple #[i64 (spareB B k).1, i64 (spareB B k).2]) := by
  have hk0 : 0 ≤ k ∧ k ≤ (B.banks.length : Int) - 1 := of_decide_eq_true hv
  have hnr := hg.nr
  have hnb := hg.nb
  refine FnV.introD Try.call20 Try.func20 rfl Try.ntmps20 rfl ?_
  intro W M Rf
  refine r_seq ?_
  refine r_region ?_
  refine o_boxA rfl rfl rfl rfl rfl (fun b2 => ?_)
  refine o_box1 rfl rfl rfl rfl rfl rfl (fun b3 => ?_)
  refine o_q _ rfl rfl rfl (v_assign rfl rfl) ?_
  refine o_alloc rfl inf31 rfl rfl rfl rfl rfl (fun b5 => ?_)
  refine o_nil ?_
  with_reducible refine r_then ?_
  refine r_seq ?_
  refine r_region ?_
  refine o_defer rfl rfl rfl rfl ?_
  refine o_nil ?_
  with_reducible refine r_then ?_
  refine r_seq ?_
  refine Imp.sealB b3 ?_
  refine r_par' 8 mixed (by kernel_rfl) (by rfl) ?_
  refine p_q _ rfl rfl rfl (fun _ _ => v_ldW rfl Try.underlying28 rfl inf28 rfl rfl) ?_
  refine p_q _ rfl rfl rfl (fun _ _ => v_makeFunc rfl rfl rfl) ?_
  refine p_openL 3 (open_ok B bo ro so bc rc sc 61 [pt b3 0] [boxF b3 3 [i64 k]] (fun bb mb => FnM.to (bank61_m B bo ro so bc rc sc bb mb k b3 (by omega)) (congrArg Value.bool hv)) hl1 hl2 hl3 hg) rfl rfl rfl rfl rfl SubRC.sub ?_
  refine p_acc (by simp only [List.nil_append, List.cons_append]; rfl) ?_
  refine p_take 2 (told_c B bo ro bc rc hg hc) rfl rfl rfl rfl (by kernel_rfl) rfl rfl rfl SubRC.sub ?_
  refine p_q _ rfl rfl rfl (fun _ _ => v_cast (v := i64 ((k.toNat : Nat) : Int)) (v_lf1 rfl Try.underlying3 rfl rfl rfl) (congrArg (Value.int .i64) (by omega))) ?_
  refine p_q _ rfl rfl rfl (fun _ _ => v_fieldAddr rfl Try.underlying28 inf25 rfl rfl rfl rfl) ?_
  refine p_q _ rfl rfl rfl (fun _ _ => v_ld1 rfl Try.underlying25 rfl rfl rfl) ?_
  refine p_q _ rfl rfl rfl (fun _ _ => v_len rfl rfl Try.underlying25 rfl) ?_
  refine p_nil2 (by simp only [List.nil_append, List.cons_append]; rfl) rfl ?_ (by kernel_rfl)
  refine f_q rfl ?_
  refine f_q rfl ?_
  refine f_openL rfl (fun b9 => ?_)
  refine f_take rfl ?_
  refine f_q rfl ?_
  refine f_q rfl ?_
  refine f_q rfl ?_
  refine f_q rfl ?_
  refine f_nil ?_
  refine o_q _ rfl rfl rfl (OpQ.fn (worst_v (tB B) (knownT_len _ _ _ _) (SmallT.known hg _ _ _) _ k.toNat B.rain.length (by omega) (by omega)) rfl rfl SubRC.sub) ?_
  refine o_q _ rfl rfl rfl (v_assign rfl rfl) ?_
  refine o_nil ?_
  with_reducible refine r_then ?_
  refine r_seq ?_
  refine r_region ?_
  refine o_q _ rfl rfl rfl (v_move rfl rfl) ?_
  refine o_test rfl rfl rfl (v_geq rfl rfl rfl) (fun h17 => ?_) (fun h17 => ?_)
  all_goals
    first | refine o_q _ rfl rfl rfl (OpQ.fn (ask_t _) rfl rfl SubRC.sub) ?_ | refine o_fnx (ask_f _) rfl rfl rfl SubRC.sub ?_
    repeat (first | with_reducible refine r_then_panic ?_)
    try (exact d_panv answer_ans (Rd.two rfl (RdI.tmp rfl) (RdI.cell1 Try.underlying31 rfl rfl rfl)) (by rw [spareB, ansE_4 (chkB_0 hg hv hc) (by assumption)]; try rfl) SelMC.sel SubRC.sub)
    all_goals
      refine o_nil ?_
      with_reducible refine r_then ?_
      refine r_seq ?_
      refine r_region ?_
      refine o_q _ rfl rfl rfl (v_move rfl rfl) ?_
      refine o_q _ rfl rfl rfl (v_assign rfl rfl) ?_
      refine o_st rfl inf31 rfl rfl rfl rfl rfl rfl rfl rfl ?_
      refine o_nil ?_
      with_reducible refine r_then ?_
      refine r_ret ?_
      exact d_retv answer_ans (Rd.two rfl (RdI.tmp rfl) (RdI.cell1 Try.underlying31 rfl rfl rfl)) (by rw [spareB, ansE_0 (chkB_0 hg hv hc) (by assumption)]; try rfl) SelMC.sel SubRC.sub
theorem spare_v (k : Int) (hl1 : B.banks.length ≤ 40) (hl2 : B.rain.length ≤ 40) (hl3 : B.signs.length ≤ 40) : FnV Try.prog 20 [valB B bo ro so bc rc sc, i64 k] [rowD bo 4 encB B.banks, rowD ro 2 encS B.rain, rowD so 3 encG B.signs] (.tuple #[i64 (spareB B k).1, i64 (spareB B k).2]) := by
  by_cases hg : GoodB B
  · cases hv : isK B k
    · exact spare_x2 B bo ro so bc rc sc k hl1 hl2 hl3 hg hv
    · cases hc : canB B (allS B) 0 false
      · exact spare_x3 B bo ro so bc rc sc k hl1 hl2 hl3 hg hv hc
      · exact spare_ok B bo ro so bc rc sc k hl1 hl2 hl3 hg hv hc
  · exact spare_x1 B bo ro so bc rc sc k hl1 hl2 hl3 hg
set_option maxHeartbeats 4000000 in
theorem first_x1 (d : Int) (hl1 : B.banks.length ≤ 40) (hl2 : B.rain.length ≤ 40) (hl3 : B.signs.length ≤ 40) (hng : ¬ GoodB B) : FnV Try.prog 26 [valB B bo ro so bc rc sc, i64 d] [rowD bo 4 encB B.banks, rowD ro 2 encS B.rain, rowD so 3 encG B.signs] (.tuple #[i64 (firstB B d).1, i64 (firstB B d).2]) := by
  refine FnV.introD Try.call26 Try.func26 rfl Try.ntmps26 rfl ?_
  intro W M Rf
  refine r_seq ?_
  refine r_region ?_
  refine o_boxA rfl rfl rfl rfl rfl (fun b2 => ?_)
  refine o_box1 rfl rfl rfl rfl rfl rfl (fun b3 => ?_)
  refine o_q _ rfl rfl rfl (v_assign rfl rfl) ?_
  refine o_alloc rfl inf31 rfl rfl rfl rfl rfl (fun b5 => ?_)
  refine o_nil ?_
  with_reducible refine r_then ?_
  refine r_seq ?_
  refine r_region ?_
  refine o_defer rfl rfl rfl rfl ?_
  refine o_nil ?_
  with_reducible refine r_then ?_
  refine r_seq ?_
  refine Imp.sealB b3 ?_
  refine r_parX 13 mixed (by kernel_rfl) (by rfl) ?_
  refine p_q _ rfl rfl rfl (fun _ _ => v_ldW rfl Try.underlying28 rfl inf28 rfl rfl) ?_
  refine p_q _ rfl rfl rfl (fun _ _ => v_makeFunc rfl rfl rfl) ?_
  refine p_deadX (open_x1 B bo ro so bc rc sc 72 [pt b3 0] [boxF b3 3 [i64 d]] hl1 hl2 hl3 hng) rfl rfl rfl rfl rfl SubRC.sub ?_
  refine p_acc (by simp only [List.nil_append, List.cons_append]; rfl) ?_
  refine p_dead 2 rfl rfl rfl (fun _ h => h) (by kernel_rfl) rfl rfl rfl ?_
  refine p_q _ rfl rfl rfl (fun _ _ => v_fieldAddr rfl Try.underlying28 inf22 rfl rfl rfl rfl) ?_
  refine p_q _ rfl rfl rfl (fun _ _ => v_ld1 rfl Try.underlying22 rfl rfl rfl) ?_
  refine p_q _ rfl rfl rfl (fun _ _ => v_len rfl rfl Try.underlying22 rfl) ?_
  refine p_q _ rfl rfl rfl (fun _ _ => v_lf1 rfl Try.underlying3 rfl rfl rfl) ?_
  refine p_acc (by simp only [List.nil_append, List.cons_append]; rfl) ?_
  refine p_dead 3 rfl rfl rfl (fun _ h => h) (by kernel_rfl) rfl rfl rfl ?_
  refine p_acc (by simp only [List.nil_append, List.cons_append]; rfl) ?_
  refine p_dead 8 rfl rfl rfl (fun _ h => h) (by kernel_rfl) rfl rfl rfl ?_
  refine p_acc (by simp only [List.nil_append, List.cons_append]; rfl) ?_
  refine p_dead 9 rfl rfl rfl (fun _ h => h) (by kernel_rfl) rfl rfl rfl ?_
  refine p_acc (by simp only [List.nil_append, List.cons_append]; rfl) ?_
  refine p_dead 9 rfl rfl rfl (fun _ h => h) (by kernel_rfl) rfl rfl rfl ?_
  refine p_acc (by simp only [List.nil_append, List.cons_append]; rfl) ?_
  refine p_dead 10 rfl rfl rfl (fun _ h => h) (by kernel_rfl) rfl rfl rfl ?_
  refine p_nilX (panOf (.iface 109 (i64 1))) (by simp only [List.nil_append, List.cons_append]; rfl) rfl (by kernel_rfl) rfl ?_ ?_
  ·
    with_reducible refine r_then_panic ?_
    exact d_panv answer_ans (Rd.two rfl (RdI.tmp rfl) (RdI.cell1 Try.underlying31 rfl rfl rfl)) (by rw [firstB, ansE_n (chkB_1 hng) (by decide)]; try rfl) SelMC.sel SubRC.sub
  ·
    refine f_q rfl ?_
    refine f_q rfl ?_
    exact f_dead
set_option maxHeartbeats 4000000 in
theorem first_x2 (d : Int) (hl1 : B.banks.length ≤ 40) (hl2 : B.rain.length ≤ 40) (hl3 : B.signs.length ≤ 40) (hg : GoodB B) (hv : isD B d = false) : FnV Try.prog 26 [valB B bo ro so bc rc sc, i64 d] [rowD bo 4 encB B.banks, rowD ro 2 encS B.rain, rowD so 3 encG B.signs] (.tuple #[i64 (firstB B d).1, i64 (firstB B d).2]) := by
  refine FnV.introD Try.call26 Try.func26 rfl Try.ntmps26 rfl ?_
  intro W M Rf
  refine r_seq ?_
  refine r_region ?_
  refine o_boxA rfl rfl rfl rfl rfl (fun b2 => ?_)
  refine o_box1 rfl rfl rfl rfl rfl rfl (fun b3 => ?_)
  refine o_q _ rfl rfl rfl (v_assign rfl rfl) ?_
  refine o_alloc rfl inf31 rfl rfl rfl rfl rfl (fun b5 => ?_)
  refine o_nil ?_
  with_reducible refine r_then ?_
  refine r_seq ?_
  refine r_region ?_
  refine o_defer rfl rfl rfl rfl ?_
  refine o_nil ?_
  with_reducible refine r_then ?_
  refine r_seq ?_
  refine Imp.sealB b3 ?_
  refine r_parX 13 mixed (by kernel_rfl) (by rfl) ?_
  refine p_q _ rfl rfl rfl (fun _ _ => v_ldW rfl Try.underlying28 rfl inf28 rfl rfl) ?_
  refine p_q _ rfl rfl rfl (fun _ _ => v_makeFunc rfl rfl rfl) ?_
  refine p_deadX (open_x2 B bo ro so bc rc sc 72 [pt b3 0] [boxF b3 3 [i64 d]] (fun bb mb => FnM.to (day72_m B bo ro so bc rc sc bb mb d b3) (congrArg Value.bool hv)) hl1 hl2 hl3 hg) rfl rfl rfl rfl rfl SubRC.sub ?_
  refine p_acc (by simp only [List.nil_append, List.cons_append]; rfl) ?_
  refine p_dead 2 rfl rfl rfl (fun _ h => h) (by kernel_rfl) rfl rfl rfl ?_
  refine p_q _ rfl rfl rfl (fun _ _ => v_fieldAddr rfl Try.underlying28 inf22 rfl rfl rfl rfl) ?_
  refine p_q _ rfl rfl rfl (fun _ _ => v_ld1 rfl Try.underlying22 rfl rfl rfl) ?_
  refine p_q _ rfl rfl rfl (fun _ _ => v_len rfl rfl Try.underlying22 rfl) ?_
  refine p_q _ rfl rfl rfl (fun _ _ => v_lf1 rfl Try.underlying3 rfl rfl rfl) ?_
  refine p_acc (by simp only [List.nil_append, List.cons_append]; rfl) ?_
  refine p_dead 3 rfl rfl rfl (fun _ h => h) (by kernel_rfl) rfl rfl rfl ?_
  refine p_acc (by simp only [List.nil_append, List.cons_append]; rfl) ?_
  refine p_dead 8 rfl rfl rfl (fun _ h => h) (by kernel_rfl) rfl rfl rfl ?_
  refine p_acc (by simp only [List.nil_append, List.cons_append]; rfl) ?_
  refine p_dead 9 rfl rfl rfl (fun _ h => h) (by kernel_rfl) rfl rfl rfl ?_
  refine p_acc (by simp only [List.nil_append, List.cons_append]; rfl) ?_
  refine p_dead 9 rfl rfl rfl (fun _ h => h) (by kernel_rfl) rfl rfl rfl ?_
  refine p_acc (by simp only [List.nil_append, List.cons_append]; rfl) ?_
  refine p_dead 10 rfl rfl rfl (fun _ h => h) (by kernel_rfl) rfl rfl rfl ?_
  refine p_nilX (panOf (.iface 109 (i64 2))) (by simp only [List.nil_append, List.cons_append]; rfl) rfl (by kernel_rfl) rfl ?_ ?_
  ·
    with_reducible refine r_then_panic ?_
    exact d_panv answer_ans (Rd.two rfl (RdI.tmp rfl) (RdI.cell1 Try.underlying31 rfl rfl rfl)) (by rw [firstB, ansE_n (chkB_2 hg hv) (by decide)]; try rfl) SelMC.sel SubRC.sub
  ·
    refine f_q rfl ?_
    refine f_q rfl ?_
    exact f_dead
set_option maxHeartbeats 4000000 in
theorem first_x3 (d : Int) (hl1 : B.banks.length ≤ 40) (hl2 : B.rain.length ≤ 40) (hl3 : B.signs.length ≤ 40) (hg : GoodB B) (hv : isD B d = true) (hc : canB B (allS B) 0 false = false) : FnV Try.prog 26 [valB B bo ro so bc rc sc, i64 d] [rowD bo 4 encB B.banks, rowD ro 2 encS B.rain, rowD so 3 encG B.signs] (.tuple #[i64 (firstB B d).1, i64 (firstB B d).2]) := by
  refine FnV.introD Try.call26 Try.func26 rfl Try.ntmps26 rfl ?_
  intro W M Rf
  refine r_seq ?_
  refine r_region ?_
  refine o_boxA rfl rfl rfl rfl rfl (fun b2 => ?_)
  refine o_box1 rfl rfl rfl rfl rfl rfl (fun b3 => ?_)
  refine o_q _ rfl rfl rfl (v_assign rfl rfl) ?_
  refine o_alloc rfl inf31 rfl rfl rfl rfl rfl (fun b5 => ?_)
  refine o_nil ?_
  with_reducible refine r_then ?_
  refine r_seq ?_
  refine r_region ?_
  refine o_defer rfl rfl rfl rfl ?_
  refine o_nil ?_
  with_reducible refine r_then ?_
  refine r_seq ?_
  refine Imp.sealB b3 ?_
  refine r_parX 13 mixed (by kernel_rfl) (by rfl) ?_
  refine p_q _ rfl rfl rfl (fun _ _ => v_ldW rfl Try.underlying28 rfl inf28 rfl rfl) ?_
  refine p_q _ rfl rfl rfl (fun _ _ => v_makeFunc rfl rfl rfl) ?_
  refine p_openL 3 (open_ok B bo ro so bc rc sc 72 [pt b3 0] [boxF b3 3 [i64 d]] (fun bb mb => FnM.to (day72_m B bo ro so bc rc sc bb mb d b3) (congrArg Value.bool hv)) hl1 hl2 hl3 hg) rfl rfl rfl rfl rfl SubRC.sub ?_
  refine p_acc (by simp only [List.nil_append, List.cons_append]; rfl) ?_
  refine p_takeX 2 (told_cx B bo ro bc rc hg hc) rfl rfl rfl rfl (by kernel_rfl) rfl rfl rfl SubRC.sub ?_
  refine p_q _ rfl rfl rfl (fun _ _ => v_fieldAddr rfl Try.underlying28 inf22 rfl rfl rfl rfl) ?_
  refine p_q _ rfl rfl rfl (fun _ _ => v_ld1 rfl Try.underlying22 rfl rfl rfl) ?_
  refine p_q _ rfl rfl rfl (fun _ _ => v_len rfl rfl Try.underlying22 rfl) ?_
  refine p_q _ rfl rfl rfl (fun _ _ => v_lf1 rfl Try.underlying3 rfl rfl rfl) ?_
  refine p_acc (by simp only [List.nil_append, List.cons_append]; rfl) ?_
  refine p_dead 3 rfl rfl rfl (fun _ h => h) (by kernel_rfl) rfl rfl rfl ?_
  refine p_acc (by simp only [List.nil_append, List.cons_append]; rfl) ?_
  refine p_dead 8 rfl rfl rfl (fun _ h => h) (by kernel_rfl) rfl rfl rfl ?_
  refine p_acc (by simp only [List.nil_append, List.cons_append]; rfl) ?_
  refine p_dead 9 rfl rfl rfl (fun _ h => h) (by kernel_rfl) rfl rfl rfl ?_
  refine p_acc (by simp only [List.nil_append, List.cons_append]; rfl) ?_
  refine p_dead 9 rfl rfl rfl (fun _ h => h) (by kernel_rfl) rfl rfl rfl ?_
  refine p_acc (by simp only [List.nil_append, List.cons_append]; rfl) ?_
  refine p_dead 10 rfl rfl rfl (fun _ h => h) (by kernel_rfl) rfl rfl rfl ?_
  refine p_nilX (panOf (.iface 109 (i64 10))) (by simp only [List.nil_append, List.cons_append]; rfl) rfl (by kernel_rfl) rfl ?_ ?_
  ·
    with_reducible refine r_then_panic ?_
    exact d_panv answer_ans (Rd.two rfl (RdI.tmp rfl) (RdI.cell1 Try.underlying31 rfl rfl rfl)) (by rw [firstB, ansE_n (chkB_10 hg hv hc) (by decide)]; try rfl) SelMC.sel SubRC.sub
  ·
    refine f_q rfl ?_
    refine f_q rfl ?_
    refine f_openL rfl (fun b11 => ?_)
    exact f_takeX
set_option maxHeartbeats 4000000 in
theorem first_ok (d : Int) (hl1 : B.banks.length ≤ 40) (hl2 : B.rain.length ≤ 40) (hl3 : B.signs.length ≤ 40) (hg : GoodB B) (hv : isD B d = true) (hc : canB B (allS B) 0 false = true) : FnV Try.prog 26 [valB B bo ro so bc rc sc, i64 d] [rowD bo 4 encB B.banks, rowD ro 2 encS B.rain, rowD so 3 encG B.signs] (.tuple #[i64 (firstB B d).1, i64 (firstB B d).2]) := by
  have hd0 : 0 ≤ d ∧ d ≤ (B.rain.length : Int) := of_decide_eq_true hv
  have hnr := hg.nr
  have hnb := hg.nb
  refine FnV.introD Try.call26 Try.func26 rfl Try.ntmps26 rfl ?_
  intro W M Rf
  refine r_seq ?_
  refine r_region ?_
  refine o_boxA rfl rfl rfl rfl rfl (fun b2 => ?_)
  refine o_box1 rfl rfl rfl rfl rfl rfl (fun b3 => ?_)
  refine o_q _ rfl rfl rfl (v_assign rfl rfl) ?_
  refine o_alloc rfl inf31 rfl rfl rfl rfl rfl (fun b5 => ?_)
  refine o_nil ?_
  with_reducible refine r_then ?_
  refine r_seq ?_
  refine r_region ?_
  refine o_defer rfl rfl rfl rfl ?_
  refine o_nil ?_
  with_reducible refine r_then ?_
  refine r_seq ?_
  refine Imp.sealB b3 ?_
  refine r_par' 13 mixed (by kernel_rfl) (by rfl) ?_
  refine p_q _ rfl rfl rfl (fun _ _ => v_ldW rfl Try.underlying28 rfl inf28 rfl rfl) ?_
  refine p_q _ rfl rfl rfl (fun _ _ => v_makeFunc rfl rfl rfl) ?_
  refine p_openL 3 (open_ok B bo ro so bc rc sc 72 [pt b3 0] [boxF b3 3 [i64 d]] (fun bb mb => FnM.to (day72_m B bo ro so bc rc sc bb mb d b3) (congrArg Value.bool hv)) hl1 hl2 hl3 hg) rfl rfl rfl rfl rfl SubRC.sub ?_
  refine p_acc (by simp only [List.nil_append, List.cons_append]; rfl) ?_
  refine p_take 2 (told_c B bo ro bc rc hg hc) rfl rfl rfl rfl (by kernel_rfl) rfl rfl rfl SubRC.sub ?_
  refine p_q _ rfl rfl rfl (fun _ _ => v_fieldAddr rfl Try.underlying28 inf22 rfl rfl rfl rfl) ?_
  refine p_q _ rfl rfl rfl (fun _ _ => v_ld1 rfl Try.underlying22 rfl rfl rfl) ?_
  refine p_q _ rfl rfl rfl (fun _ _ => v_len rfl rfl Try.underlying22 rfl) ?_
  refine p_q _ rfl rfl rfl (fun _ _ => v_cast (v := i64 ((d.toNat : Nat) : Int)) (v_lf1 rfl Try.underlying3 rfl rfl rfl) (congrArg (Value.int .i64) (by omega))) ?_
  refine p_q _ rfl rfl rfl (fun _ _ => OpQ.fn (first_v (tB B) (knownT_len _ _ _ _) (SmallT.known hg _ _ _) _ B.banks.length d.toNat (by omega) (by omega)) rfl rfl SubRC.sub) ?_
  refine p_q _ rfl rfl rfl (fun _ _ => v_move rfl rfl) ?_
  refine p_q _ rfl rfl rfl (fun _ _ => v_extract rfl rfl rfl) ?_
  refine p_q _ rfl rfl rfl (fun _ _ => v_extract rfl rfl rfl) ?_
  refine p_q _ rfl rfl rfl (fun _ _ => v_assign rfl rfl) ?_
  refine p_nil2 (by simp only [List.nil_append, List.cons_append]; rfl) rfl ?_ (by kernel_rfl)
  refine f_q rfl ?_
  refine f_q rfl ?_
  refine f_openL rfl (fun b11 => ?_)
  refine f_take rfl ?_
  refine f_q rfl ?_
  refine f_q rfl ?_
  refine f_q rfl ?_
  refine f_q rfl ?_
  refine f_q rfl ?_
  refine f_q rfl ?_
  refine f_q rfl ?_
  refine f_q rfl ?_
  refine f_q rfl ?_
  refine f_nil ?_
  refine o_q _ rfl rfl rfl (v_assign rfl rfl) ?_
  refine o_nil ?_
  with_reducible refine r_then ?_
  refine r_seq ?_
  refine r_region ?_
  refine o_q _ rfl rfl rfl (v_move rfl rfl) ?_
  refine o_test rfl rfl rfl (v_lss rfl rfl rfl) (fun h21 => ?_) (fun h21 => ?_)
  all_goals
    first | refine o_q _ rfl rfl rfl (OpQ.fn (ask_t _) rfl rfl SubRC.sub) ?_ | refine o_fnx (ask_f _) rfl rfl rfl SubRC.sub ?_
    repeat (first | with_reducible refine r_then_panic ?_)
    try (exact d_panv answer_ans (Rd.two rfl (RdI.tmp rfl) (RdI.cell1 Try.underlying31 rfl rfl rfl)) (by rw [firstB, ansE_4 (chkB_0 hg hv hc) (by assumption)]; try rfl) SelMC.sel SubRC.sub)
    all_goals
      refine o_nil ?_
      with_reducible refine r_then ?_
      refine r_seq ?_
      refine r_region ?_
      refine o_q _ rfl rfl rfl (v_move rfl rfl) ?_
      refine o_q _ rfl rfl rfl (v_assign rfl rfl) ?_
      refine o_st rfl inf31 rfl rfl rfl rfl rfl rfl rfl rfl ?_
      refine o_nil ?_
      with_reducible refine r_then ?_
      refine r_ret ?_
      exact d_retv answer_ans (Rd.two rfl (RdI.tmp rfl) (RdI.cell1 Try.underlying31 rfl rfl rfl)) (by rw [firstB, ansE_0 (chkB_0 hg hv hc) (by assumption)]; try rfl) SelMC.sel SubRC.sub
theorem First_v (d : Int) (hl1 : B.banks.length ≤ 40) (hl2 : B.rain.length ≤ 40) (hl3 : B.signs.length ≤ 40) : FnV Try.prog 26 [valB B bo ro so bc rc sc, i64 d] [rowD bo 4 encB B.banks, rowD ro 2 encS B.rain, rowD so 3 encG B.signs] (.tuple #[i64 (firstB B d).1, i64 (firstB B d).2]) := by
  by_cases hg : GoodB B
  · cases hv : isD B d
    · exact first_x2 B bo ro so bc rc sc d hl1 hl2 hl3 hg hv
    · cases hc : canB B (allS B) 0 false
      · exact first_x3 B bo ro so bc rc sc d hl1 hl2 hl3 hg hv hc
      · exact first_ok B bo ro so bc rc sc d hl1 hl2 hl3 hg hv hc
  · exact first_x1 B bo ro so bc rc sc d hl1 hl2 hl3 hg
end Go.Proofs.Ytoggggnlponfhaa


namespace Go.Proofs.Ytoggggnlponfhaa
open Go.G Burst8
set_option maxRecDepth 1000000
attribute [local irreducible] G.ParO G.Fin
theorem o_openS {P : Program} {W : World} {n : Nat} {D : List Deferred} {L : Tm} {M : List Res} {R : List Fact} {Q : Exit → Act → World → Prop} {o : Oper} {ops : Array Oper} {rest : List Oper} {k : FuncId} {args : List Value} {R0 : List Fact} {res : Nat → Res} {xs : List Operand} {ts : Array TypeId} {d : Nat}
    (h : FnS P k args [] R0 (fun e M' R' => ∃ b, e = .returned (pt b 0) ∧ M' = [res b] ∧ R' = [])) (ho : o.op = .call { callee := .value (.func k), args := xs.toArray, argTypes := ts })
    (hx : evs L xs = some args) (hg : o.guard = none) (hdst : o.dst = some d) (hd : Nat.blt d n = true) (hs : SubR R R0)
    (hret : ∀ b, Imp W n D ((d, pt b 0) :: L) (res b :: M) R (wpList P ops Q rest)) : Imp W n D L M R (wpList P ops Q (o :: rest)) := by
  refine o_call h ho [] [] rfl hx (by simp) hg (by simp [okD, hdst, hd]) (Mf := M) SelM.refl hs ?_ ?_ ?_
  · rintro v M' R' ⟨b, he, rfl, rfl⟩
    cases he
    rw [hdst]
    exact hret b
  · rintro c M' R' ⟨b, he, _⟩; cases he
  · rintro M' R' ⟨b, he, _⟩; cases he
theorem o_fnxM {P : Program} {W : World} {n : Nat} {D : List Deferred} {L : Tm} {M M1 : List Res} {R : List Fact} {Q : Exit → Act → World → Prop} {o : Oper} {ops : Array Oper} {rest : List Oper} {k : FuncId} {args : List Value} {R0 : List Fact} {m : Res} {pv : Value} {xs : List Operand} {ts : Array TypeId}
    (h : FnS P k args [m] R0 (fun e M' R' => e = .panicked (panOf pv) ∧ M' = [m] ∧ R' = [])) (ho : o.op = .call { callee := .value (.func k), args := xs.toArray, argTypes := ts })
    (hx : evs L xs = some args) (hg : o.guard = none) (hs : SubR R R0) [hM : DelC M m M1]
    (hpan : Imp W n D L M R (Q (.panic (panOf pv)))) : Imp W n D L M R (wpList P ops Q (o :: rest)) := by
  intro a w h1 h2 h3
  refine wpList_plain hg fun K hK => ?_
  unfold Oper.wp
  rw [exec_call [] [] ho rfl (h1.evs hx) h.enter]
  simp only [List.nil_append, List.append_nil]
  refine (h.calls W M1 R w ((h3.perm hM.del.perm).both hs)).mono ?_
  rintro e w' ⟨M2, R2, ⟨rfl, rfl, rfl⟩, hw'⟩
  have h4 : St W (m :: M1) R w' := hw'.weak (fun _ hφ => List.mem_append_right _ (List.mem_append_right _ hφ))
  exact hpan a w' h1 h2 (h4.perm hM.del.perm.symm)
/-- A set, by bits. -/
def mvTo (p : Nat → Bool) : Nat → Nat
  | 0 => 0
  | k + 1 => mvTo p k ||| (if p k then 2 ^ k else 0)
theorem mvTo_lt (p : Nat → Bool) : ∀ k, mvTo p k < 2 ^ k
  | 0 => by show 0 < 1; decide
  | k + 1 => by
    have h := mvTo_lt p k
    have h2 : mvTo p k < 2 ^ (k + 1) := Nat.lt_of_lt_of_le h (Nat.pow_le_pow_right (by decide) (by omega))
    unfold mvTo
    refine Nat.or_lt_two_pow h2 ?_
    split
    · exact Nat.pow_lt_pow_right (by decide) (by omega)
    · exact Nat.two_pow_pos _
theorem mvTo_y {p : Nat → Bool} {k : Nat} (h : p k = true) : mvTo p (k + 1) = mvTo p k ||| 2 ^ k := by rw [mvTo, h]; rfl
theorem mvTo_n {p : Nat → Bool} {k : Nat} (h : ¬ p k = true) : mvTo p (k + 1) = mvTo p k := by rw [mvTo, if_neg h, Nat.or_zero]
def sureB (B : Bog) (d : Nat) : Nat → Bool := fun k => decide ((marginT (tB B) k d).hi < 0)
def someB (B : Bog) (d : Nat) : Nat → Bool := fun k => decide ((marginT (tB B) k d).lo < 0)
def movesB (B : Bog) (d : Int) : (Nat × Nat) × Int := ansB B (isD B d) (0, 0) (mvTo (sureB B d.toNat) B.banks.length, mvTo (someB B d.toNat) B.banks.length)
/-- The last of which something is so. -/
def lastTo (p : Nat → Bool) : Nat → Int
  | 0 => -1
  | k + 1 => if p k then (k : Int) else lastTo p k
theorem lastTo_y {p : Nat → Bool} {k : Nat} (h : p k = true) : lastTo p (k + 1) = (k : Int) := if_pos h
theorem lastTo_n {p : Nat → Bool} {k : Nat} (h : ¬ p k = true) : lastTo p (k + 1) = lastTo p k := if_neg h
def safeB (B : Bog) : Nat → Bool := fun d => decide (0 ≤ (firstT (tB B) B.banks.length d).2)
def lastB (B : Bog) : Int := lastTo (safeB B) (B.rain.length + 1)
def untilB (B : Bog) : Int × Int := ansE B true 0 (lastB B) (0 ≤ lastB B)
attribute [local irreducible] fw fwR fwC emptyT tabOf knownT canB boundsL
variable (B : Bog) (bo ro so : Option Addr) (bc rc sc : Nat) (bb mb : Nat)
set_option maxHeartbeats 4000000 in
theorem moves_x1 (d : Int) (hl1 : B.banks.length ≤ 40) (hl2 : B.rain.length ≤ 40) (hl3 : B.signs.length ≤ 40) (hng : ¬ GoodB B) : FnV Try.prog 18 [valB B bo ro so bc rc sc, i64 d] [rowD bo 4 encB B.banks, rowD ro 2 encS B.rain, rowD so 3 encG B.signs] (.tuple #[i64 (movesB B d).1.1, i64 (movesB B d).1.2, i64 (movesB B d).2]) := by
  refine FnV.introD Try.call18 Try.func18 rfl Try.ntmps18 rfl ?_
  intro W M Rf
  refine r_seq ?_
  refine r_region ?_
  refine o_boxA rfl rfl rfl rfl rfl (fun b2 => ?_)
  refine o_box1 rfl rfl rfl rfl rfl rfl (fun b3 => ?_)
  refine o_q _ rfl rfl rfl (v_assign rfl rfl) ?_
  refine o_q _ rfl rfl rfl (v_assign rfl rfl) ?_
  refine o_alloc rfl inf31 rfl rfl rfl rfl rfl (fun b6 => ?_)
  refine o_nil ?_
  with_reducible refine r_then ?_
  refine r_seq ?_
  refine r_region ?_
  refine o_defer rfl rfl rfl rfl ?_
  refine o_nil ?_
  with_reducible refine r_then ?_
  refine r_seq ?_
  refine Imp.sealB b3 ?_
  refine r_region ?_
  refine o_q _ rfl rfl rfl (v_ldW rfl Try.underlying28 rfl inf28 rfl rfl) ?_
  refine o_q _ rfl rfl rfl (v_makeFunc rfl rfl rfl) ?_
  refine o_fnx (open_x1 B bo ro so bc rc sc 59 [pt b3 0] [boxF b3 3 [i64 d]] hl1 hl2 hl3 hng) rfl rfl rfl SubRC.sub ?_
  with_reducible refine r_then_panic ?_
  exact d_panv answer_ans (Rd.three rfl (RdI.tmp rfl) (RdI.tmp rfl) (RdI.cell1 Try.underlying31 rfl rfl rfl)) (by rw [movesB, ansB_n (chkB_1 hng) (by decide)]; try rfl) SelMC.sel SubRC.sub
set_option maxHeartbeats 4000000 in
theorem moves_x2 (d : Int) (hl1 : B.banks.length ≤ 40) (hl2 : B.rain.length ≤ 40) (hl3 : B.signs.length ≤ 40) (hg : GoodB B) (hv : isD B d = false) : FnV Try.prog 18 [valB B bo ro so bc rc sc, i64 d] [rowD bo 4 encB B.banks, rowD ro 2 encS B.rain, rowD so 3 encG B.signs] (.tuple #[i64 (movesB B d).1.1, i64 (movesB B d).1.2, i64 (movesB B d).2]) := by
  refine FnV.introD Try.call18 Try.func18 rfl Try.ntmps18 rfl ?_
  intro W M Rf
  refine r_seq ?_
  refine r_region ?_
  refine o_boxA rfl rfl rfl rfl rfl (fun b2 => ?_)
  refine o_box1 rfl rfl rfl rfl rfl rfl (fun b3 => ?_)
  refine o_q _ rfl rfl rfl (v_assign rfl rfl) ?_
  refine o_q _ rfl rfl rfl (v_assign rfl rfl) ?_
  refine o_alloc rfl inf31 rfl rfl rfl rfl rfl (fun b6 => ?_)
  refine o_nil ?_
  with_reducible refine r_then ?_
  refine r_seq ?_
  refine r_region ?_
  refine o_defer rfl rfl rfl rfl ?_
  refine o_nil ?_
  with_reducible refine r_then ?_
  refine r_seq ?_
  refine Imp.sealB b3 ?_
  refine r_region ?_
  refine o_q _ rfl rfl rfl (v_ldW rfl Try.underlying28 rfl inf28 rfl rfl) ?_
  refine o_q _ rfl rfl rfl (v_makeFunc rfl rfl rfl) ?_
  refine o_fnx (open_x2 B bo ro so bc rc sc 59 [pt b3 0] [boxF b3 3 [i64 d]] (fun bb mb => FnM.to (day59_m B bo ro so bc rc sc bb mb d b3) (congrArg Value.bool hv)) hl1 hl2 hl3 hg) rfl rfl rfl SubRC.sub ?_
  with_reducible refine r_then_panic ?_
  exact d_panv answer_ans (Rd.three rfl (RdI.tmp rfl) (RdI.tmp rfl) (RdI.cell1 Try.underlying31 rfl rfl rfl)) (by rw [movesB, ansB_n (chkB_2 hg hv) (by decide)]; try rfl) SelMC.sel SubRC.sub
set_option maxHeartbeats 4000000 in
theorem moves_x3 (d : Int) (hl1 : B.banks.length ≤ 40) (hl2 : B.rain.length ≤ 40) (hl3 : B.signs.length ≤ 40) (hg : GoodB B) (hv : isD B d = true) (hc : canB B (allS B) 0 false = false) : FnV Try.prog 18 [valB B bo ro so bc rc sc, i64 d] [rowD bo 4 encB B.banks, rowD ro 2 encS B.rain, rowD so 3 encG B.signs] (.tuple #[i64 (movesB B d).1.1, i64 (movesB B d).1.2, i64 (movesB B d).2]) := by
  refine FnV.introD Try.call18 Try.func18 rfl Try.ntmps18 rfl ?_
  intro W M Rf
  refine r_seq ?_
  refine r_region ?_
  refine o_boxA rfl rfl rfl rfl rfl (fun b2 => ?_)
  refine o_box1 rfl rfl rfl rfl rfl rfl (fun b3 => ?_)
  refine o_q _ rfl rfl rfl (v_assign rfl rfl) ?_
  refine o_q _ rfl rfl rfl (v_assign rfl rfl) ?_
  refine o_alloc rfl inf31 rfl rfl rfl rfl rfl (fun b6 => ?_)
  refine o_nil ?_
  with_reducible refine r_then ?_
  refine r_seq ?_
  refine r_region ?_
  refine o_defer rfl rfl rfl rfl ?_
  refine o_nil ?_
  with_reducible refine r_then ?_
  refine r_seq ?_
  refine Imp.sealB b3 ?_
  refine r_region ?_
  refine o_q _ rfl rfl rfl (v_ldW rfl Try.underlying28 rfl inf28 rfl rfl) ?_
  refine o_q _ rfl rfl rfl (v_makeFunc rfl rfl rfl) ?_
  refine o_openS (res := openR B bo ro bc rc) (open_ok B bo ro so bc rc sc 59 [pt b3 0] [boxF b3 3 [i64 d]] (fun bb mb => FnM.to (day59_m B bo ro so bc rc sc bb mb d b3) (congrArg Value.bool hv)) hl1 hl2 hl3 hg) rfl rfl rfl rfl rfl SubRC.sub (fun b14 => ?_)
  refine opened (B := B) (bo := bo) (ro := ro) (bc := bc) (rc := rc) (bb := b14) (fun mb1 so1 sc1 => ?_)
  refine o_fnxM (told_x B bo ro so1 bc rc sc1 b14 mb1 hg hc) rfl rfl rfl SubRC.sub ?_
  with_reducible refine r_then_panic ?_
  exact d_panv answer_ans (Rd.three rfl (RdI.tmp rfl) (RdI.tmp rfl) (RdI.cell1 Try.underlying31 rfl rfl rfl)) (by rw [movesB, ansB_n (chkB_10 hg hv hc) (by decide)]; try rfl) SelMC.sel SubRC.sub
set_option maxHeartbeats 4000000 in
theorem moves_ok (d : Int) (hl1 : B.banks.length ≤ 40) (hl2 : B.rain.length ≤ 40) (hl3 : B.signs.length ≤ 40) (hg : GoodB B) (hv : isD B d = true) (hc : canB B (allS B) 0 false = true) : FnV Try.prog 18 [valB B bo ro so bc rc sc, i64 d] [rowD bo 4 encB B.banks, rowD ro 2 encS B.rain, rowD so 3 encG B.signs] (.tuple #[i64 (movesB B d).1.1, i64 (movesB B d).1.2, i64 (movesB B d).2]) := by
  have hd0 : 0 ≤ d ∧ d ≤ (B.rain.length : Int) := of_decide_eq_true hv
  have hnr := hg.nr
  have hnb := hg.nb
  refine FnV.introD Try.call18 Try.func18 rfl Try.ntmps18 rfl ?_
  intro W M Rf
  refine r_seq ?_
  refine r_region ?_
  refine o_boxA rfl rfl rfl rfl rfl (fun b2 => ?_)
  refine o_box1 rfl rfl rfl rfl rfl rfl (fun b3 => ?_)
  refine o_q _ rfl rfl rfl (v_assign rfl rfl) ?_
  refine o_q _ rfl rfl rfl (v_assign rfl rfl) ?_
  refine o_alloc rfl inf31 rfl rfl rfl rfl rfl (fun b6 => ?_)
  refine o_nil ?_
  with_reducible refine r_then ?_
  refine r_seq ?_
  refine r_region ?_
  refine o_defer rfl rfl rfl rfl ?_
  refine o_nil ?_
  with_reducible refine r_then ?_
  refine r_seq ?_
  refine Imp.sealB b3 ?_
  refine r_region ?_
  refine o_q _ rfl rfl rfl (v_ldW rfl Try.underlying28 rfl inf28 rfl rfl) ?_
  refine o_q _ rfl rfl rfl (v_makeFunc rfl rfl rfl) ?_
  refine o_openS (res := openR B bo ro bc rc) (open_ok B bo ro so bc rc sc 59 [pt b3 0] [boxF b3 3 [i64 d]] (fun bb mb => FnM.to (day59_m B bo ro so bc rc sc bb mb d b3) (congrArg Value.bool hv)) hl1 hl2 hl3 hg) rfl rfl rfl rfl rfl SubRC.sub (fun b14 => ?_)
  refine opened (B := B) (bo := bo) (ro := ro) (bc := bc) (rc := rc) (bb := b14) (fun mb1 so1 sc1 => ?_)
  refine o_q _ rfl rfl rfl (OpQ.fnm (told_m B bo ro so1 bc rc sc1 b14 mb1 hg hc) rfl [] [] rfl rfl rfl SubRC.sub) ?_
  refine o_alloc (zs := zeroK) rfl inf73 rfl (by kernel_rfl) rfl rfl rfl (fun b7 => ?_)
  refine o_st (us := kC (tB B) (canB B (allS B) 0 false)) rfl inf73 rfl rfl rfl rfl rfl (kC_len (knownT_len _ _ _ _) _) (kC_one _ _) (Nat.ble_eq_true_of_le (by rw [kC_len (knownT_len _ _ _ _), zeroK_len]; decide)) ?_
  refine o_nil ?_
  with_reducible refine r_then ?_
  refine r_seq ?_
  refine Imp.box_to b7 (kC (tB B) (canB B (allS B) 0 false)) (splice_all (by rw [kC_len (knownT_len _ _ _ _), zeroK_len])) ?_
  refine r_region ?_
  refine o_q _ rfl rfl rfl (v_assign rfl rfl) ?_
  refine o_q _ rfl rfl rfl (v_assign rfl rfl) ?_
  refine o_nil ?_
  with_reducible refine r_then ?_
  refine r_seq ?_
  refine r_seq ?_
  refine r_region ?_
  refine o_q _ rfl rfl rfl (v_fieldAddr rfl Try.underlying28 inf22 rfl rfl rfl rfl) ?_
  refine o_q _ rfl rfl rfl (v_ld1 rfl Try.underlying22 rfl rfl rfl) ?_
  refine o_q _ rfl rfl rfl (v_len rfl rfl Try.underlying22 rfl) ?_
  refine o_q _ rfl rfl rfl (v_move rfl rfl) ?_
  refine o_nil ?_
  with_reducible refine r_then ?_
  refine r_block ?_
  refine r_loop (ι := Nat) (fun k => k ≤ B.banks.length) (fun k => [(3, pt b3 0), (4, i64 0), (5, i64 0), (6, pt b6 0), (7, pt b7 0), (8, i64 (mvTo (sureB B d.toNat) k)), (9, i64 (mvTo (someB B d.toNat) k)), (18, i64 B.banks.length), (19, i64 k)]) (fun k => bx b7 73 (kC (tB B) (canB B (allS B) 0 false)) :: memo Try.prog 93 (okB B) mb1 :: bx b6 31 [i64 0] :: bx b2 28 (cellsB B bo ro so bc rc sc) :: M) (fun k => rowD so1 3 encG B.signs :: boxF b14 115 [.slice bo B.banks.length bc, i64 B.wlo, i64 B.whi, .slice ro B.rain.length rc, i64 B.drain, .slice so1 B.signs.length sc1, .map (some mb1)] :: boxF b3 3 [i64 d] :: ([rowD bo 4 encB B.banks, rowD ro 2 encS B.rain, rowD so 3 encG B.signs] ++ Rf)) (fun k => B.banks.length - k) 0 ?_ ?_ ?_
  ·
    refine Imp.box_to b6 [i64 0] rfl ?_
    exact r_here (by repeat (first | exact FSub.nil | refine FSub.cons rfl ?_)) SelMC.sel SubRC.sub
  ·
    omega
  ·
    rintro k hI0
    have hm1 : mvTo (sureB B d.toNat) k < 2 ^ 62 := Nat.lt_of_lt_of_le (mvTo_lt _ _) (Nat.pow_le_pow_right (by decide) (by omega))
    have hm2 : mvTo (someB B d.toNat) k < 2 ^ 62 := Nat.lt_of_lt_of_le (mvTo_lt _ _) (Nat.pow_le_pow_right (by decide) (by omega))
    have hm3 : 2 ^ k < 2 ^ 62 := Nat.pow_lt_pow_right (by decide) (by omega)
    refine r_seq ?_
    refine r_region ?_
    refine o_q _ rfl rfl rfl (v_lss rfl rfl rfl) ?_
    refine o_nil ?_
    with_reducible refine r_then ?_
    refine r_seq ?_
    refine r_condd rfl (fun hc20 => ?_) (fun hc20 => ?_)
    ·
      refine r_skip ?_
      with_reducible refine r_then ?_
      refine r_seq ?_
      refine r_block ?_
      refine r_seq ?_
      refine r_region ?_
      refine o_q _ rfl rfl rfl (v_move rfl rfl) ?_
      refine o_q _ rfl rfl rfl (v_assign rfl rfl) ?_
      refine o_nil ?_
      with_reducible refine r_then ?_
      refine r_seq ?_
      refine r_region ?_
      refine o_q _ rfl rfl rfl (v_ldW rfl Try.underlying73 rfl inf73 rfl (kC_len (knownT_len _ _ _ _) _)) ?_
      refine o_q _ rfl rfl rfl (v_move rfl rfl) ?_
      refine o_q _ rfl rfl rfl (v_cast (v := i64 ((d.toNat : Nat) : Int)) (v_lf1 rfl Try.underlying3 rfl rfl rfl) (congrArg (Value.int .i64) (by omega))) ?_
      refine o_q _ rfl rfl rfl (OpQ.fn (margin_v (tB B) (knownT_len _ _ _ _) (SmallT.known hg _ _ _) _ k d.toNat (by omega) (by omega)) rfl rfl SubRC.sub) ?_
      refine o_alloc rfl inf24 rfl rfl rfl rfl rfl (fun b11 => ?_)
      refine o_st rfl inf24 rfl rfl rfl rfl rfl rfl rfl rfl ?_
      refine o_nil ?_
      with_reducible refine r_then ?_
      refine r_seq ?_
      refine r_seq ?_
      refine r_region ?_
      refine o_q _ rfl rfl rfl (v_fieldAddr rfl Try.underlying24 inf3 rfl rfl rfl rfl) ?_
      refine o_q _ rfl rfl rfl (v_ld1 rfl Try.underlying3 rfl rfl rfl) ?_
      refine o_q _ rfl rfl rfl (v_lss rfl rfl rfl) ?_
      refine o_nil ?_
      with_reducible refine r_then ?_
      refine r_condd rfl (fun hc28 => ?_) (fun hc28 => ?_)
      ·
        refine r_region ?_
        refine o_q _ rfl rfl rfl (v_move rfl rfl) ?_
        refine o_q _ rfl rfl rfl (v_move rfl rfl) ?_
        refine o_q _ rfl rfl rfl (v_shl1 rfl rfl rfl (by omega) rfl) ?_
        refine o_q _ rfl rfl rfl (v_orn rfl rfl rfl hm1 hm3) ?_
        refine o_q _ rfl rfl rfl (v_assign rfl rfl) ?_
        refine o_nil ?_
        with_reducible refine r_then ?_
        refine r_seq ?_
        refine r_region ?_
        refine o_q _ rfl rfl rfl (v_fieldAddr rfl Try.underlying24 inf3 rfl rfl rfl rfl) ?_
        refine o_q _ rfl rfl rfl (v_ld1 rfl Try.underlying3 rfl rfl rfl) ?_
        refine o_q _ rfl rfl rfl (v_lss rfl rfl rfl) ?_
        refine o_nil ?_
        with_reducible refine r_then ?_
        refine r_condd rfl (fun hc35 => ?_) (fun hc35 => ?_)
        ·
          refine r_region ?_
          refine o_q _ rfl rfl rfl (v_move rfl rfl) ?_
          refine o_q _ rfl rfl rfl (v_move rfl rfl) ?_
          refine o_q _ rfl rfl rfl (v_shl1 rfl rfl rfl (by omega) rfl) ?_
          refine o_q _ rfl rfl rfl (v_orn rfl rfl rfl hm2 hm3) ?_
          refine o_q _ rfl rfl rfl (v_assign rfl rfl) ?_
          refine o_nil ?_
          with_reducible refine r_in_normal ?_; refine r_then ?_
          refine r_region ?_
          refine o_q _ rfl rfl rfl (v_add rfl rfl rfl (by omega)) ?_
          refine o_q _ rfl rfl rfl (v_move rfl rfl) ?_
          refine o_nil ?_
          with_reducible refine r_then ?_
          refine r_next (k + 1) ?_ ?_ ?_
          ·
            exact r_here (by repeat (first | exact FSub.nil | refine FSub.cons rfl ?_ | refine FSub.cons2 rfl (congrArg (fun x : Nat => i64 (x : Int)) (by first | exact (mvTo_y (decide_eq_true (by assumption))).symm | exact (mvTo_n (fun x => absurd (of_decide_eq_true x) (by assumption))).symm)) ?_)) SelMC.sel SubRC.sub
          ·
            omega
          ·
            omega
        ·
          refine r_skip ?_
          with_reducible refine r_in_normal ?_; refine r_then ?_
          refine r_region ?_
          refine o_q _ rfl rfl rfl (v_add rfl rfl rfl (by omega)) ?_
          refine o_q _ rfl rfl rfl (v_move rfl rfl) ?_
          refine o_nil ?_
          with_reducible refine r_then ?_
          refine r_next (k + 1) ?_ ?_ ?_
          ·
            exact r_here (by repeat (first | exact FSub.nil | refine FSub.cons rfl ?_ | refine FSub.cons2 rfl (congrArg (fun x : Nat => i64 (x : Int)) (by first | exact (mvTo_y (decide_eq_true (by assumption))).symm | exact (mvTo_n (fun x => absurd (of_decide_eq_true x) (by assumption))).symm)) ?_)) SelMC.sel SubRC.sub
          ·
            omega
          ·
            omega
      ·
        refine r_skip ?_
        with_reducible refine r_then ?_
        refine r_seq ?_
        refine r_region ?_
        refine o_q _ rfl rfl rfl (v_fieldAddr rfl Try.underlying24 inf3 rfl rfl rfl rfl) ?_
        refine o_q _ rfl rfl rfl (v_ld1 rfl Try.underlying3 rfl rfl rfl) ?_
        refine o_q _ rfl rfl rfl (v_lss rfl rfl rfl) ?_
        refine o_nil ?_
        with_reducible refine r_then ?_
        refine r_condd rfl (fun hc35 => ?_) (fun hc35 => ?_)
        ·
          refine r_region ?_
          refine o_q _ rfl rfl rfl (v_move rfl rfl) ?_
          refine o_q _ rfl rfl rfl (v_move rfl rfl) ?_
          refine o_q _ rfl rfl rfl (v_shl1 rfl rfl rfl (by omega) rfl) ?_
          refine o_q _ rfl rfl rfl (v_orn rfl rfl rfl hm2 hm3) ?_
          refine o_q _ rfl rfl rfl (v_assign rfl rfl) ?_
          refine o_nil ?_
          with_reducible refine r_in_normal ?_; refine r_then ?_
          refine r_region ?_
          refine o_q _ rfl rfl rfl (v_add rfl rfl rfl (by omega)) ?_
          refine o_q _ rfl rfl rfl (v_move rfl rfl) ?_
          refine o_nil ?_
          with_reducible refine r_then ?_
          refine r_next (k + 1) ?_ ?_ ?_
          ·
            exact r_here (by repeat (first | exact FSub.nil | refine FSub.cons rfl ?_ | refine FSub.cons2 rfl (congrArg (fun x : Nat => i64 (x : Int)) (by first | exact (mvTo_y (decide_eq_true (by assumption))).symm | exact (mvTo_n (fun x => absurd (of_decide_eq_true x) (by assumption))).symm)) ?_)) SelMC.sel SubRC.sub
          ·
            omega
          ·
            omega
        ·
          refine r_skip ?_
          with_reducible refine r_in_normal ?_; refine r_then ?_
          refine r_region ?_
          refine o_q _ rfl rfl rfl (v_add rfl rfl rfl (by omega)) ?_
          refine o_q _ rfl rfl rfl (v_move rfl rfl) ?_
          refine o_nil ?_
          with_reducible refine r_then ?_
          refine r_next (k + 1) ?_ ?_ ?_
          ·
            exact r_here (by repeat (first | exact FSub.nil | refine FSub.cons rfl ?_ | refine FSub.cons2 rfl (congrArg (fun x : Nat => i64 (x : Int)) (by first | exact (mvTo_y (decide_eq_true (by assumption))).symm | exact (mvTo_n (fun x => absurd (of_decide_eq_true x) (by assumption))).symm)) ?_)) SelMC.sel SubRC.sub
          ·
            omega
          ·
            omega
    ·
      refine r_exit ?_
      with_reducible refine r_then_exit ?_; refine r_then_exit ?_; refine r_in_here ?_; refine r_then ?_
      refine r_seq ?_
      refine r_region ?_
      refine o_q _ rfl rfl rfl (v_move rfl rfl) ?_
      refine o_q _ rfl rfl rfl (v_move rfl rfl) ?_
      refine o_q _ rfl rfl rfl (v_assign rfl rfl) ?_
      refine o_q _ rfl rfl rfl (v_assign rfl rfl) ?_
      refine o_st rfl inf31 rfl rfl rfl rfl rfl rfl rfl rfl ?_
      refine o_nil ?_
      with_reducible refine r_then ?_
      refine r_ret ?_
      obtain rfl : k = B.banks.length := by omega
      exact d_retv answer_ans (Rd.three rfl (RdI.tmp rfl) (RdI.tmp rfl) (RdI.cell1 Try.underlying31 rfl rfl rfl)) (by rw [movesB, ansB_0 (chkB_0 hg hv hc)]; try rfl) SelMC.sel SubRC.sub
theorem moves_v (d : Int) (hl1 : B.banks.length ≤ 40) (hl2 : B.rain.length ≤ 40) (hl3 : B.signs.length ≤ 40) : FnV Try.prog 18 [valB B bo ro so bc rc sc, i64 d] [rowD bo 4 encB B.banks, rowD ro 2 encS B.rain, rowD so 3 encG B.signs] (.tuple #[i64 (movesB B d).1.1, i64 (movesB B d).1.2, i64 (movesB B d).2]) := by
  by_cases hg : GoodB B
  · cases hv : isD B d
    · exact moves_x2 B bo ro so bc rc sc d hl1 hl2 hl3 hg hv
    · cases hc : canB B (allS B) 0 false
      · exact moves_x3 B bo ro so bc rc sc d hl1 hl2 hl3 hg hv hc
      · exact moves_ok B bo ro so bc rc sc d hl1 hl2 hl3 hg hv hc
  · exact moves_x1 B bo ro so bc rc sc d hl1 hl2 hl3 hg
set_option maxHeartbeats 4000000 in
theorem until_x1  (hl1 : B.banks.length ≤ 40) (hl2 : B.rain.length ≤ 40) (hl3 : B.signs.length ≤ 40) (hng : ¬ GoodB B) : FnV Try.prog 24 [valB B bo ro so bc rc sc] [rowD bo 4 encB B.banks, rowD ro 2 encS B.rain, rowD so 3 encG B.signs] (.tuple #[i64 (untilB B).1, i64 (untilB B).2]) := by
  refine FnV.introD Try.call24 Try.func24 rfl Try.ntmps24 rfl ?_
  intro W M Rf
  refine r_seq ?_
  refine r_region ?_
  refine o_boxA rfl rfl rfl rfl rfl (fun b1 => ?_)
  refine o_q _ rfl rfl rfl (v_assign rfl rfl) ?_
  refine o_alloc rfl inf31 rfl rfl rfl rfl rfl (fun b3 => ?_)
  refine o_nil ?_
  with_reducible refine r_then ?_
  refine r_seq ?_
  refine r_region ?_
  refine o_defer rfl rfl rfl rfl ?_
  refine o_nil ?_
  with_reducible refine r_then ?_
  refine r_seq ?_
  refine r_region ?_
  refine o_q _ rfl rfl rfl (v_ldW rfl Try.underlying28 rfl inf28 rfl rfl) ?_
  refine o_fnx (open_x1 B bo ro so bc rc sc 71 [] [] hl1 hl2 hl3 hng) rfl rfl rfl SubRC.sub ?_
  with_reducible refine r_then_panic ?_
  exact d_panv answer_ans (Rd.two rfl (RdI.tmp rfl) (RdI.cell1 Try.underlying31 rfl rfl rfl)) (by rw [untilB, ansE_n (chkB_1 hng) (by decide)]; try rfl) SelMC.sel SubRC.sub
set_option maxHeartbeats 4000000 in
theorem until_x3  (hl1 : B.banks.length ≤ 40) (hl2 : B.rain.length ≤ 40) (hl3 : B.signs.length ≤ 40) (hg : GoodB B) (hc : canB B (allS B) 0 false = false) : FnV Try.prog 24 [valB B bo ro so bc rc sc] [rowD bo 4 encB B.banks, rowD ro 2 encS B.rain, rowD so 3 encG B.signs] (.tuple #[i64 (untilB B).1, i64 (untilB B).2]) := by
  refine FnV.introD Try.call24 Try.func24 rfl Try.ntmps24 rfl ?_
  intro W M Rf
  refine r_seq ?_
  refine r_region ?_
  refine o_boxA rfl rfl rfl rfl rfl (fun b1 => ?_)
  refine o_q _ rfl rfl rfl (v_assign rfl rfl) ?_
  refine o_alloc rfl inf31 rfl rfl rfl rfl rfl (fun b3 => ?_)
  refine o_nil ?_
  with_reducible refine r_then ?_
  refine r_seq ?_
  refine r_region ?_
  refine o_defer rfl rfl rfl rfl ?_
  refine o_nil ?_
  with_reducible refine r_then ?_
  refine r_seq ?_
  refine r_region ?_
  refine o_q _ rfl rfl rfl (v_ldW rfl Try.underlying28 rfl inf28 rfl rfl) ?_
  refine o_openS (res := openR B bo ro bc rc) (open_ok B bo ro so bc rc sc 71 [] [] (fun bb mb => always_m B bo ro so bc rc sc bb mb) hl1 hl2 hl3 hg) rfl rfl rfl rfl rfl SubRC.sub (fun b10 => ?_)
  refine opened (B := B) (bo := bo) (ro := ro) (bc := bc) (rc := rc) (bb := b10) (fun mb1 so1 sc1 => ?_)
  refine o_fnxM (told_x B bo ro so1 bc rc sc1 b10 mb1 hg hc) rfl rfl rfl SubRC.sub ?_
  with_reducible refine r_then_panic ?_
  exact d_panv answer_ans (Rd.two rfl (RdI.tmp rfl) (RdI.cell1 Try.underlying31 rfl rfl rfl)) (by rw [untilB, ansE_n (chkB_10 hg rfl hc) (by decide)]; try rfl) SelMC.sel SubRC.sub
set_option maxHeartbeats 4000000 in
theorem until_ok  (hl1 : B.banks.length ≤ 40) (hl2 : B.rain.length ≤ 40) (hl3 : B.signs.length ≤ 40) (hg : GoodB B) (hc : canB B (allS B) 0 false = true) : FnV Try.prog 24 [valB B bo ro so bc rc sc] [rowD bo 4 encB B.banks, rowD ro 2 encS B.rain, rowD so 3 encG B.signs] (.tuple #[i64 (untilB B).1, i64 (untilB B).2]) := by
  have hnr := hg.nr
  have hnb := hg.nb
  refine FnV.introD Try.call24 Try.func24 rfl Try.ntmps24 rfl ?_
  intro W M Rf
  refine r_seq ?_
  refine r_region ?_
  refine o_boxA rfl rfl rfl rfl rfl (fun b1 => ?_)
  refine o_q _ rfl rfl rfl (v_assign rfl rfl) ?_
  refine o_alloc rfl inf31 rfl rfl rfl rfl rfl (fun b3 => ?_)
  refine o_nil ?_
  with_reducible refine r_then ?_
  refine r_seq ?_
  refine r_region ?_
  refine o_defer rfl rfl rfl rfl ?_
  refine o_nil ?_
  with_reducible refine r_then ?_
  refine r_seq ?_
  refine r_region ?_
  refine o_q _ rfl rfl rfl (v_ldW rfl Try.underlying28 rfl inf28 rfl rfl) ?_
  refine o_openS (res := openR B bo ro bc rc) (open_ok B bo ro so bc rc sc 71 [] [] (fun bb mb => always_m B bo ro so bc rc sc bb mb) hl1 hl2 hl3 hg) rfl rfl rfl rfl rfl SubRC.sub (fun b10 => ?_)
  refine opened (B := B) (bo := bo) (ro := ro) (bc := bc) (rc := rc) (bb := b10) (fun mb1 so1 sc1 => ?_)
  refine o_q _ rfl rfl rfl (OpQ.fnm (told_m B bo ro so1 bc rc sc1 b10 mb1 hg hc) rfl [] [] rfl rfl rfl SubRC.sub) ?_
  refine o_alloc (zs := zeroK) rfl inf73 rfl (by kernel_rfl) rfl rfl rfl (fun b4 => ?_)
  refine o_st (us := kC (tB B) (canB B (allS B) 0 false)) rfl inf73 rfl rfl rfl rfl rfl (kC_len (knownT_len _ _ _ _) _) (kC_one _ _) (Nat.ble_eq_true_of_le (by rw [kC_len (knownT_len _ _ _ _), zeroK_len]; decide)) ?_
  refine o_nil ?_
  with_reducible refine r_then ?_
  refine r_seq ?_
  refine Imp.box_to b4 (kC (tB B) (canB B (allS B) 0 false)) (splice_all (by rw [kC_len (knownT_len _ _ _ _), zeroK_len])) ?_
  refine r_region ?_
  refine o_q _ rfl rfl rfl (v_assign rfl rfl) ?_
  refine o_nil ?_
  with_reducible refine r_then ?_
  refine r_seq ?_
  refine r_seq ?_
  refine r_region ?_
  refine o_q _ rfl rfl rfl (v_fieldAddr rfl Try.underlying28 inf25 rfl rfl rfl rfl) ?_
  refine o_q _ rfl rfl rfl (v_ld1 rfl Try.underlying25 rfl rfl rfl) ?_
  refine o_q _ rfl rfl rfl (v_len rfl rfl Try.underlying25 rfl) ?_
  refine o_q _ rfl rfl rfl (v_add rfl rfl rfl (by omega)) ?_
  refine o_q _ rfl rfl rfl (v_move rfl rfl) ?_
  refine o_nil ?_
  with_reducible refine r_then ?_
  refine r_block ?_
  refine r_loop (ι := Nat) (fun d => d ≤ B.rain.length + 1) (fun d => [(1, pt b1 0), (2, i64 0), (3, pt b3 0), (4, pt b4 0), (5, i64 (lastTo (safeB B) d)), (15, i64 ((B.rain.length : Int) + 1)), (16, i64 d)]) (fun d => bx b4 73 (kC (tB B) (canB B (allS B) 0 false)) :: memo Try.prog 93 (okB B) mb1 :: bx b3 31 [i64 0] :: bx b1 28 (cellsB B bo ro so bc rc sc) :: M) (fun d => rowD so1 3 encG B.signs :: boxF b10 115 [.slice bo B.banks.length bc, i64 B.wlo, i64 B.whi, .slice ro B.rain.length rc, i64 B.drain, .slice so1 B.signs.length sc1, .map (some mb1)] :: ([rowD bo 4 encB B.banks, rowD ro 2 encS B.rain, rowD so 3 encG B.signs] ++ Rf)) (fun d => B.rain.length + 1 - d) 0 ?_ ?_ ?_
  ·
    refine Imp.box_to b3 [i64 0] rfl ?_
    exact r_here (by repeat (first | exact FSub.nil | refine FSub.cons rfl ?_)) SelMC.sel SubRC.sub
  ·
    omega
  ·
    rintro d hI0
    refine r_seq ?_
    refine r_region ?_
    refine o_q _ rfl rfl rfl (v_lss rfl rfl rfl) ?_
    refine o_nil ?_
    with_reducible refine r_then ?_
    refine r_seq ?_
    refine r_condd rfl (fun hc17 => ?_) (fun hc17 => ?_)
    ·
      refine r_skip ?_
      with_reducible refine r_then ?_
      refine r_seq ?_
      refine r_block ?_
      refine r_seq ?_
      refine r_region ?_
      refine o_q _ rfl rfl rfl (v_move rfl rfl) ?_
      refine o_q _ rfl rfl rfl (v_assign rfl rfl) ?_
      refine o_nil ?_
      with_reducible refine r_then ?_
      refine r_seq ?_
      refine r_region ?_
      refine o_q _ rfl rfl rfl (v_ldW rfl Try.underlying73 rfl inf73 rfl (kC_len (knownT_len _ _ _ _) _)) ?_
      refine o_q _ rfl rfl rfl (v_fieldAddr rfl Try.underlying28 inf22 rfl rfl rfl rfl) ?_
      refine o_q _ rfl rfl rfl (v_ld1 rfl Try.underlying22 rfl rfl rfl) ?_
      refine o_q _ rfl rfl rfl (v_len rfl rfl Try.underlying22 rfl) ?_
      refine o_q _ rfl rfl rfl (v_move rfl rfl) ?_
      refine o_q _ rfl rfl rfl (OpQ.fn (first_v (tB B) (knownT_len _ _ _ _) (SmallT.known hg _ _ _) _ B.banks.length d (by omega) (by omega)) rfl rfl SubRC.sub) ?_
      refine o_q _ rfl rfl rfl (v_move rfl rfl) ?_
      refine o_q _ rfl rfl rfl (v_extract rfl rfl rfl) ?_
      refine o_q _ rfl rfl rfl (v_extract rfl rfl rfl) ?_
      refine o_q _ rfl rfl rfl (v_assign rfl rfl) ?_
      refine o_q _ rfl rfl rfl (v_assign rfl rfl) ?_
      refine o_nil ?_
      with_reducible refine r_then ?_
      refine r_seq ?_
      refine r_region ?_
      refine o_q _ rfl rfl rfl (v_move rfl rfl) ?_
      refine o_q _ rfl rfl rfl (v_geq rfl rfl rfl) ?_
      refine o_nil ?_
      with_reducible refine r_then ?_
      refine r_condd rfl (fun hc29 => ?_) (fun hc29 => ?_)
      ·
        refine r_region ?_
        refine o_q _ rfl rfl rfl (v_move rfl rfl) ?_
        refine o_q _ rfl rfl rfl (v_assign rfl rfl) ?_
        refine o_nil ?_
        with_reducible refine r_in_normal ?_; refine r_then ?_
        refine r_region ?_
        refine o_q _ rfl rfl rfl (v_add rfl rfl rfl (by omega)) ?_
        refine o_q _ rfl rfl rfl (v_move rfl rfl) ?_
        refine o_nil ?_
        with_reducible refine r_then ?_
        refine r_next (d + 1) ?_ ?_ ?_
        ·
          exact r_here (by repeat (first | exact FSub.nil | refine FSub.cons rfl ?_ | refine FSub.cons2 rfl (congrArg i64 (by first | exact (lastTo_y (decide_eq_true (by assumption))).symm | exact (lastTo_n (fun x => absurd (of_decide_eq_true x) (by assumption))).symm)) ?_)) SelMC.sel SubRC.sub
        ·
          omega
        ·
          omega
      ·
        refine r_skip ?_
        with_reducible refine r_in_normal ?_; refine r_then ?_
        refine r_region ?_
        refine o_q _ rfl rfl rfl (v_add rfl rfl rfl (by omega)) ?_
        refine o_q _ rfl rfl rfl (v_move rfl rfl) ?_
        refine o_nil ?_
        with_reducible refine r_then ?_
        refine r_next (d + 1) ?_ ?_ ?_
        ·
          exact r_here (by repeat (first | exact FSub.nil | refine FSub.cons rfl ?_ | refine FSub.cons2 rfl (congrArg i64 (by first | exact (lastTo_y (decide_eq_true (by assumption))).symm | exact (lastTo_n (fun x => absurd (of_decide_eq_true x) (by assumption))).symm)) ?_)) SelMC.sel SubRC.sub
        ·
          omega
        ·
          omega
    ·
      refine r_exit ?_
      with_reducible refine r_then_exit ?_; refine r_then_exit ?_; refine r_in_here ?_; refine r_then ?_
      refine r_seq ?_
      obtain rfl : d = B.rain.length + 1 := by omega
      refine r_region ?_
      refine o_q _ rfl rfl rfl (v_move rfl rfl) ?_
      refine o_test rfl rfl rfl (v_geq rfl rfl rfl) (fun h33 => ?_) (fun h33 => ?_)
      all_goals
        first | refine o_q _ rfl rfl rfl (OpQ.fn (ask_t _) rfl rfl SubRC.sub) ?_ | refine o_fnx (ask_f _) rfl rfl rfl SubRC.sub ?_
        repeat (first | with_reducible refine r_then_panic ?_)
        try (exact d_panv answer_ans (Rd.two rfl (RdI.tmp rfl) (RdI.cell1 Try.underlying31 rfl rfl rfl)) (by rw [untilB, ansE_4 (chkB_0 hg rfl hc) (by assumption)]; try rfl) SelMC.sel SubRC.sub)
        all_goals
          refine o_nil ?_
          with_reducible refine r_then ?_
          refine r_seq ?_
          refine r_region ?_
          refine o_q _ rfl rfl rfl (v_move rfl rfl) ?_
          refine o_q _ rfl rfl rfl (v_assign rfl rfl) ?_
          refine o_st rfl inf31 rfl rfl rfl rfl rfl rfl rfl rfl ?_
          refine o_nil ?_
          with_reducible refine r_then ?_
          refine r_ret ?_
          exact d_retv answer_ans (Rd.two rfl (RdI.tmp rfl) (RdI.cell1 Try.underlying31 rfl rfl rfl)) (by rw [untilB, ansE_0 (chkB_0 hg rfl hc) (by assumption)]; try rfl) SelMC.sel SubRC.sub
theorem until_v  (hl1 : B.banks.length ≤ 40) (hl2 : B.rain.length ≤ 40) (hl3 : B.signs.length ≤ 40) : FnV Try.prog 24 [valB B bo ro so bc rc sc] [rowD bo 4 encB B.banks, rowD ro 2 encS B.rain, rowD so 3 encG B.signs] (.tuple #[i64 (untilB B).1, i64 (untilB B).2]) := by
  by_cases hg : GoodB B
  · cases hc : canB B (allS B) 0 false
    · exact until_x3 B bo ro so bc rc sc  hl1 hl2 hl3 hg hc
    · exact until_ok B bo ro so bc rc sc  hl1 hl2 hl3 hg hc
  · exact until_x1 B bo ro so bc rc sc  hl1 hl2 hl3 hg
end Go.Proofs.Ytoggggnlponfhaa


namespace Go.Proofs.Ytoggggnlponfhaa
open Go.G Burst8
set_option maxRecDepth 1000000
attribute [local irreducible] G.ParO G.Fin
def gradeB (B : Bog) (d : Int) : Int := if 0 ≤ (firstT (tB B) B.banks.length d.toNat).2 then 2 else if canB B (allS B) d true = true then 1 else 0
def safeV (B : Bog) (d : Int) : Int × Int := ansB B (isD B d) 0 (gradeB B d)
attribute [local irreducible] fw fwR fwC emptyT tabOf knownT canB boundsL
variable (B : Bog) (bo ro so : Option Addr) (bc rc sc : Nat) (bb mb : Nat)
set_option maxHeartbeats 4000000 in
theorem safe_x1 (d : Int) (hl1 : B.banks.length ≤ 40) (hl2 : B.rain.length ≤ 40) (hl3 : B.signs.length ≤ 40) (hng : ¬ GoodB B) : FnV Try.prog 22 [valB B bo ro so bc rc sc, i64 d] [rowD bo 4 encB B.banks, rowD ro 2 encS B.rain, rowD so 3 encG B.signs] (.tuple #[i64 (safeV B d).1, i64 (safeV B d).2]) := by
  refine FnV.introD Try.call22 Try.func22 rfl Try.ntmps22 rfl ?_
  intro W M Rf
  refine r_seq ?_
  refine r_region ?_
  refine o_boxA rfl rfl rfl rfl rfl (fun b2 => ?_)
  refine o_box1 rfl rfl rfl rfl rfl rfl (fun b3 => ?_)
  refine o_q _ rfl rfl rfl (v_assign rfl rfl) ?_
  refine o_alloc rfl inf31 rfl rfl rfl rfl rfl (fun b5 => ?_)
  refine o_nil ?_
  with_reducible refine r_then ?_
  refine r_seq ?_
  refine r_region ?_
  refine o_defer rfl rfl rfl rfl ?_
  refine o_nil ?_
  with_reducible refine r_then ?_
  refine r_seq ?_
  refine Imp.sealB b3 ?_
  refine r_region ?_
  refine o_q _ rfl rfl rfl (v_ldW rfl Try.underlying28 rfl inf28 rfl rfl) ?_
  refine o_q _ rfl rfl rfl (v_makeFunc rfl rfl rfl) ?_
  refine o_fnx (open_x1 B bo ro so bc rc sc 65 [pt b3 0] [boxF b3 3 [i64 d]] hl1 hl2 hl3 hng) rfl rfl rfl SubRC.sub ?_
  with_reducible refine r_then_panic ?_
  exact d_panv answer_ans (Rd.two rfl (RdI.tmp rfl) (RdI.cell1 Try.underlying31 rfl rfl rfl)) (by rw [safeV, ansB_n (chkB_1 hng) (by decide)]; try rfl) SelMC.sel SubRC.sub
set_option maxHeartbeats 4000000 in
theorem safe_x2 (d : Int) (hl1 : B.banks.length ≤ 40) (hl2 : B.rain.length ≤ 40) (hl3 : B.signs.length ≤ 40) (hg : GoodB B) (hv : isD B d = false) : FnV Try.prog 22 [valB B bo ro so bc rc sc, i64 d] [rowD bo 4 encB B.banks, rowD ro 2 encS B.rain, rowD so 3 encG B.signs] (.tuple #[i64 (safeV B d).1, i64 (safeV B d).2]) := by
  refine FnV.introD Try.call22 Try.func22 rfl Try.ntmps22 rfl ?_
  intro W M Rf
  refine r_seq ?_
  refine r_region ?_
  refine o_boxA rfl rfl rfl rfl rfl (fun b2 => ?_)
  refine o_box1 rfl rfl rfl rfl rfl rfl (fun b3 => ?_)
  refine o_q _ rfl rfl rfl (v_assign rfl rfl) ?_
  refine o_alloc rfl inf31 rfl rfl rfl rfl rfl (fun b5 => ?_)
  refine o_nil ?_
  with_reducible refine r_then ?_
  refine r_seq ?_
  refine r_region ?_
  refine o_defer rfl rfl rfl rfl ?_
  refine o_nil ?_
  with_reducible refine r_then ?_
  refine r_seq ?_
  refine Imp.sealB b3 ?_
  refine r_region ?_
  refine o_q _ rfl rfl rfl (v_ldW rfl Try.underlying28 rfl inf28 rfl rfl) ?_
  refine o_q _ rfl rfl rfl (v_makeFunc rfl rfl rfl) ?_
  refine o_fnx (open_x2 B bo ro so bc rc sc 65 [pt b3 0] [boxF b3 3 [i64 d]] (fun bb mb => FnM.to (day65_m B bo ro so bc rc sc bb mb d b3) (congrArg Value.bool hv)) hl1 hl2 hl3 hg) rfl rfl rfl SubRC.sub ?_
  with_reducible refine r_then_panic ?_
  exact d_panv answer_ans (Rd.two rfl (RdI.tmp rfl) (RdI.cell1 Try.underlying31 rfl rfl rfl)) (by rw [safeV, ansB_n (chkB_2 hg hv) (by decide)]; try rfl) SelMC.sel SubRC.sub
set_option maxHeartbeats 4000000 in
theorem safe_x3 (d : Int) (hl1 : B.banks.length ≤ 40) (hl2 : B.rain.length ≤ 40) (hl3 : B.signs.length ≤ 40) (hg : GoodB B) (hv : isD B d = true) (hc : canB B (allS B) 0 false = false) : FnV Try.prog 22 [valB B bo ro so bc rc sc, i64 d] [rowD bo 4 encB B.banks, rowD ro 2 encS B.rain, rowD so 3 encG B.signs] (.tuple #[i64 (safeV B d).1, i64 (safeV B d).2]) := by
  refine FnV.introD Try.call22 Try.func22 rfl Try.ntmps22 rfl ?_
  intro W M Rf
  refine r_seq ?_
  refine r_region ?_
  refine o_boxA rfl rfl rfl rfl rfl (fun b2 => ?_)
  refine o_box1 rfl rfl rfl rfl rfl rfl (fun b3 => ?_)
  refine o_q _ rfl rfl rfl (v_assign rfl rfl) ?_
  refine o_alloc rfl inf31 rfl rfl rfl rfl rfl (fun b5 => ?_)
  refine o_nil ?_
  with_reducible refine r_then ?_
  refine r_seq ?_
  refine r_region ?_
  refine o_defer rfl rfl rfl rfl ?_
  refine o_nil ?_
  with_reducible refine r_then ?_
  refine r_seq ?_
  refine Imp.sealB b3 ?_
  refine r_region ?_
  refine o_q _ rfl rfl rfl (v_ldW rfl Try.underlying28 rfl inf28 rfl rfl) ?_
  refine o_q _ rfl rfl rfl (v_makeFunc rfl rfl rfl) ?_
  refine o_openS (res := openR B bo ro bc rc) (open_ok B bo ro so bc rc sc 65 [pt b3 0] [boxF b3 3 [i64 d]] (fun bb mb => FnM.to (day65_m B bo ro so bc rc sc bb mb d b3) (congrArg Value.bool hv)) hl1 hl2 hl3 hg) rfl rfl rfl rfl rfl SubRC.sub (fun b11 => ?_)
  refine o_q _ rfl rfl rfl (v_assign rfl rfl) ?_
  refine o_nil ?_
  with_reducible refine r_then ?_
  refine r_seq ?_
  refine r_seq ?_
  refine opened (B := B) (bo := bo) (ro := ro) (bc := bc) (rc := rc) (bb := b11) (fun mb1 so1 sc1 => ?_)
  refine r_parX 11 mixed (by kernel_rfl) (by rfl) ?_
  refine p_q _ rfl rfl rfl (fun _ _ => v_move rfl rfl) ?_
  refine p_deadM (told_x B bo ro so1 bc rc sc1 b11 mb1 hg hc) rfl rfl rfl rfl rfl SubRC.sub ?_
  refine p_q _ rfl rfl rfl (fun _ _ => v_fieldAddr rfl Try.underlying28 inf22 rfl rfl rfl rfl) ?_
  refine p_q _ rfl rfl rfl (fun _ _ => v_ld1 rfl Try.underlying22 rfl rfl rfl) ?_
  refine p_q _ rfl rfl rfl (fun _ _ => v_len rfl rfl Try.underlying22 rfl) ?_
  refine p_q _ rfl rfl rfl (fun _ _ => v_lf1 rfl Try.underlying3 rfl rfl rfl) ?_
  refine p_acc (by simp only [List.nil_append, List.cons_append]; rfl) ?_
  refine p_dead 1 rfl rfl rfl (fun _ h => h) (by kernel_rfl) rfl rfl rfl ?_
  refine p_acc (by simp only [List.nil_append, List.cons_append]; rfl) ?_
  refine p_dead 6 rfl rfl rfl (fun _ h => h) (by kernel_rfl) rfl rfl rfl ?_
  refine p_acc (by simp only [List.nil_append, List.cons_append]; rfl) ?_
  refine p_dead 7 rfl rfl rfl (fun _ h => h) (by kernel_rfl) rfl rfl rfl ?_
  refine p_acc (by simp only [List.nil_append, List.cons_append]; rfl) ?_
  refine p_dead 7 rfl rfl rfl (fun _ h => h) (by kernel_rfl) rfl rfl rfl ?_
  refine p_acc (by simp only [List.nil_append, List.cons_append]; rfl) ?_
  refine p_dead 8 rfl rfl rfl (fun _ h => h) (by kernel_rfl) rfl rfl rfl ?_
  refine p_nilX (panOf (.iface 109 (i64 10))) (by simp only [List.nil_append, List.cons_append]; rfl) rfl (by kernel_rfl) rfl ?_ ?_
  ·
    with_reducible refine r_then_panic ?_; refine r_then_panic ?_
    exact d_panv answer_ans (Rd.two rfl (RdI.tmp rfl) (RdI.cell1 Try.underlying31 rfl rfl rfl)) (by rw [safeV, ansB_n (chkB_10 hg hv hc) (by decide)]; try rfl) SelMC.sel SubRC.sub
  ·
    refine f_q rfl ?_
    exact f_dead
set_option maxHeartbeats 4000000 in
theorem safe_ok (d : Int) (hl1 : B.banks.length ≤ 40) (hl2 : B.rain.length ≤ 40) (hl3 : B.signs.length ≤ 40) (hg : GoodB B) (hv : isD B d = true) (hc : canB B (allS B) 0 false = true) : FnV Try.prog 22 [valB B bo ro so bc rc sc, i64 d] [rowD bo 4 encB B.banks, rowD ro 2 encS B.rain, rowD so 3 encG B.signs] (.tuple #[i64 (safeV B d).1, i64 (safeV B d).2]) := by
  have hd0 : 0 ≤ d ∧ d ≤ (B.rain.length : Int) := of_decide_eq_true hv
  have hnr := hg.nr
  have hnb := hg.nb
  refine FnV.introD Try.call22 Try.func22 rfl Try.ntmps22 rfl ?_
  intro W M Rf
  refine r_seq ?_
  refine r_region ?_
  refine o_boxA rfl rfl rfl rfl rfl (fun b2 => ?_)
  refine o_box1 rfl rfl rfl rfl rfl rfl (fun b3 => ?_)
  refine o_q _ rfl rfl rfl (v_assign rfl rfl) ?_
  refine o_alloc rfl inf31 rfl rfl rfl rfl rfl (fun b5 => ?_)
  refine o_nil ?_
  with_reducible refine r_then ?_
  refine r_seq ?_
  refine r_region ?_
  refine o_defer rfl rfl rfl rfl ?_
  refine o_nil ?_
  with_reducible refine r_then ?_
  refine r_seq ?_
  refine Imp.sealB b3 ?_
  refine r_region ?_
  refine o_q _ rfl rfl rfl (v_ldW rfl Try.underlying28 rfl inf28 rfl rfl) ?_
  refine o_q _ rfl rfl rfl (v_makeFunc rfl rfl rfl) ?_
  refine o_openS (res := openR B bo ro bc rc) (open_ok B bo ro so bc rc sc 65 [pt b3 0] [boxF b3 3 [i64 d]] (fun bb mb => FnM.to (day65_m B bo ro so bc rc sc bb mb d b3) (congrArg Value.bool hv)) hl1 hl2 hl3 hg) rfl rfl rfl rfl rfl SubRC.sub (fun b11 => ?_)
  refine opened (B := B) (bo := bo) (ro := ro) (bc := bc) (rc := rc) (bb := b11) (fun mb1 so1 sc1 => ?_)
  refine o_q _ rfl rfl rfl (v_assign rfl rfl) ?_
  refine o_nil ?_
  with_reducible refine r_then ?_
  refine r_seq ?_
  refine r_seq ?_
  refine r_region_q mixed (by kernel_rfl) ?_
  refine q_q _ rfl rfl rfl (v_move rfl rfl) ?_
  refine q_q _ rfl rfl rfl (OpQ.fnm (told_m B bo ro so1 bc rc sc1 b11 mb1 hg hc) rfl [] [] rfl rfl rfl SubRC.sub) ?_
  refine q_q _ rfl rfl rfl (v_fieldAddr rfl Try.underlying28 inf22 rfl rfl rfl rfl) ?_
  refine q_q _ rfl rfl rfl (v_ld1 rfl Try.underlying22 rfl rfl rfl) ?_
  refine q_q _ rfl rfl rfl (v_len rfl rfl Try.underlying22 rfl) ?_
  refine q_q _ rfl rfl rfl (v_cast (v := i64 ((d.toNat : Nat) : Int)) (v_lf1 rfl Try.underlying3 rfl rfl rfl) (congrArg (Value.int .i64) (by omega))) ?_
  refine q_q _ rfl rfl rfl (OpQ.fn (first_v (tB B) (knownT_len _ _ _ _) (SmallT.known hg _ _ _) _ B.banks.length d.toNat (by omega) (by omega)) rfl rfl SubRC.sub) ?_
  refine q_q _ rfl rfl rfl (v_move rfl rfl) ?_
  refine q_q _ rfl rfl rfl (v_extract rfl rfl rfl) ?_
  refine q_q _ rfl rfl rfl (v_extract rfl rfl rfl) ?_
  refine q_q _ rfl rfl rfl (v_assign rfl rfl) ?_
  refine q_q _ rfl rfl rfl (v_assign rfl rfl) ?_
  refine q_nil ?_
  with_reducible refine r_then ?_
  refine r_seq ?_
  refine r_region ?_
  refine o_q _ rfl rfl rfl (v_move rfl rfl) ?_
  refine o_q _ rfl rfl rfl (v_geq rfl rfl rfl) ?_
  refine o_nil ?_
  with_reducible refine r_then ?_
  refine r_condd rfl (fun hc23 => ?_) (fun hc23 => ?_)
  ·
    refine r_seq ?_
    refine r_region ?_
    refine o_q _ rfl rfl rfl (v_assign rfl rfl) ?_
    refine o_st rfl inf31 rfl rfl rfl rfl rfl rfl rfl rfl ?_
    refine o_nil ?_
    with_reducible refine r_then ?_
    refine r_ret ?_
    with_reducible refine r_then_ret ?_
    exact d_retv answer_ans (Rd.two rfl (RdI.tmp rfl) (RdI.cell1 Try.underlying31 rfl rfl rfl)) (by rw [safeV, ansB_0 (chkB_0 hg hv hc), gradeB, if_pos (by assumption)]; try rfl) SelMC.sel SubRC.sub
  ·
    refine r_skip ?_
    with_reducible refine r_then ?_
    refine r_seq ?_
    refine r_seq ?_
    refine r_region_q mixed (by kernel_rfl) ?_
    refine q_q _ rfl rfl rfl (v_move rfl rfl) ?_
    refine q_q _ rfl rfl rfl (v_move rfl rfl) ?_
    refine q_q _ rfl rfl rfl (OpQ.fn (every_v B bo ro so1 bc rc sc1 b11 mb1 (by have := hg.ns; omega)) rfl rfl SubRC.sub) ?_
    refine q_q _ rfl rfl rfl (v_lf1 rfl Try.underlying3 rfl rfl rfl) ?_
    refine q_q _ rfl rfl rfl (v_bS rfl Try.underlying93 inf93 plt93 rfl rfl rfl (by repeat (first | exact trivial | refine ⟨rfl, ?_⟩)) (by rfl)) ?_
    refine q_q _ rfl rfl rfl (OpQ.fnm (known_m B bo ro so1 bc rc sc1 b11 mb1 (allS B) d true hg (allS_lt hg) (by omega)) rfl [] [] rfl rfl rfl SubRC.sub) ?_
    refine q_q _ rfl rfl rfl (v_cast (v := .bool (canB B (allS B) d true)) (v_field rfl Try.underlying73 Try.underlying4 inf4 rfl rfl rfl (kC_121 (knownT_len _ _ _ _) _)) rfl) ?_
    refine q_nil ?_
    with_reducible refine r_then ?_
    refine r_cond rfl (fun hc30 => ?_) (fun hc30 => ?_)
    ·
      refine r_seq ?_
      refine r_region ?_
      refine o_q _ rfl rfl rfl (v_assign rfl rfl) ?_
      refine o_st rfl inf31 rfl rfl rfl rfl rfl rfl rfl rfl ?_
      refine o_nil ?_
      with_reducible refine r_then ?_
      refine r_ret ?_
      with_reducible refine r_then_ret ?_
      exact d_retv answer_ans (Rd.two rfl (RdI.tmp rfl) (RdI.cell1 Try.underlying31 rfl rfl rfl)) (by rw [safeV, ansB_0 (chkB_0 hg hv hc), gradeB, if_neg (by assumption), if_pos (by assumption)]; try rfl) SelMC.sel SubRC.sub
    ·
      refine r_skip ?_
      with_reducible refine r_then ?_
      refine r_seq ?_
      refine r_region ?_
      refine o_q _ rfl rfl rfl (v_assign rfl rfl) ?_
      refine o_st rfl inf31 rfl rfl rfl rfl rfl rfl rfl rfl ?_
      refine o_nil ?_
      with_reducible refine r_then ?_
      refine r_ret ?_
      exact d_retv answer_ans (Rd.two rfl (RdI.tmp rfl) (RdI.cell1 Try.underlying31 rfl rfl rfl)) (by rw [safeV, ansB_0 (chkB_0 hg hv hc), gradeB, if_neg (by assumption), if_neg (by simp [*])]; try rfl) SelMC.sel SubRC.sub
theorem safe_v (d : Int) (hl1 : B.banks.length ≤ 40) (hl2 : B.rain.length ≤ 40) (hl3 : B.signs.length ≤ 40) : FnV Try.prog 22 [valB B bo ro so bc rc sc, i64 d] [rowD bo 4 encB B.banks, rowD ro 2 encS B.rain, rowD so 3 encG B.signs] (.tuple #[i64 (safeV B d).1, i64 (safeV B d).2]) := by
  by_cases hg : GoodB B
  · cases hv : isD B d
    · exact safe_x2 B bo ro so bc rc sc d hl1 hl2 hl3 hg hv
    · cases hc : canB B (allS B) 0 false
      · exact safe_x3 B bo ro so bc rc sc d hl1 hl2 hl3 hg hv hc
      · exact safe_ok B bo ro so bc rc sc d hl1 hl2 hl3 hg hv hc
  · exact safe_x1 B bo ro so bc rc sc d hl1 hl2 hl3 hg
end Go.Proofs.Ytoggggnlponfhaa


namespace Go.Proofs.Ytoggggnlponfhaa
open Go.G Burst8
set_option maxRecDepth 1000000
attribute [local irreducible] G.ParO G.Fin
theorem v_shrK {P : Program} {W : World} {n : Nat} {L : Tm} {M : List Res} {R : List Fact} {o : Oper} {t u : TypeId} {x y : Operand} {a h : Nat} (r : Nat) (ho : o.op = .binOp .shr t x y u) (hx : ev L x = some (.int .u64 (a : Int))) (hy : ev L y = some (.int .u64 (h : Int))) (ha : a < 2 ^ 62) (hh : h < 62) (hr : a >>> h = r) : OpQ P W n L M R o (.int .u64 (r : Int)) :=
  OpQ.of_value fun f w h1 _ => by
    subst hr
    have hle : a >>> h ≤ a := Nat.shiftRight_le a h
    have hw : IntKind.wrap .u64 ((a >>> h : Nat) : Int) = ((a >>> h : Nat) : Int) := u64_small (by omega)
    have h2 : ¬ ((h : Int) < 0) := by omega
    have h3 : min h 64 = h := by omega
    have hs : (Op.shift .shr .u64 (a : Int) .u64 (h : Int)).run P w = .ok (.int .u64 ((a >>> h : Nat) : Int)) w := by
      unfold Op.shift
      rw [if_neg h2]
      have e : ((a : Int).fdiv (2 ^ (min (h : Int).toNat IntKind.u64.bits))) = ((a >>> h : Nat) : Int) := by
        rw [show (h : Int).toNat = h from by simp, show IntKind.u64.bits = 64 from rfl, h3, Nat.shiftRight_eq_div_pow, Int.fdiv_eq_ediv_of_nonneg _ (by exact Int.le_of_lt (Int.pow_pos (by decide)))]
        simp
      simp only [e, hw, Sem.run_pure]
    have hb : (binOp .shr t (.int .u64 (a : Int)) (.int .u64 (h : Int))).run P w = .ok (.int .u64 ((a >>> h : Nat) : Int)) w := hs
    simp [execOp, ho, h1.ev hx, h1.ev hy, eqGuard, hb]
theorem v_andK {P : Program} {W : World} {n : Nat} {L : Tm} {M : List Res} {R : List Fact} {o : Oper} {t u : TypeId} {x y : Operand} {a b : Nat} (r : Nat) (ho : o.op = .binOp .and t x y u) (hx : ev L x = some (.int .u64 (a : Int))) (hy : ev L y = some (.int .u64 (b : Int))) (ha : a < 2 ^ 62) (hb : b < 2 ^ 64) (hr : a &&& b = r) : OpQ P W n L M R o (.int .u64 (r : Int)) :=
  OpQ.of_value fun f w h1 _ => by
    subst hr
    have hlt : a &&& b ≤ a := Nat.and_le_left
    have hw : IntKind.wrap .u64 ((a &&& b : Nat) : Int) = ((a &&& b : Nat) : Int) := u64_small (by omega)
    have hs : (Op.intBits .and .u64 (a : Int) (b : Int)).run P w = .ok (.int .u64 ((a &&& b : Nat) : Int)) w := by
      unfold Op.intBits
      have e1 : (BitVec.ofInt IntKind.u64.bits (a : Int) &&& BitVec.ofInt IntKind.u64.bits (b : Int)).toNat = a &&& b := by
        have h64 : IntKind.u64.bits = 64 := rfl
        rw [BitVec.toNat_and]
        simp only [BitVec.ofInt_natCast, BitVec.toNat_ofNat, h64]
        rw [Nat.mod_eq_of_lt (by omega), Nat.mod_eq_of_lt (by omega)]
      simp only [e1, hw, Sem.run_pure]
    have hb2 : (binOp .and t (.int .u64 (a : Int)) (.int .u64 (b : Int))).run P w = .ok (.int .u64 ((a &&& b : Nat) : Int)) w := hs
    simp [execOp, ho, h1.ev hx, h1.ev hy, eqGuard, hb2]
theorem v_addK {P : Program} {W : World} {n : Nat} {L : Tm} {M : List Res} {R : List Fact} {o : Oper} {t u : TypeId} {x y : Operand} {a b : Nat} (r : Nat) (ho : o.op = .binOp .add t x y u) (hx : ev L x = some (.int .u64 (a : Int))) (hy : ev L y = some (.int .u64 (b : Int))) (hb : a + b < 2 ^ 62) (hr : a + b = r) : OpQ P W n L M R o (.int .u64 (r : Int)) :=
  v_cast (v_addU ho hx hy (by omega)) (by rw [← hr]; simp)
/-- The steps of OnesCount64. -/
def oc1 (m : Nat) : Nat := (m >>> 1 &&& 6148914691236517205) + (m &&& 6148914691236517205)
def oc2 (m : Nat) : Nat := (oc1 m >>> 2 &&& 3689348814741910323) + (oc1 m &&& 3689348814741910323)
def oc3 (m : Nat) : Nat := (oc2 m >>> 4 + oc2 m) &&& 1085102592571150095
def oc4 (m : Nat) : Nat := oc3 m + oc3 m >>> 8
def oc5 (m : Nat) : Nat := oc4 m + oc4 m >>> 16
def oc6 (m : Nat) : Nat := oc5 m + oc5 m >>> 32
def pop (m : Nat) : Nat := oc6 m &&& 127
theorem pop_bd : ∀ m, m < 64 → oc1 m < 1000 ∧ oc2 m < 1000 ∧ oc3 m < 1000 ∧ oc4 m < 1000 ∧ oc5 m < 1000 ∧ oc6 m < 1000 := by decide +kernel
set_option maxHeartbeats 4000000 in
theorem ones64_v (m : Nat) (hm : m < 64) : FnV Try.prog 97 [u64 m] [] (i64 (pop m)) := by
  have hp := pop_bd m hm
  refine FnV.intro Try.call97 Try.func97 rfl Try.ntmps97 rfl ?_
  intro W M Rf
  refine r_seq ?_
  refine r_region ?_
  refine o_q _ rfl rfl rfl (v_assign rfl rfl) ?_
  refine o_nil ?_
  with_reducible refine r_then ?_
  refine r_seq ?_
  refine r_region ?_
  refine o_q _ rfl rfl rfl (v_move rfl rfl) ?_
  refine o_q _ rfl rfl rfl (v_shrK (m >>> 1) rfl rfl rfl (by omega) (by decide) rfl) ?_
  refine o_q _ rfl rfl rfl (v_andK (m >>> 1 &&& 6148914691236517205) rfl rfl rfl (by first | omega | exact Nat.lt_of_le_of_lt (Nat.shiftRight_le _ _) (by omega)) (by decide) rfl) ?_
  refine o_q _ rfl rfl rfl (v_move rfl rfl) ?_
  refine o_q _ rfl rfl rfl (v_andK (m &&& 6148914691236517205) rfl rfl rfl (by first | omega | exact Nat.lt_of_le_of_lt (Nat.shiftRight_le _ _) (by omega)) (by decide) rfl) ?_
  refine o_q _ rfl rfl rfl (v_addK (oc1 m) rfl rfl rfl (by first | omega | exact Nat.lt_of_le_of_lt (Nat.add_le_add (Nat.le_trans Nat.and_le_left (Nat.shiftRight_le _ _)) Nat.and_le_left) (by omega) | exact Nat.lt_of_le_of_lt (Nat.add_le_add (Nat.shiftRight_le _ _) (Nat.le_refl _)) (by omega) | exact Nat.lt_of_le_of_lt (Nat.add_le_add (Nat.le_refl _) (Nat.shiftRight_le _ _)) (by omega)) rfl) ?_
  refine o_q _ rfl rfl rfl (v_assign rfl rfl) ?_
  refine o_nil ?_
  with_reducible refine r_then ?_
  refine r_seq ?_
  refine r_region ?_
  refine o_q _ rfl rfl rfl (v_move rfl rfl) ?_
  refine o_q _ rfl rfl rfl (v_shrK (oc1 m >>> 2) rfl rfl rfl (by omega) (by decide) rfl) ?_
  refine o_q _ rfl rfl rfl (v_andK (oc1 m >>> 2 &&& 3689348814741910323) rfl rfl rfl (by first | omega | exact Nat.lt_of_le_of_lt (Nat.shiftRight_le _ _) (by omega)) (by decide) rfl) ?_
  refine o_q _ rfl rfl rfl (v_move rfl rfl) ?_
  refine o_q _ rfl rfl rfl (v_andK (oc1 m &&& 3689348814741910323) rfl rfl rfl (by first | omega | exact Nat.lt_of_le_of_lt (Nat.shiftRight_le _ _) (by omega)) (by decide) rfl) ?_
  refine o_q _ rfl rfl rfl (v_addK (oc2 m) rfl rfl rfl (by first | omega | exact Nat.lt_of_le_of_lt (Nat.add_le_add (Nat.le_trans Nat.and_le_left (Nat.shiftRight_le _ _)) Nat.and_le_left) (by omega) | exact Nat.lt_of_le_of_lt (Nat.add_le_add (Nat.shiftRight_le _ _) (Nat.le_refl _)) (by omega) | exact Nat.lt_of_le_of_lt (Nat.add_le_add (Nat.le_refl _) (Nat.shiftRight_le _ _)) (by omega)) rfl) ?_
  refine o_q _ rfl rfl rfl (v_assign rfl rfl) ?_
  refine o_nil ?_
  with_reducible refine r_then ?_
  refine r_seq ?_
  refine r_region ?_
  refine o_q _ rfl rfl rfl (v_move rfl rfl) ?_
  refine o_q _ rfl rfl rfl (v_shrK (oc2 m >>> 4) rfl rfl rfl (by omega) (by decide) rfl) ?_
  refine o_q _ rfl rfl rfl (v_move rfl rfl) ?_
  refine o_q _ rfl rfl rfl (v_addK (oc2 m >>> 4 + oc2 m) rfl rfl rfl (by first | omega | exact Nat.lt_of_le_of_lt (Nat.add_le_add (Nat.le_trans Nat.and_le_left (Nat.shiftRight_le _ _)) Nat.and_le_left) (by omega) | exact Nat.lt_of_le_of_lt (Nat.add_le_add (Nat.shiftRight_le _ _) (Nat.le_refl _)) (by omega) | exact Nat.lt_of_le_of_lt (Nat.add_le_add (Nat.le_refl _) (Nat.shiftRight_le _ _)) (by omega)) rfl) ?_
  refine o_q _ rfl rfl rfl (v_andK (oc3 m) rfl rfl rfl (by first | omega | exact Nat.lt_of_le_of_lt (Nat.add_le_add (Nat.le_trans Nat.and_le_left (Nat.shiftRight_le _ _)) Nat.and_le_left) (by omega) | exact Nat.lt_of_le_of_lt (Nat.add_le_add (Nat.shiftRight_le _ _) (Nat.le_refl _)) (by omega) | exact Nat.lt_of_le_of_lt (Nat.add_le_add (Nat.le_refl _) (Nat.shiftRight_le _ _)) (by omega)) (by decide) rfl) ?_
  refine o_q _ rfl rfl rfl (v_assign rfl rfl) ?_
  refine o_nil ?_
  with_reducible refine r_then ?_
  refine r_seq ?_
  refine r_region ?_
  refine o_q _ rfl rfl rfl (v_move rfl rfl) ?_
  refine o_q _ rfl rfl rfl (v_move rfl rfl) ?_
  refine o_q _ rfl rfl rfl (v_shrK (oc3 m >>> 8) rfl rfl rfl (by omega) (by decide) rfl) ?_
  refine o_q _ rfl rfl rfl (v_addK (oc4 m) rfl rfl rfl (by first | omega | exact Nat.lt_of_le_of_lt (Nat.add_le_add (Nat.le_trans Nat.and_le_left (Nat.shiftRight_le _ _)) Nat.and_le_left) (by omega) | exact Nat.lt_of_le_of_lt (Nat.add_le_add (Nat.shiftRight_le _ _) (Nat.le_refl _)) (by omega) | exact Nat.lt_of_le_of_lt (Nat.add_le_add (Nat.le_refl _) (Nat.shiftRight_le _ _)) (by omega)) rfl) ?_
  refine o_q _ rfl rfl rfl (v_assign rfl rfl) ?_
  refine o_nil ?_
  with_reducible refine r_then ?_
  refine r_seq ?_
  refine r_region ?_
  refine o_q _ rfl rfl rfl (v_move rfl rfl) ?_
  refine o_q _ rfl rfl rfl (v_move rfl rfl) ?_
  refine o_q _ rfl rfl rfl (v_shrK (oc4 m >>> 16) rfl rfl rfl (by omega) (by decide) rfl) ?_
  refine o_q _ rfl rfl rfl (v_addK (oc5 m) rfl rfl rfl (by first | omega | exact Nat.lt_of_le_of_lt (Nat.add_le_add (Nat.le_trans Nat.and_le_left (Nat.shiftRight_le _ _)) Nat.and_le_left) (by omega) | exact Nat.lt_of_le_of_lt (Nat.add_le_add (Nat.shiftRight_le _ _) (Nat.le_refl _)) (by omega) | exact Nat.lt_of_le_of_lt (Nat.add_le_add (Nat.le_refl _) (Nat.shiftRight_le _ _)) (by omega)) rfl) ?_
  refine o_q _ rfl rfl rfl (v_assign rfl rfl) ?_
  refine o_nil ?_
  with_reducible refine r_then ?_
  refine r_seq ?_
  refine r_region ?_
  refine o_q _ rfl rfl rfl (v_move rfl rfl) ?_
  refine o_q _ rfl rfl rfl (v_move rfl rfl) ?_
  refine o_q _ rfl rfl rfl (v_shrK (oc5 m >>> 32) rfl rfl rfl (by omega) (by decide) rfl) ?_
  refine o_q _ rfl rfl rfl (v_addK (oc6 m) rfl rfl rfl (by first | omega | exact Nat.lt_of_le_of_lt (Nat.add_le_add (Nat.le_trans Nat.and_le_left (Nat.shiftRight_le _ _)) Nat.and_le_left) (by omega) | exact Nat.lt_of_le_of_lt (Nat.add_le_add (Nat.shiftRight_le _ _) (Nat.le_refl _)) (by omega) | exact Nat.lt_of_le_of_lt (Nat.add_le_add (Nat.le_refl _) (Nat.shiftRight_le _ _)) (by omega)) rfl) ?_
  refine o_q _ rfl rfl rfl (v_assign rfl rfl) ?_
  refine o_nil ?_
  with_reducible refine r_then ?_
  refine r_seq ?_
  refine r_region ?_
  refine o_q _ rfl rfl rfl (v_move rfl rfl) ?_
  refine o_q _ rfl rfl rfl (v_conv rfl Try.underlying135 Try.underlying3 rfl (IntWalk.i64_in _ (by omega))) ?_
  refine o_q _ rfl rfl rfl (v_andn (a := oc6 m) (b := 127) rfl rfl rfl (by omega) (by decide)) ?_
  refine o_q _ rfl rfl rfl (v_assign rfl rfl) ?_
  refine o_nil ?_
  with_reducible refine r_then ?_
  refine r_ret ?_
  exact r_retv2 (Rd.tmp rfl rfl) rfl SelMC.sel SubRC.sub
set_option maxHeartbeats 4000000 in
theorem ones_v (m : Nat) (hm : m < 64) : FnV Try.prog 76 [u64 m] [] (i64 (pop m)) := by
  refine FnV.intro Try.call76 Try.func76 rfl Try.ntmps76 rfl ?_
  intro W M Rf
  refine r_seq ?_
  refine r_region ?_
  refine o_q _ rfl rfl rfl (v_assign rfl rfl) ?_
  refine o_nil ?_
  with_reducible refine r_then ?_
  refine r_seq ?_
  refine r_cond rfl (fun hcconst_false_ => ?_) (fun hcconst_false_ => ?_)
  ·
    (exfalso; revert hcconst_false_; decide)
  ·
    refine r_skip ?_
    with_reducible refine r_then ?_
    refine r_seq ?_
    refine r_region ?_
    refine o_q _ rfl rfl rfl (v_move rfl rfl) ?_
    refine o_q _ rfl rfl rfl (OpQ.fn (ones64_v m hm) rfl rfl SubRC.sub) ?_
    refine o_q _ rfl rfl rfl (v_assign rfl rfl) ?_
    refine o_nil ?_
    with_reducible refine r_then ?_
    refine r_ret ?_
    exact r_retv2 (Rd.tmp rfl rfl) rfl SelMC.sel SubRC.sub
set_option maxHeartbeats 4000000 in
theorem clash2_v (m : Nat) (hm : m < 64) : FnV Try.prog 75 [u64 m] [] (i64 (pop m)) := by
  refine FnV.intro Try.call75 Try.func75 rfl Try.ntmps75 rfl ?_
  intro W M Rf
  refine r_seq ?_
  refine r_region ?_
  refine o_q _ rfl rfl rfl (v_assign rfl rfl) ?_
  refine o_nil ?_
  with_reducible refine r_then ?_
  refine r_seq ?_
  refine r_region ?_
  refine o_q _ rfl rfl rfl (v_move rfl rfl) ?_
  refine o_q _ rfl rfl rfl (OpQ.fn (ones_v m hm) rfl rfl SubRC.sub) ?_
  refine o_q _ rfl rfl rfl (v_assign rfl rfl) ?_
  refine o_nil ?_
  with_reducible refine r_then ?_
  refine r_ret ?_
  exact r_retv2 (Rd.tmp rfl rfl) rfl SelMC.sel SubRC.sub
end Go.Proofs.Ytoggggnlponfhaa


namespace Go.Proofs.Ytoggggnlponfhaa
open Go.G Burst8
set_option maxRecDepth 1000000
attribute [local irreducible] G.ParO G.Fin
def encU (x : Nat) : List Value := [u64 x]
theorem encU_len (x : Nat) : (encU x).length = 1 := rfl
/-- The first of some sets of which there is least. -/
def leastU (f : Nat → Nat) (l : List Nat) : Nat → Nat × Nat
  | 0 => (0, 0)
  | k + 1 => if k = 0 ∨ f (l.getD k default) < (leastU f l k).2 then (l.getD k default, f (l.getD k default)) else leastU f l k
theorem leastU_y {f : Nat → Nat} {l : List Nat} {k : Nat} (h : k = 0 ∨ f (l.getD k default) < (leastU f l k).2) : leastU f l (k + 1) = (l.getD k default, f (l.getD k default)) := if_pos h
theorem leastU_n {f : Nat → Nat} {l : List Nat} {k : Nat} (h : ¬ (k = 0 ∨ f (l.getD k default) < (leastU f l k).2)) : leastU f l (k + 1) = leastU f l k := if_neg h
theorem leastU_lt {f : Nat → Nat} {l : List Nat} {n : Nat} (hn : 0 < n) (hl : ∀ k, k < l.length → l.getD k default < n) : ∀ k, k ≤ l.length → (leastU f l k).1 < n
  | 0, _ => hn
  | k + 1, h => by
    unfold leastU
    split
    · exact hl k (by omega)
    · exact leastU_lt hn hl k (by omega)
/-- The sets of signs that clash, of those before the k-th. -/
def clashTo (B : Bog) : Nat → List Nat
  | 0 => []
  | k + 1 => clashTo B k ++ if (!canB B k 0 false) = true then [k] else []
theorem clashTo_y {B : Bog} {k : Nat} (h : (!canB B k 0 false) = true) : clashTo B k ++ [k] = clashTo B (k + 1) := by rw [clashTo, if_pos h]
theorem clashTo_n {B : Bog} {k : Nat} (h : ¬ (!canB B k 0 false) = true) : clashTo B k = clashTo B (k + 1) := by rw [clashTo, if_neg h, List.append_nil]
theorem clashTo_len (B : Bog) : ∀ k, (clashTo B k).length ≤ k
  | 0 => Nat.le_refl _
  | k + 1 => by
    unfold clashTo
    rw [List.length_append]
    have := clashTo_len B k
    split
    · simp; omega
    · simp; omega
theorem clashTo_lt (B : Bog) : ∀ k, ∀ x ∈ clashTo B k, x < k
  | 0, x, h => by cases h
  | k + 1, x, h => by
    unfold clashTo at h
    rcases List.mem_append.1 h with h | h
    · have := clashTo_lt B k x h; omega
    · split at h
      · have : x = k := by simpa using h
        omega
      · cases h
theorem clash_at (B : Bog) (n : Nat) : ∀ k, k < (clashTo B n).length → (clashTo B n).getD k default < n := fun k hk => by
  refine clashTo_lt B n _ ?_
  rw [List.getD_eq_getElem?_getD, List.getElem?_eq_getElem hk]
  exact List.getElem_mem hk
def clashL (B : Bog) : List Nat := clashTo B (2 ^ B.signs.length)
def clashB (B : Bog) : Int × Int := if GoodB B then (if canB B (allS B) 0 false = true then (0, 4) else (((leastU pop (clashL B) (clashL B).length).1 : Nat), 0)) else (0, 1)
theorem pow_ns {B : Bog} (hg : GoodB B) : 1 ≤ 2 ^ B.signs.length ∧ 2 ^ B.signs.length ≤ 32 :=
  ⟨Nat.one_le_two_pow, Nat.pow_le_pow_right (show 0 < 2 by decide) (show B.signs.length ≤ 5 by have := hg.ns; omega)⟩
attribute [local irreducible] fw fwR fwC emptyT tabOf knownT canB boundsL
variable (B : Bog) (bo ro so : Option Addr) (bc rc sc : Nat) (bb mb : Nat)
set_option maxHeartbeats 4000000 in
theorem clash1_m (hg : GoodB B) (m c : Nat) (hm : m < 2 ^ 62) : FnM Try.prog 73 [u64 m, pt c 0] (memo Try.prog 93 (okB B) mb) [boxF c 74 [pt bb 0], boxF bb 115 [.slice bo B.banks.length bc, i64 B.wlo, i64 B.whi, .slice ro B.rain.length rc, i64 B.drain, .slice so B.signs.length sc, .map (some mb)], rowD bo 4 encB B.banks, rowD ro 2 encS B.rain, rowD so 3 encG B.signs] (fun u => u = .bool (canB B m 0 false)) := by
  refine FnM.intro Try.call73 Try.func73 rfl Try.ntmps73 rfl ?_
  intro W M Rf
  refine r_seq ?_
  refine r_region ?_
  refine o_q _ rfl rfl rfl (v_assign rfl rfl) ?_
  refine o_nil ?_
  with_reducible refine r_then ?_
  refine r_seq ?_
  refine r_region ?_
  refine o_q _ rfl rfl rfl (v_lf1 rfl Try.underlying74 rfl rfl rfl) ?_
  refine o_q _ rfl rfl rfl (v_move rfl rfl) ?_
  refine o_q _ rfl rfl rfl (v_bSp (us := [u64 m, i64 0, .bool false]) rfl Try.underlying93 inf93 plt93 rfl rfl rfl (by repeat (first | exact trivial | refine ⟨rfl, ?_⟩)) (by show 1 ≤ 3; decide) rfl) ?_
  refine o_q _ rfl rfl rfl (OpQ.fnm (known_m B bo ro so bc rc sc bb mb m 0 false hg hm (by omega)) rfl [] [] rfl rfl rfl SubRC.sub) ?_
  refine o_q _ rfl rfl rfl (v_cast (v := .bool (canB B m 0 false)) (v_field rfl Try.underlying73 Try.underlying4 inf4 rfl rfl rfl (kC_121 (knownT_len _ _ _ _) _)) rfl) ?_
  refine o_q _ rfl rfl rfl (v_assign rfl rfl) ?_
  refine o_nil ?_
  with_reducible refine r_then ?_
  refine r_ret ?_
  exact r_retm (Rd.tmp rfl rfl) rfl SelMC.sel SubRC.sub
set_option maxHeartbeats 4000000 in
theorem leastU_v (xs : List Nat) (hl : xs.length ≤ 1000) (hx : ∀ k, k < xs.length → xs.getD k default < 64) (oa : Option Addr) (cc : Nat) : FnV Try.prog 74 [.slice oa xs.length cc, .agg #[.func (.func 75) #[] #[]]] [rowD oa 1 encU xs] (.tuple #[u64 (leastU pop xs xs.length).1, i64 (leastU pop xs xs.length).2]) := by
  refine FnV.intro Try.call74 Try.func74 rfl Try.ntmps74 rfl ?_
  intro W M Rf
  refine r_seq ?_
  refine r_region ?_
  refine o_boxA rfl rfl rfl rfl rfl (fun b3 => ?_)
  refine o_q _ rfl rfl rfl (v_assign rfl rfl) ?_
  refine o_q _ rfl rfl rfl (v_assign rfl rfl) ?_
  refine o_nil ?_
  with_reducible refine r_then ?_
  refine r_seq ?_
  refine r_seq ?_
  refine r_region ?_
  refine o_q _ rfl rfl rfl (v_move rfl rfl) ?_
  refine o_q _ rfl rfl rfl (v_len rfl rfl Try.underlying96 rfl) ?_
  refine o_q _ rfl rfl rfl (v_move rfl rfl) ?_
  refine o_nil ?_
  with_reducible refine r_then ?_
  refine r_block ?_
  refine r_loop (ι := Nat) (fun k => k ≤ xs.length) (fun k => [(3, pt b3 0), (4, u64 (leastU pop xs k).1), (5, i64 (leastU pop xs k).2), (9, .slice oa xs.length cc), (10, i64 xs.length), (11, i64 k)]) (fun k => bx b3 101 [.func (.func 75) #[] #[]] :: M) (fun k => [rowD oa 1 encU xs] ++ Rf) (fun k => xs.length - k) 0 ?_ ?_ ?_
  ·
    exact r_here (by repeat (first | exact FSub.nil | refine FSub.cons rfl ?_)) SelMC.sel SubRC.sub
  ·
    omega
  ·
    rintro k hI0
    refine r_seq ?_
    refine r_region ?_
    refine o_q _ rfl rfl rfl (v_lss rfl rfl rfl) ?_
    refine o_nil ?_
    with_reducible refine r_then ?_
    refine r_seq ?_
    refine r_condd rfl (fun hc12 => ?_) (fun hc12 => ?_)
    ·
      refine r_skip ?_
      with_reducible refine r_then ?_
      refine r_seq ?_
      refine r_block ?_
      refine r_seq ?_
      refine r_region ?_
      refine o_q _ rfl rfl rfl (v_move rfl rfl) ?_
      refine o_q _ rfl rfl rfl (v_indexAddrSn rfl Try.underlying96 inf90 rfl rfl rfl (by omega) rfl) ?_
      refine o_q _ rfl rfl rfl (v_loadE1 rfl Try.underlying90 rfl rfl (by omega) rfl rfl) ?_
      refine o_q _ rfl rfl rfl (v_assign rfl rfl) ?_
      refine o_q _ rfl rfl rfl (v_assign rfl rfl) ?_
      refine o_nil ?_
      with_reducible refine r_then ?_
      refine r_seq ?_
      refine r_region ?_
      refine o_q _ rfl rfl rfl (v_fieldAddr rfl Try.underlying101 inf99 rfl rfl rfl rfl) ?_
      refine o_q _ rfl rfl rfl (v_ld1 rfl Try.underlying99 rfl rfl rfl) ?_
      refine o_q _ rfl rfl rfl (v_move rfl rfl) ?_
      refine o_q _ rfl rfl rfl (OpQ.call (clash2_v (xs.getD k default) (hx k (by omega))) rfl [] [] rfl rfl rfl SubRC.sub) ?_
      refine o_q _ rfl rfl rfl (v_assign rfl rfl) ?_
      refine o_nil ?_
      with_reducible refine r_then ?_
      refine r_seq ?_
      refine r_region ?_
      refine o_q _ rfl rfl rfl (v_move rfl rfl) ?_
      refine o_test rfl rfl rfl (v_eql rfl rfl rfl) (fun h21 => ?_) (fun h21 => ?_)
      all_goals
        refine o_q _ rfl rfl rfl (v_move rfl rfl) ?_
        first | refine o_gn rfl rfl rfl rfl ?_ | refine o_g _ rfl rfl rfl rfl (v_move rfl rfl) ?_
        first | refine o_gn rfl rfl rfl rfl ?_ | refine o_g _ rfl rfl rfl rfl (v_move rfl rfl) ?_
        first | refine o_gn rfl rfl rfl rfl ?_ | refine o_gtest rfl rfl rfl rfl (v_lss rfl rfl rfl) (fun h25 => ?_) (fun h25 => ?_)
        all_goals
          first | refine o_q _ rfl rfl rfl (v_pick_t rfl rfl rfl) ?_ | refine o_q _ rfl rfl rfl (v_pick_f rfl rfl rfl) ?_
          refine o_nil ?_
          with_reducible refine r_then ?_
          refine r_cond rfl (fun hc26 => ?_) (fun hc26 => ?_)
          ·
            first
            | (exfalso; revert hc26; decide)
            | skip
              refine r_region ?_
              refine o_q _ rfl rfl rfl (v_move rfl rfl) ?_
              refine o_q _ rfl rfl rfl (v_move rfl rfl) ?_
              refine o_q _ rfl rfl rfl (v_assign rfl rfl) ?_
              refine o_q _ rfl rfl rfl (v_assign rfl rfl) ?_
              refine o_nil ?_
              with_reducible refine r_in_normal ?_; refine r_then ?_
              refine r_region ?_
              refine o_q _ rfl rfl rfl (v_add rfl rfl rfl (by omega)) ?_
              refine o_q _ rfl rfl rfl (v_move rfl rfl) ?_
              refine o_nil ?_
              with_reducible refine r_then ?_
              refine r_next (k + 1) ?_ ?_ ?_
              ·
                exact r_here (by repeat (first | exact FSub.nil | refine FSub.cons rfl ?_ | refine FSub.cons2 rfl (congrArg (fun x : Nat => u64 x) (by first | rw [leastU_y (Or.inl (by omega))] | rw [leastU_y (Or.inr (by omega))] | (rw [leastU_n (by omega)]))) ?_ | refine FSub.cons2 rfl (congrArg (fun x : Nat => i64 (x : Int)) (by first | rw [leastU_y (Or.inl (by omega))] | rw [leastU_y (Or.inr (by omega))] | (rw [leastU_n (by omega)]))) ?_ | refine FSub.cons2 rfl (congrArg (Value.int .i64) (by omega)) ?_)) SelMC.sel SubRC.sub
              ·
                omega
              ·
                omega
          ·
            first
            | (exfalso; revert hc26; decide)
            | skip
              refine r_skip ?_
              with_reducible refine r_in_normal ?_; refine r_then ?_
              refine r_region ?_
              refine o_q _ rfl rfl rfl (v_add rfl rfl rfl (by omega)) ?_
              refine o_q _ rfl rfl rfl (v_move rfl rfl) ?_
              refine o_nil ?_
              with_reducible refine r_then ?_
              refine r_next (k + 1) ?_ ?_ ?_
              ·
                exact r_here (by repeat (first | exact FSub.nil | refine FSub.cons rfl ?_ | refine FSub.cons2 rfl (congrArg (fun x : Nat => u64 x) (by first | rw [leastU_y (Or.inl (by omega))] | rw [leastU_y (Or.inr (by omega))] | (rw [leastU_n (by omega)]))) ?_ | refine FSub.cons2 rfl (congrArg (fun x : Nat => i64 (x : Int)) (by first | rw [leastU_y (Or.inl (by omega))] | rw [leastU_y (Or.inr (by omega))] | (rw [leastU_n (by omega)]))) ?_ | refine FSub.cons2 rfl (congrArg (Value.int .i64) (by omega)) ?_)) SelMC.sel SubRC.sub
              ·
                omega
              ·
                omega
    ·
      refine r_exit ?_
      with_reducible refine r_then_exit ?_; refine r_then_exit ?_; refine r_in_here ?_; refine r_then ?_
      refine r_seq ?_
      refine r_region ?_
      refine o_q _ rfl rfl rfl (v_move rfl rfl) ?_
      refine o_q _ rfl rfl rfl (v_move rfl rfl) ?_
      refine o_q _ rfl rfl rfl (v_assign rfl rfl) ?_
      refine o_q _ rfl rfl rfl (v_assign rfl rfl) ?_
      refine o_nil ?_
      with_reducible refine r_then ?_
      refine r_ret ?_
      obtain rfl : k = xs.length := by omega
      exact r_retv2 (Rd.two rfl (RdI.tmp rfl) (RdI.tmp rfl)) rfl SelMC.sel SubRC.sub
set_option maxHeartbeats 4000000 in
theorem clash_x1 (hl1 : B.banks.length ≤ 40) (hl2 : B.rain.length ≤ 40) (hl3 : B.signs.length ≤ 40) (hng : ¬ GoodB B) : FnV Try.prog 28 [valB B bo ro so bc rc sc] [rowD bo 4 encB B.banks, rowD ro 2 encS B.rain, rowD so 3 encG B.signs] (.tuple #[i64 (clashB B).1, i64 (clashB B).2]) := by
  refine FnV.introD Try.call28 Try.func28 rfl Try.ntmps28 rfl ?_
  intro W M Rf
  refine r_seq ?_
  refine r_region ?_
  refine o_boxA rfl rfl rfl rfl rfl (fun b1 => ?_)
  refine o_q _ rfl rfl rfl (v_assign rfl rfl) ?_
  refine o_alloc rfl inf31 rfl rfl rfl rfl rfl (fun b3 => ?_)
  refine o_nil ?_
  with_reducible refine r_then ?_
  refine r_seq ?_
  refine r_region ?_
  refine o_defer rfl rfl rfl rfl ?_
  refine o_nil ?_
  with_reducible refine r_then ?_
  refine r_seq ?_
  refine r_region ?_
  refine o_q _ rfl rfl rfl (v_ldW rfl Try.underlying28 rfl inf28 rfl rfl) ?_
  refine o_fnx (open_x1 B bo ro so bc rc sc 71 [] [] hl1 hl2 hl3 hng) rfl rfl rfl SubRC.sub ?_
  with_reducible refine r_then_panic ?_
  exact d_panv answer_ans (Rd.two rfl (RdI.tmp rfl) (RdI.cell1 Try.underlying31 rfl rfl rfl)) (by rw [clashB, if_neg hng]; try rfl) SelMC.sel SubRC.sub
set_option maxHeartbeats 4000000 in
theorem clash_x3 (hl1 : B.banks.length ≤ 40) (hl2 : B.rain.length ≤ 40) (hl3 : B.signs.length ≤ 40) (hg : GoodB B) (hc : canB B (allS B) 0 false = true) : FnV Try.prog 28 [valB B bo ro so bc rc sc] [rowD bo 4 encB B.banks, rowD ro 2 encS B.rain, rowD so 3 encG B.signs] (.tuple #[i64 (clashB B).1, i64 (clashB B).2]) := by
  refine FnV.introD Try.call28 Try.func28 rfl Try.ntmps28 rfl ?_
  intro W M Rf
  refine r_seq ?_
  refine r_region ?_
  refine o_boxA rfl rfl rfl rfl rfl (fun b1 => ?_)
  refine o_q _ rfl rfl rfl (v_assign rfl rfl) ?_
  refine o_alloc rfl inf31 rfl rfl rfl rfl rfl (fun b3 => ?_)
  refine o_nil ?_
  with_reducible refine r_then ?_
  refine r_seq ?_
  refine r_region ?_
  refine o_defer rfl rfl rfl rfl ?_
  refine o_nil ?_
  with_reducible refine r_then ?_
  refine r_seq ?_
  refine r_region ?_
  refine o_q _ rfl rfl rfl (v_ldW rfl Try.underlying28 rfl inf28 rfl rfl) ?_
  refine o_openS (res := openR B bo ro bc rc) (open_ok B bo ro so bc rc sc 71 [] [] (fun bb mb => always_m B bo ro so bc rc sc bb mb) hl1 hl2 hl3 hg) rfl rfl rfl rfl rfl SubRC.sub (fun b11 => ?_)
  refine opened (B := B) (bo := bo) (ro := ro) (bc := bc) (rc := rc) (bb := b11) (fun mb1 so1 sc1 => ?_)
  refine o_alloc rfl inf74 rfl rfl rfl rfl rfl (fun b4 => ?_)
  refine o_st rfl inf74 rfl rfl rfl rfl rfl rfl rfl rfl ?_
  refine o_nil ?_
  with_reducible refine r_then ?_
  refine r_seq ?_
  refine Imp.box_to b4 [pt b11 0] rfl ?_
  refine Imp.sealB b4 ?_
  have hp2 := pow_ns hg
  have hal : allS B = 2 ^ B.signs.length - 1 := rfl
  refine r_region ?_
  refine o_q _ rfl rfl rfl (v_makeFunc rfl rfl rfl) ?_
  refine o_q _ rfl rfl rfl (v_assign rfl rfl) ?_
  refine o_nil ?_
  with_reducible refine r_then ?_
  refine r_seq ?_
  refine r_region ?_
  refine o_q _ rfl rfl rfl (v_move rfl rfl) ?_
  refine o_q _ rfl rfl rfl (v_lf1 rfl Try.underlying74 rfl rfl rfl) ?_
  refine o_q _ rfl rfl rfl (OpQ.fn (every_v B bo ro so1 bc rc sc1 b11 mb1 (by have := hg.ns; omega)) rfl rfl SubRC.sub) ?_
  refine o_q _ rfl rfl rfl (v_cast (v := .bool true) (OpQ.fnm (clash1_m B bo ro so1 bc rc sc1 b11 mb1 hg (allS B) b4 (allS_lt hg)) rfl [] [pt b4 0] rfl rfl rfl SubRC.sub) (by rw [hc])) ?_
  refine o_q _ rfl rfl rfl (v_not rfl rfl) ?_
  refine o_fnx (ask_f _) rfl rfl rfl SubRC.sub ?_
  with_reducible refine r_then_panic ?_
  try (exact d_panv answer_ans (Rd.two rfl (RdI.tmp rfl) (RdI.cell1 Try.underlying31 rfl rfl rfl)) (by rw [clashB, if_pos hg, if_pos hc]; try rfl) SelMC.sel SubRC.sub)
  all_goals
    refine o_nil ?_
    repeat (first | with_reducible refine r_then ?_ | with_reducible refine r_in_normal ?_ | with_reducible refine r_sc_normal ?_)
    refine r_seq ?_
    skip
set_option maxHeartbeats 4000000 in
theorem clash_ok (hl1 : B.banks.length ≤ 40) (hl2 : B.rain.length ≤ 40) (hl3 : B.signs.length ≤ 40) (hg : GoodB B) (hc : canB B (allS B) 0 false = false) : FnV Try.prog 28 [valB B bo ro so bc rc sc] [rowD bo 4 encB B.banks, rowD ro 2 encS B.rain, rowD so 3 encG B.signs] (.tuple #[i64 (clashB B).1, i64 (clashB B).2]) := by
  refine FnV.introD Try.call28 Try.func28 rfl Try.ntmps28 rfl ?_
  intro W M Rf
  refine r_seq ?_
  refine r_region ?_
  refine o_boxA rfl rfl rfl rfl rfl (fun b1 => ?_)
  refine o_q _ rfl rfl rfl (v_assign rfl rfl) ?_
  refine o_alloc rfl inf31 rfl rfl rfl rfl rfl (fun b3 => ?_)
  refine o_nil ?_
  with_reducible refine r_then ?_
  refine r_seq ?_
  refine r_region ?_
  refine o_defer rfl rfl rfl rfl ?_
  refine o_nil ?_
  with_reducible refine r_then ?_
  refine r_seq ?_
  refine r_region ?_
  refine o_q _ rfl rfl rfl (v_ldW rfl Try.underlying28 rfl inf28 rfl rfl) ?_
  refine o_openS (res := openR B bo ro bc rc) (open_ok B bo ro so bc rc sc 71 [] [] (fun bb mb => always_m B bo ro so bc rc sc bb mb) hl1 hl2 hl3 hg) rfl rfl rfl rfl rfl SubRC.sub (fun b11 => ?_)
  refine opened (B := B) (bo := bo) (ro := ro) (bc := bc) (rc := rc) (bb := b11) (fun mb1 so1 sc1 => ?_)
  refine o_alloc rfl inf74 rfl rfl rfl rfl rfl (fun b4 => ?_)
  refine o_st rfl inf74 rfl rfl rfl rfl rfl rfl rfl rfl ?_
  refine o_nil ?_
  with_reducible refine r_then ?_
  refine r_seq ?_
  refine Imp.box_to b4 [pt b11 0] rfl ?_
  refine Imp.sealB b4 ?_
  have hp2 := pow_ns hg
  have hal : allS B = 2 ^ B.signs.length - 1 := rfl
  refine r_region ?_
  refine o_q _ rfl rfl rfl (v_makeFunc rfl rfl rfl) ?_
  refine o_q _ rfl rfl rfl (v_assign rfl rfl) ?_
  refine o_nil ?_
  with_reducible refine r_then ?_
  refine r_seq ?_
  refine r_region ?_
  refine o_q _ rfl rfl rfl (v_move rfl rfl) ?_
  refine o_q _ rfl rfl rfl (v_lf1 rfl Try.underlying74 rfl rfl rfl) ?_
  refine o_q _ rfl rfl rfl (OpQ.fn (every_v B bo ro so1 bc rc sc1 b11 mb1 (by have := hg.ns; omega)) rfl rfl SubRC.sub) ?_
  refine o_q _ rfl rfl rfl (v_cast (v := .bool false) (OpQ.fnm (clash1_m B bo ro so1 bc rc sc1 b11 mb1 hg (allS B) b4 (allS_lt hg)) rfl [] [pt b4 0] rfl rfl rfl SubRC.sub) (by rw [hc])) ?_
  refine o_q _ rfl rfl rfl (v_not rfl rfl) ?_
  refine o_q _ rfl rfl rfl (OpQ.fn (ask_t _) rfl rfl SubRC.sub) ?_
  refine o_nil ?_
  with_reducible refine r_then ?_
  refine r_seq ?_
  refine r_region ?_
  refine o_q _ rfl rfl rfl (v_assign rfl rfl) ?_
  refine o_nil ?_
  with_reducible refine r_then ?_
  refine r_seq ?_
  refine r_seq ?_
  refine Imp.nilL 90 1 encU ?_
  refine r_region ?_
  refine o_q _ rfl rfl rfl (v_lf1 rfl Try.underlying74 rfl rfl rfl) ?_
  refine o_q _ rfl rfl rfl (OpQ.fn (every_v B bo ro so1 bc rc sc1 b11 mb1 (by have := hg.ns; omega)) rfl rfl SubRC.sub) ?_
  refine o_q _ rfl rfl rfl (v_cast (v := u64 (2 ^ B.signs.length)) (v_addU rfl rfl rfl (by omega)) (congrArg (Value.int .u64) (by omega))) ?_
  refine o_q _ rfl rfl rfl (v_move rfl rfl) ?_
  refine o_nil ?_
  with_reducible refine r_then ?_
  refine r_block ?_
  refine r_loop (ι := Nat × Value) (fun gh => gh.1 ≤ 2 ^ B.signs.length) (fun gh => [(1, pt b1 0), (2, i64 0), (3, pt b3 0), (4, pt b4 0), (5, .func (.func 73) #[] #[pt b4 0]), (6, gh.2), (21, u64 (2 ^ B.signs.length)), (22, u64 gh.1)]) (fun gh => ownL gh.2 90 1 encU (clashTo B gh.1) :: memo Try.prog 93 (okB B) mb1 :: bx b3 31 [i64 0] :: bx b1 28 (cellsB B bo ro so bc rc sc) :: M) (fun gh => boxF b4 74 [pt b11 0] :: rowD so1 3 encG B.signs :: boxF b11 115 [.slice bo B.banks.length bc, i64 B.wlo, i64 B.whi, .slice ro B.rain.length rc, i64 B.drain, .slice so1 B.signs.length sc1, .map (some mb1)] :: ([rowD bo 4 encB B.banks, rowD ro 2 encS B.rain, rowD so 3 encG B.signs] ++ Rf)) (fun gh => 2 ^ B.signs.length - gh.1) (0, .slice none 0 0) ?_ ?_ ?_
  ·
    refine Imp.box_to b3 [i64 0] rfl ?_
    refine Imp.own_to (.slice none 0 0) (clashTo B 0) rfl ?_
    exact r_here (by repeat (first | exact FSub.nil | refine FSub.cons rfl ?_)) SelMC.sel SubRC.sub
  ·
    exact Nat.zero_le _
  ·
    rintro ⟨k, v⟩ hI0
    dsimp only at hI0
    dsimp only
    have hkl := clashTo_len B k
    refine r_seq ?_
    refine r_region ?_
    refine o_q _ rfl rfl rfl (v_lss rfl rfl rfl) ?_
    refine o_nil ?_
    with_reducible refine r_then ?_
    refine r_seq ?_
    refine r_condd rfl (fun hc23 => ?_) (fun hc23 => ?_)
    ·
      refine r_skip ?_
      with_reducible refine r_then ?_
      refine r_seq ?_
      refine r_block ?_
      refine r_seq ?_
      refine r_region ?_
      refine o_q _ rfl rfl rfl (v_move rfl rfl) ?_
      refine o_q _ rfl rfl rfl (v_assign rfl rfl) ?_
      refine o_nil ?_
      with_reducible refine r_then ?_
      refine r_seq ?_
      refine r_region ?_
      refine o_q _ rfl rfl rfl (v_move rfl rfl) ?_
      refine o_q _ rfl rfl rfl (v_move rfl rfl) ?_
      refine o_q _ rfl rfl rfl (OpQ.fnm (clash1_m B bo ro so1 bc rc sc1 b11 mb1 hg k b4 (by omega)) rfl [] [pt b4 0] rfl rfl rfl SubRC.sub) ?_
      refine o_q _ rfl rfl rfl (v_not rfl rfl) ?_
      refine o_nil ?_
      with_reducible refine r_then ?_
      refine r_cond rfl (fun hc28 => ?_) (fun hc28 => ?_)
      ·
        refine r_region ?_
        refine o_q _ rfl rfl rfl (v_move rfl rfl) ?_
        refine o_q _ rfl rfl rfl (v_move rfl rfl) ?_
        refine o_lit rfl Try.underlying96 inf90 rfl rfl rfl rfl rfl rfl rfl rfl (by repeat (first | exact trivial | refine ⟨rfl, ?_⟩)) (by rfl) (fun b31 => ?_)
        refine o_app1 (k) rfl Try.underlying96 inf90 rfl (by rfl) (by rfl) rfl rfl rfl rfl rfl (by rfl) (by rfl) (by rfl) (by first | omega | (constructor <;> first | omega | decide)) (fun v32 => ?_)
        refine o_q _ rfl rfl rfl (v_assign rfl rfl) ?_
        refine o_nil ?_
        with_reducible refine r_in_normal ?_; refine r_then ?_
        refine r_region ?_
        refine o_q _ rfl rfl rfl (v_cast (v := u64 (k + 1)) (v_addU rfl rfl rfl (by omega)) (congrArg (Value.int .u64) (by omega))) ?_
        refine o_q _ rfl rfl rfl (v_move rfl rfl) ?_
        refine o_nil ?_
        with_reducible refine r_then ?_
        exact r_next ((k + 1, v32)) (by refine Imp.own_to v32 (clashTo B (k + 1)) (clashTo_y (by assumption)) ?_; exact r_here (by repeat (first | exact FSub.nil | refine FSub.cons rfl ?_)) SelMC.sel SubRC.sub) (by first | omega | (show _ + 1 ≤ _; omega)) (by first | omega | (show _ - (_ + 1) < _ - _; omega))
      ·
        refine r_skip ?_
        with_reducible refine r_in_normal ?_; refine r_then ?_
        refine r_region ?_
        refine o_q _ rfl rfl rfl (v_cast (v := u64 (k + 1)) (v_addU rfl rfl rfl (by omega)) (congrArg (Value.int .u64) (by omega))) ?_
        refine o_q _ rfl rfl rfl (v_move rfl rfl) ?_
        refine o_nil ?_
        with_reducible refine r_then ?_
        exact r_next ((k + 1, v)) (by refine Imp.own_to v (clashTo B (k + 1)) (clashTo_n (by simp [*])) ?_; exact r_here (by repeat (first | exact FSub.nil | refine FSub.cons rfl ?_)) SelMC.sel SubRC.sub) (by first | omega | (show _ + 1 ≤ _; omega)) (by first | omega | (show _ - (_ + 1) < _ - _; omega))
    ·
      refine r_exit ?_
      with_reducible refine r_then_exit ?_; refine r_then_exit ?_; refine r_in_here ?_; refine r_then ?_
      refine r_seq ?_
      obtain rfl : k = 2 ^ B.signs.length := by omega
      have hcl := clashTo_len B (2 ^ B.signs.length)
      have hca := clash_at B (2 ^ B.signs.length)
      refine Imp.settleS v encU_len (fun oa cc hv => ?_)
      subst hv
      refine r_region ?_
      refine o_q _ rfl rfl rfl (v_move rfl rfl) ?_
      refine o_q _ rfl rfl rfl (v_bS rfl Try.underlying101 inf101 plt101 rfl rfl rfl (by repeat (first | exact trivial | refine ⟨rfl, ?_⟩)) (by rfl)) ?_
      refine o_q _ rfl rfl rfl (OpQ.fn (leastU_v (clashTo B (2 ^ B.signs.length)) (by omega) (fun j hj => by have := hca j hj; omega) oa cc) rfl rfl SubRC.sub) ?_
      refine o_q _ rfl rfl rfl (v_move rfl rfl) ?_
      refine o_q _ rfl rfl rfl (v_extract rfl rfl rfl) ?_
      refine o_q _ rfl rfl rfl (v_extract rfl rfl rfl) ?_
      refine o_q _ rfl rfl rfl (v_assign rfl rfl) ?_
      refine o_q _ rfl rfl rfl (v_assign rfl rfl) ?_
      refine o_nil ?_
      with_reducible refine r_then ?_
      refine r_seq ?_
      have hlt := leastU_lt (f := pop) (l := clashL B) (n := 32) (by decide) (fun j hj => Nat.lt_of_lt_of_le (clash_at B _ j hj) hp2.2) (clashL B).length (Nat.le_refl _)
      refine r_region ?_
      refine o_q _ rfl rfl rfl (v_move rfl rfl) ?_
      refine o_q _ rfl rfl rfl (v_conv rfl Try.underlying90 Try.underlying3 rfl (IntWalk.i64_in _ (by have h9 : (leastU pop (clashTo B (2 ^ B.signs.length)) (clashTo B (2 ^ B.signs.length)).length).1 < 32 := hlt; omega))) ?_
      refine o_q _ rfl rfl rfl (v_assign rfl rfl) ?_
      refine o_st rfl inf31 rfl rfl rfl rfl rfl rfl rfl rfl ?_
      refine o_nil ?_
      with_reducible refine r_then ?_
      refine r_ret ?_
      exact d_retv answer_ans (Rd.two rfl (RdI.tmp rfl) (RdI.cell1 Try.underlying31 rfl rfl rfl)) (by rw [clashB, if_pos hg, if_neg (by rw [hc]; decide)]; try rfl) SelMC.sel SubRC.sub
theorem clash_v (hl1 : B.banks.length ≤ 40) (hl2 : B.rain.length ≤ 40) (hl3 : B.signs.length ≤ 40) : FnV Try.prog 28 [valB B bo ro so bc rc sc] [rowD bo 4 encB B.banks, rowD ro 2 encS B.rain, rowD so 3 encG B.signs] (.tuple #[i64 (clashB B).1, i64 (clashB B).2]) := by
  by_cases hg : GoodB B
  · cases hc : canB B (allS B) 0 false
    · exact clash_ok B bo ro so bc rc sc hl1 hl2 hl3 hg hc
    · exact clash_x3 B bo ro so bc rc sc hl1 hl2 hl3 hg hc
  · exact clash_x1 B bo ro so bc rc sc hl1 hl2 hl3 hg
end Go.Proofs.Ytoggggnlponfhaa


namespace Go.Proofs.Ytoggggnlponfhaa
open Go.G Burst8
set_option maxRecDepth 1000000
attribute [local irreducible] G.ParO G.Fin
attribute [local irreducible] fw fwR fwC emptyT tabOf knownT canB boundsL
variable (B : Bog) (bo ro so : Option Addr) (bc rc sc : Nat) (bb mb : Nat)
set_option maxHeartbeats 4000000 in
theorem rin_v (a b c : Int) : FnV Try.prog 80 [i64 a, i64 b, i64 c] [] (.bool (decide (b ≤ a ∧ a ≤ c))) := by
  refine FnV.intro Try.call80 Try.func80 rfl Try.ntmps80 rfl ?_
  intro W M Rf
  refine r_seq ?_
  refine r_region ?_
  refine o_q _ rfl rfl rfl (v_assign rfl rfl) ?_
  refine o_nil ?_
  with_reducible refine r_then ?_
  refine r_seq ?_
  refine r_region ?_
  refine o_q _ rfl rfl rfl (v_move rfl rfl) ?_
  refine o_q _ rfl rfl rfl (v_move rfl rfl) ?_
  refine o_test rfl rfl rfl (v_leq rfl rfl rfl) (fun h9 => ?_) (fun h9 => ?_)
  all_goals
    refine o_q _ rfl rfl rfl (v_move rfl rfl) ?_
    first | refine o_gn rfl rfl rfl rfl ?_ | refine o_g _ rfl rfl rfl rfl (v_move rfl rfl) ?_
    first | refine o_gn rfl rfl rfl rfl ?_ | refine o_g _ rfl rfl rfl rfl (v_move rfl rfl) ?_
    first | refine o_gn rfl rfl rfl rfl ?_ | refine o_gtest rfl rfl rfl rfl (v_leq rfl rfl rfl) (fun h13 => ?_) (fun h13 => ?_)
    all_goals
      first | refine o_q _ rfl rfl rfl (v_pick_t rfl rfl rfl) ?_ | refine o_q _ rfl rfl rfl (v_pick_f rfl rfl rfl) ?_
      refine o_q _ rfl rfl rfl (v_assign rfl rfl) ?_
      refine o_nil ?_
      with_reducible refine r_then ?_
      refine r_ret ?_
      first | exact r_retv2 (Rd.tmp rfl rfl) (congrArg Value.bool (decide_eq_true (by omega)).symm) SelMC.sel SubRC.sub | exact r_retv2 (Rd.tmp rfl rfl) (congrArg Value.bool (decide_eq_false (by omega)).symm) SelMC.sel SubRC.sub
set_option maxHeartbeats 4000000 in
theorem rspan_v (lo hi a b : Int) : FnV Try.prog 81 [.agg #[i64 lo, i64 hi], i64 a, i64 b] [] (.bool (decide (a ≤ lo ∧ lo ≤ hi ∧ hi ≤ b))) := by
  refine FnV.intro Try.call81 Try.func81 rfl Try.ntmps81 rfl ?_
  intro W M Rf
  refine r_seq ?_
  refine r_region ?_
  refine o_boxA rfl rfl rfl rfl rfl (fun b3 => ?_)
  refine o_q _ rfl rfl rfl (v_assign rfl rfl) ?_
  refine o_nil ?_
  with_reducible refine r_then ?_
  refine r_seq ?_
  refine r_region ?_
  refine o_q _ rfl rfl rfl (v_move rfl rfl) ?_
  refine o_q _ rfl rfl rfl (v_fieldAddr rfl Try.underlying24 inf3 rfl rfl rfl rfl) ?_
  refine o_q _ rfl rfl rfl (v_ld1 rfl Try.underlying3 rfl rfl rfl) ?_
  refine o_test rfl rfl rfl (v_leq rfl rfl rfl) (fun h10 => ?_) (fun h10 => ?_)
  all_goals
    refine o_q _ rfl rfl rfl (v_move rfl rfl) ?_
    first | refine o_gn rfl rfl rfl rfl ?_ | refine o_g _ rfl rfl rfl rfl (v_fieldAddr rfl Try.underlying24 inf3 rfl rfl rfl rfl) ?_
    first | refine o_gn rfl rfl rfl rfl ?_ | refine o_g _ rfl rfl rfl rfl (v_ld1 rfl Try.underlying3 rfl rfl rfl) ?_
    first | refine o_gn rfl rfl rfl rfl ?_ | refine o_g _ rfl rfl rfl rfl (v_fieldAddr rfl Try.underlying24 inf3 rfl rfl rfl rfl) ?_
    first | refine o_gn rfl rfl rfl rfl ?_ | refine o_g _ rfl rfl rfl rfl (v_ld1 rfl Try.underlying3 rfl rfl rfl) ?_
    first | refine o_gn rfl rfl rfl rfl ?_ | refine o_gtest rfl rfl rfl rfl (v_leq rfl rfl rfl) (fun h16 => ?_) (fun h16 => ?_)
    all_goals
      first | refine o_q _ rfl rfl rfl (v_pick_t rfl rfl rfl) ?_ | refine o_q _ rfl rfl rfl (v_pick_f rfl rfl rfl) ?_
      refine o_q _ rfl rfl rfl (v_move rfl rfl) ?_
      first | refine o_gn rfl rfl rfl rfl ?_ | refine o_g _ rfl rfl rfl rfl (v_fieldAddr rfl Try.underlying24 inf3 rfl rfl rfl rfl) ?_
      first | refine o_gn rfl rfl rfl rfl ?_ | refine o_g _ rfl rfl rfl rfl (v_ld1 rfl Try.underlying3 rfl rfl rfl) ?_
      first | refine o_gn rfl rfl rfl rfl ?_ | refine o_g _ rfl rfl rfl rfl (v_move rfl rfl) ?_
      first | refine o_gn rfl rfl rfl rfl ?_ | refine o_gtest rfl rfl rfl rfl (v_leq rfl rfl rfl) (fun h22 => ?_) (fun h22 => ?_)
      all_goals
        first | refine o_q _ rfl rfl rfl (v_pick_t rfl rfl rfl) ?_ | refine o_q _ rfl rfl rfl (v_pick_f rfl rfl rfl) ?_
        refine o_q _ rfl rfl rfl (v_assign rfl rfl) ?_
        refine o_nil ?_
        with_reducible refine r_then ?_
        refine r_ret ?_
        first | exact r_retv2 (Rd.tmp rfl rfl) (congrArg Value.bool (decide_eq_true (by omega)).symm) SelMC.sel SubRC.sub | exact r_retv2 (Rd.tmp rfl rfl) (congrArg Value.bool (decide_eq_false (by omega)).symm) SelMC.sel SubRC.sub
set_option maxHeartbeats 4000000 in
theorem rDay_v (x : Int) (hl1 : B.banks.length ≤ 40) (hl2 : B.rain.length ≤ 40) (hl3 : B.signs.length ≤ 40) : FnV Try.prog 52 [valB B bo ro so bc rc sc, i64 x] [] (.bool (decide (0 ≤ x ∧ x ≤ (B.rain.length : Int)))) := by
  refine FnV.intro Try.call52 Try.func52 rfl Try.ntmps52 rfl ?_
  intro W M Rf
  refine r_seq ?_
  refine r_region ?_
  refine o_boxA rfl rfl rfl rfl rfl (fun b2 => ?_)
  refine o_q _ rfl rfl rfl (v_assign rfl rfl) ?_
  refine o_nil ?_
  with_reducible refine r_then ?_
  refine r_seq ?_
  refine r_region ?_
  refine o_q _ rfl rfl rfl (v_move rfl rfl) ?_
  refine o_q _ rfl rfl rfl (v_fieldAddr rfl Try.underlying28 inf25 rfl rfl rfl rfl) ?_
  refine o_q _ rfl rfl rfl (v_ld1 rfl Try.underlying25 rfl rfl rfl) ?_
  refine o_q _ rfl rfl rfl (v_len rfl rfl Try.underlying25 rfl) ?_
  refine o_q _ rfl rfl rfl (OpQ.fn (rin_v _ _ _) rfl rfl SubRC.sub) ?_
  refine o_q _ rfl rfl rfl (v_assign rfl rfl) ?_
  refine o_nil ?_
  with_reducible refine r_then ?_
  refine r_ret ?_
  exact r_retv2 (Rd.tmp rfl rfl) rfl SelMC.sel SubRC.sub
set_option maxHeartbeats 4000000 in
theorem rBank_v (x : Int) (hl1 : B.banks.length ≤ 40) (hl2 : B.rain.length ≤ 40) (hl3 : B.signs.length ≤ 40) : FnV Try.prog 57 [valB B bo ro so bc rc sc, i64 x] [] (.bool (decide (0 ≤ x ∧ x ≤ (B.banks.length : Int) - 1))) := by
  refine FnV.intro Try.call57 Try.func57 rfl Try.ntmps57 rfl ?_
  intro W M Rf
  refine r_seq ?_
  refine r_region ?_
  refine o_boxA rfl rfl rfl rfl rfl (fun b2 => ?_)
  refine o_q _ rfl rfl rfl (v_assign rfl rfl) ?_
  refine o_nil ?_
  with_reducible refine r_then ?_
  refine r_seq ?_
  refine r_region ?_
  refine o_q _ rfl rfl rfl (v_move rfl rfl) ?_
  refine o_q _ rfl rfl rfl (v_fieldAddr rfl Try.underlying28 inf22 rfl rfl rfl rfl) ?_
  refine o_q _ rfl rfl rfl (v_ld1 rfl Try.underlying22 rfl rfl rfl) ?_
  refine o_q _ rfl rfl rfl (v_len rfl rfl Try.underlying22 rfl) ?_
  refine o_q _ rfl rfl rfl (v_sub rfl rfl rfl (by omega)) ?_
  refine o_q _ rfl rfl rfl (OpQ.fn (rin_v _ _ _) rfl rfl SubRC.sub) ?_
  refine o_q _ rfl rfl rfl (v_assign rfl rfl) ?_
  refine o_nil ?_
  with_reducible refine r_then ?_
  refine r_ret ?_
  exact r_retv2 (Rd.tmp rfl rfl) rfl SelMC.sel SubRC.sub
set_option maxHeartbeats 4000000 in
theorem rsign_v (x : Sign) (hl1 : B.banks.length ≤ 40) (hl2 : B.rain.length ≤ 40) (hl3 : B.signs.length ≤ 40) : FnV Try.prog 82 [valB B bo ro so bc rc sc, .agg #[i64 x.kind, i64 x.bank, i64 x.day]] [] (.bool (decide (SignOk B x))) := by
  refine FnV.intro Try.call82 Try.func82 rfl Try.ntmps82 rfl ?_
  intro W M Rf
  refine r_seq ?_
  refine r_region ?_
  refine o_boxA rfl rfl rfl rfl rfl (fun b2 => ?_)
  refine o_boxA rfl rfl rfl rfl rfl (fun b3 => ?_)
  refine o_q _ rfl rfl rfl (v_assign rfl rfl) ?_
  refine o_nil ?_
  with_reducible refine r_then ?_
  refine r_seq ?_
  refine r_seq ?_
  have hcases : x.kind = 0 ∨ x.kind = 1 ∨ x.kind = 2 ∨ (x.kind ≠ 0 ∧ x.kind ≠ 1 ∧ x.kind ≠ 2) := by omega
  refine r_region ?_
  refine o_q _ rfl rfl rfl (v_ldW rfl Try.underlying28 rfl inf28 rfl rfl) ?_
  refine o_q _ rfl rfl rfl (v_fieldAddr rfl Try.underlying55 inf3 rfl rfl rfl rfl) ?_
  refine o_q _ rfl rfl rfl (v_ld1 rfl Try.underlying3 rfl rfl rfl) ?_
  refine o_test rfl rfl rfl (OpQ.fn (rDay_v B bo ro so bc rc sc _ hl1 hl2 hl3) rfl rfl SubRC.sub) (fun h8 => ?_) (fun h8 => ?_)
  all_goals
    refine o_q _ rfl rfl rfl (v_not rfl rfl) ?_
    refine o_nil ?_
    with_reducible refine r_then ?_
    refine r_cond rfl (fun hc9 => ?_) (fun hc9 => ?_)
    ·
      first
      | (exfalso; revert hc9; decide)
      | skip
        refine r_seq ?_
        refine r_region ?_
        refine o_q _ rfl rfl rfl (v_assign rfl rfl) ?_
        refine o_nil ?_
        with_reducible refine r_then ?_
        refine r_ret ?_
        with_reducible refine r_then_ret ?_
        exact r_retv2 (Rd.tmp rfl rfl) (congrArg Value.bool (decide_eq_false (by unfold SignOk; omega)).symm) SelMC.sel SubRC.sub
    ·
      first
      | (exfalso; revert hc9; decide)
      | skip
        refine r_skip ?_
        with_reducible refine r_then ?_
        refine r_seq ?_
        refine r_seq ?_
        refine r_region ?_
        refine o_q _ rfl rfl rfl (v_fieldAddr rfl Try.underlying55 inf3 rfl rfl rfl rfl) ?_
        refine o_q _ rfl rfl rfl (v_ld1 rfl Try.underlying3 rfl rfl rfl) ?_
        refine o_nil ?_
        with_reducible refine r_then ?_
        refine r_block ?_
        refine r_seq ?_
        refine r_seq ?_
        refine r_region ?_
        refine o_q _ rfl rfl rfl (v_eql rfl rfl rfl) ?_
        refine o_q _ rfl rfl rfl (v_assign rfl rfl) ?_
        refine o_nil ?_
        with_reducible refine r_then ?_
        refine r_condd rfl (fun hc12 => ?_) (fun hc12 => ?_)
        ·
          refine r_skip ?_
          with_reducible refine r_then ?_
          refine r_condd rfl (fun hc12 => ?_) (fun hc12 => ?_)
          ·
            refine r_seq ?_
            refine r_region ?_
            refine o_q _ rfl rfl rfl (v_ldW rfl Try.underlying28 rfl inf28 rfl rfl) ?_
            refine o_q _ rfl rfl rfl (v_fieldAddr rfl Try.underlying55 inf3 rfl rfl rfl rfl) ?_
            refine o_q _ rfl rfl rfl (v_ld1 rfl Try.underlying3 rfl rfl rfl) ?_
            refine o_q _ rfl rfl rfl (OpQ.fn (rBank_v B bo ro so bc rc sc _ hl1 hl2 hl3) rfl rfl SubRC.sub) ?_
            refine o_q _ rfl rfl rfl (v_assign rfl rfl) ?_
            refine o_nil ?_
            with_reducible refine r_then ?_
            refine r_ret ?_
            with_reducible refine r_in_ret ?_; refine r_then_ret ?_
            exact r_retv2 (Rd.tmp rfl rfl) (congrArg Value.bool (decide_eq_decide.2 (by unfold SignOk; omega))) SelMC.sel SubRC.sub
          ·
            (exfalso; omega)
        ·
          refine r_region ?_
          refine o_q _ rfl rfl rfl (v_eql rfl rfl rfl) ?_
          refine o_q _ rfl rfl rfl (v_assign rfl rfl) ?_
          refine o_nil ?_
          with_reducible refine r_then ?_
          refine r_condd rfl (fun hc12 => ?_) (fun hc12 => ?_)
          ·
            refine r_seq ?_
            refine r_region ?_
            refine o_q _ rfl rfl rfl (v_ldW rfl Try.underlying28 rfl inf28 rfl rfl) ?_
            refine o_q _ rfl rfl rfl (v_fieldAddr rfl Try.underlying55 inf3 rfl rfl rfl rfl) ?_
            refine o_q _ rfl rfl rfl (v_ld1 rfl Try.underlying3 rfl rfl rfl) ?_
            refine o_q _ rfl rfl rfl (OpQ.fn (rBank_v B bo ro so bc rc sc _ hl1 hl2 hl3) rfl rfl SubRC.sub) ?_
            refine o_q _ rfl rfl rfl (v_assign rfl rfl) ?_
            refine o_nil ?_
            with_reducible refine r_then ?_
            refine r_ret ?_
            with_reducible refine r_in_ret ?_; refine r_then_ret ?_
            exact r_retv2 (Rd.tmp rfl rfl) (congrArg Value.bool (decide_eq_decide.2 (by unfold SignOk; omega))) SelMC.sel SubRC.sub
          ·
            refine r_seq ?_
            refine r_region ?_
            refine o_q _ rfl rfl rfl (v_eql rfl rfl rfl) ?_
            refine o_q _ rfl rfl rfl (v_assign rfl rfl) ?_
            refine o_nil ?_
            with_reducible refine r_then ?_
            refine r_condd rfl (fun hc19 => ?_) (fun hc19 => ?_)
            ·
              refine r_seq ?_
              refine r_region ?_
              refine o_q _ rfl rfl rfl (v_assign rfl rfl) ?_
              refine o_nil ?_
              with_reducible refine r_then ?_
              refine r_ret ?_
              with_reducible refine r_in_ret ?_; refine r_then_ret ?_
              exact r_retv2 (Rd.tmp rfl rfl) (congrArg Value.bool (decide_eq_true (by unfold SignOk; omega)).symm) SelMC.sel SubRC.sub
            ·
              refine r_skip ?_
              with_reducible refine r_in_normal ?_; refine r_then ?_
              refine r_seq ?_
              refine r_region ?_
              refine o_q _ rfl rfl rfl (v_assign rfl rfl) ?_
              refine o_nil ?_
              with_reducible refine r_then ?_
              refine r_ret ?_
              exact r_retv2 (Rd.tmp rfl rfl) (congrArg Value.bool (decide_eq_false (by unfold SignOk; omega)).symm) SelMC.sel SubRC.sub
set_option maxHeartbeats 4000000 in
theorem Burst_v (hl1 : B.banks.length ≤ 40) (hl2 : B.rain.length ≤ 40) (hl3 : B.signs.length ≤ 40) : FnV Try.prog 34 [valB B bo ro so bc rc sc] [rowD bo 4 encB B.banks, rowD ro 2 encS B.rain, rowD so 3 encG B.signs] (.bool (decide (GoodB B))) := by
  refine FnV.intro Try.call34 Try.func34 rfl Try.ntmps34 rfl ?_
  intro W M Rf
  refine r_seq ?_
  refine r_region ?_
  refine o_boxA rfl rfl rfl rfl rfl (fun b1 => ?_)
  refine o_q _ rfl rfl rfl (v_assign rfl rfl) ?_
  refine o_nil ?_
  with_reducible refine r_then ?_
  refine r_seq ?_
  refine r_seq ?_
  refine r_region ?_
  refine o_q _ rfl rfl rfl (v_fieldAddr rfl Try.underlying28 inf22 rfl rfl rfl rfl) ?_
  refine o_q _ rfl rfl rfl (v_ld1 rfl Try.underlying22 rfl rfl rfl) ?_
  refine o_q _ rfl rfl rfl (v_len rfl rfl Try.underlying22 rfl) ?_
  refine o_test rfl rfl rfl (OpQ.fn (rin_v _ _ _) rfl rfl SubRC.sub) (fun h9 => ?_) (fun h9 => ?_)
  all_goals
    refine o_q _ rfl rfl rfl (v_not rfl rfl) ?_
    refine o_q _ rfl rfl rfl (v_move rfl rfl) ?_
    first | refine o_gn rfl rfl rfl rfl ?_ | refine o_g _ rfl rfl rfl rfl (v_fieldAddr rfl Try.underlying28 inf24 rfl rfl rfl rfl) ?_
    first | refine o_gn rfl rfl rfl rfl ?_ | refine o_g _ rfl rfl rfl rfl (v_ldN rfl Try.underlying24 rfl inf24 rfl rfl rfl) ?_
    first | refine o_gn rfl rfl rfl rfl ?_ | refine o_gtest rfl rfl rfl rfl (OpQ.fn (rspan_v _ _ _ _) rfl rfl SubRC.sub) (fun h14 => ?_) (fun h14 => ?_)
    all_goals
      first | refine o_gn rfl rfl rfl rfl ?_ | refine o_g _ rfl rfl rfl rfl (v_not rfl rfl) ?_
      first | refine o_q _ rfl rfl rfl (v_pick_t rfl rfl rfl) ?_ | refine o_q _ rfl rfl rfl (v_pick_f rfl rfl rfl) ?_
      refine o_q _ rfl rfl rfl (v_move rfl rfl) ?_
      first | refine o_gn rfl rfl rfl rfl ?_ | refine o_g _ rfl rfl rfl rfl (v_fieldAddr rfl Try.underlying28 inf25 rfl rfl rfl rfl) ?_
      first | refine o_gn rfl rfl rfl rfl ?_ | refine o_g _ rfl rfl rfl rfl (v_ld1 rfl Try.underlying25 rfl rfl rfl) ?_
      first | refine o_gn rfl rfl rfl rfl ?_ | refine o_g _ rfl rfl rfl rfl (v_len rfl rfl Try.underlying25 rfl) ?_
      first | refine o_gn rfl rfl rfl rfl ?_ | refine o_gtest rfl rfl rfl rfl (OpQ.fn (rin_v _ _ _) rfl rfl SubRC.sub) (fun h21 => ?_) (fun h21 => ?_)
      all_goals
        first | refine o_gn rfl rfl rfl rfl ?_ | refine o_g _ rfl rfl rfl rfl (v_not rfl rfl) ?_
        first | refine o_q _ rfl rfl rfl (v_pick_t rfl rfl rfl) ?_ | refine o_q _ rfl rfl rfl (v_pick_f rfl rfl rfl) ?_
        refine o_q _ rfl rfl rfl (v_move rfl rfl) ?_
        first | refine o_gn rfl rfl rfl rfl ?_ | refine o_g _ rfl rfl rfl rfl (v_fieldAddr rfl Try.underlying28 inf3 rfl rfl rfl rfl) ?_
        first | refine o_gn rfl rfl rfl rfl ?_ | refine o_g _ rfl rfl rfl rfl (v_ld1 rfl Try.underlying3 rfl rfl rfl) ?_
        first | refine o_gn rfl rfl rfl rfl ?_ | refine o_gtest rfl rfl rfl rfl (OpQ.fn (rin_v _ _ _) rfl rfl SubRC.sub) (fun h27 => ?_) (fun h27 => ?_)
        all_goals
          first | refine o_gn rfl rfl rfl rfl ?_ | refine o_g _ rfl rfl rfl rfl (v_not rfl rfl) ?_
          first | refine o_q _ rfl rfl rfl (v_pick_t rfl rfl rfl) ?_ | refine o_q _ rfl rfl rfl (v_pick_f rfl rfl rfl) ?_
          refine o_q _ rfl rfl rfl (v_move rfl rfl) ?_
          first | refine o_gn rfl rfl rfl rfl ?_ | refine o_g _ rfl rfl rfl rfl (v_fieldAddr rfl Try.underlying28 inf26 rfl rfl rfl rfl) ?_
          first | refine o_gn rfl rfl rfl rfl ?_ | refine o_g _ rfl rfl rfl rfl (v_ld1 rfl Try.underlying26 rfl rfl rfl) ?_
          first | refine o_gn rfl rfl rfl rfl ?_ | refine o_g _ rfl rfl rfl rfl (v_len rfl rfl Try.underlying26 rfl) ?_
          first | refine o_gn rfl rfl rfl rfl ?_ | refine o_gtest rfl rfl rfl rfl (v_gtr rfl rfl rfl) (fun h34 => ?_) (fun h34 => ?_)
          all_goals
            first | refine o_q _ rfl rfl rfl (v_pick_t rfl rfl rfl) ?_ | refine o_q _ rfl rfl rfl (v_pick_f rfl rfl rfl) ?_
            refine o_nil ?_
            with_reducible refine r_then ?_
            refine r_cond rfl (fun hc35 => ?_) (fun hc35 => ?_)
            ·
              first
              | (exfalso; revert hc35; decide)
              | skip
                refine r_seq ?_
                refine r_region ?_
                refine o_q _ rfl rfl rfl (v_assign rfl rfl) ?_
                refine o_nil ?_
                with_reducible refine r_then ?_
                refine r_ret ?_
                with_reducible refine r_then_ret ?_
                exact r_retv2 (Rd.tmp rfl rfl) (congrArg Value.bool (decide_eq_false (fun g : GoodB B => by have g1 := g.nb; have g2 := g.w; have g3 := g.nr; have g4 := g.dr; have g5 := g.ns; first | omega | (have g9 := g.banks k1 (by omega); unfold BankOk at g9; omega) | (have g9 := g.rain k2 (by omega); unfold RainOk at g9; omega) | (have g9 := g.signs k3 (by omega); contradiction))).symm) SelMC.sel SubRC.sub
            ·
              first
              | (exfalso; revert hc35; decide)
              | skip
                refine r_skip ?_
                with_reducible refine r_then ?_
                refine r_seq ?_
                refine r_seq ?_
                refine r_region ?_
                refine o_q _ rfl rfl rfl (v_assign rfl rfl) ?_
                refine o_nil ?_
                with_reducible refine r_then ?_
                refine r_block ?_
                refine r_loop (ι := Nat) (fun k1 => k1 ≤ B.banks.length ∧ ∀ j, j < k1 → BankOk (B.banks.getD j default)) (fun k1 => [(1, pt b1 0), (3, i64 k1)]) (fun k1 => bx b1 28 (cellsB B bo ro so bc rc sc) :: M) (fun k1 => [rowD bo 4 encB B.banks, rowD ro 2 encS B.rain, rowD so 3 encG B.signs] ++ Rf) (fun k1 => B.banks.length - k1) 0 ?_ ?_ ?_
                ·
                  exact r_here (by repeat (first | exact FSub.nil | refine FSub.cons rfl ?_)) SelMC.sel SubRC.sub
                ·
                  exact ⟨Nat.zero_le _, fun j hj => absurd hj (by omega)⟩
                ·
                  rintro k1 hI0
                  refine r_seq ?_
                  refine r_seq ?_
                  refine r_region ?_
                  refine o_q _ rfl rfl rfl (v_move rfl rfl) ?_
                  refine o_q _ rfl rfl rfl (v_fieldAddr rfl Try.underlying28 inf22 rfl rfl rfl rfl) ?_
                  refine o_q _ rfl rfl rfl (v_ld1 rfl Try.underlying22 rfl rfl rfl) ?_
                  refine o_q _ rfl rfl rfl (v_len rfl rfl Try.underlying22 rfl) ?_
                  refine o_q _ rfl rfl rfl (v_lss rfl rfl rfl) ?_
                  refine o_nil ?_
                  with_reducible refine r_then ?_
                  refine r_condd rfl (fun hc40 => ?_) (fun hc40 => ?_)
                  ·
                    refine r_skip ?_
                    with_reducible refine r_then ?_
                    refine r_seq ?_
                    refine r_block ?_
                    refine r_seq ?_
                    refine r_region ?_
                    refine o_q _ rfl rfl rfl (v_fieldAddr rfl Try.underlying28 inf22 rfl rfl rfl rfl) ?_
                    refine o_q _ rfl rfl rfl (v_ld1 rfl Try.underlying22 rfl rfl rfl) ?_
                    refine o_q _ rfl rfl rfl (v_move rfl rfl) ?_
                    refine o_q _ rfl rfl rfl (v_indexAddrSn rfl Try.underlying22 inf58 rfl rfl rfl (by omega) rfl) ?_
                    refine o_q _ rfl rfl rfl (v_fieldAddr rfl Try.underlying58 inf24 rfl rfl rfl rfl) ?_
                    refine o_q _ rfl rfl rfl (v_loadEN rfl Try.underlying24 rfl inf24 rfl (by omega) rfl rfl rfl) ?_
                    refine o_test rfl rfl rfl (OpQ.fn (rspan_v _ _ _ _) rfl rfl SubRC.sub) (fun h49 => ?_) (fun h49 => ?_)
                    all_goals
                      refine o_q _ rfl rfl rfl (v_not rfl rfl) ?_
                      refine o_q _ rfl rfl rfl (v_move rfl rfl) ?_
                      first | refine o_gn rfl rfl rfl rfl ?_ | refine o_g _ rfl rfl rfl rfl (v_fieldAddr rfl Try.underlying28 inf22 rfl rfl rfl rfl) ?_
                      first | refine o_gn rfl rfl rfl rfl ?_ | refine o_g _ rfl rfl rfl rfl (v_ld1 rfl Try.underlying22 rfl rfl rfl) ?_
                      first | refine o_gn rfl rfl rfl rfl ?_ | refine o_g _ rfl rfl rfl rfl (v_move rfl rfl) ?_
                      first | refine o_gn rfl rfl rfl rfl ?_ | refine o_g _ rfl rfl rfl rfl (v_indexAddrSn rfl Try.underlying22 inf58 rfl rfl rfl (by omega) rfl) ?_
                      first | refine o_gn rfl rfl rfl rfl ?_ | refine o_g _ rfl rfl rfl rfl (v_fieldAddr rfl Try.underlying58 inf24 rfl rfl rfl rfl) ?_
                      first | refine o_gn rfl rfl rfl rfl ?_ | refine o_g _ rfl rfl rfl rfl (v_loadEN rfl Try.underlying24 rfl inf24 rfl (by omega) rfl rfl rfl) ?_
                      first | refine o_gn rfl rfl rfl rfl ?_ | refine o_gtest rfl rfl rfl rfl (OpQ.fn (rspan_v _ _ _ _) rfl rfl SubRC.sub) (fun h58 => ?_) (fun h58 => ?_)
                      all_goals
                        first | refine o_gn rfl rfl rfl rfl ?_ | refine o_g _ rfl rfl rfl rfl (v_not rfl rfl) ?_
                        first | refine o_q _ rfl rfl rfl (v_pick_t rfl rfl rfl) ?_ | refine o_q _ rfl rfl rfl (v_pick_f rfl rfl rfl) ?_
                        refine o_nil ?_
                        with_reducible refine r_then ?_
                        refine r_cond rfl (fun hc60 => ?_) (fun hc60 => ?_)
                        ·
                          first
                          | (exfalso; revert hc60; decide)
                          | skip
                            refine r_seq ?_
                            refine r_region ?_
                            refine o_q _ rfl rfl rfl (v_assign rfl rfl) ?_
                            refine o_nil ?_
                            with_reducible refine r_then ?_
                            refine r_ret ?_
                            with_reducible refine r_in_ret ?_; refine r_then_ret ?_; refine r_then_ret ?_; refine r_in_ret ?_; refine r_then_ret ?_
                            exact r_retv2 (Rd.tmp rfl rfl) (congrArg Value.bool (decide_eq_false (fun g : GoodB B => by have g1 := g.nb; have g2 := g.w; have g3 := g.nr; have g4 := g.dr; have g5 := g.ns; first | omega | (have g9 := g.banks k1 (by omega); unfold BankOk at g9; omega) | (have g9 := g.rain k2 (by omega); unfold RainOk at g9; omega) | (have g9 := g.signs k3 (by omega); contradiction))).symm) SelMC.sel SubRC.sub
                        ·
                          first
                          | (exfalso; revert hc60; decide)
                          | skip
                            refine r_skip ?_
                            with_reducible refine r_in_normal ?_; refine r_then ?_
                            refine r_region ?_
                            refine o_q _ rfl rfl rfl (v_move rfl rfl) ?_
                            refine o_q _ rfl rfl rfl (v_add rfl rfl rfl (by omega)) ?_
                            refine o_q _ rfl rfl rfl (v_assign rfl rfl) ?_
                            refine o_nil ?_
                            with_reducible refine r_then ?_
                            refine r_next (k1 + 1) ?_ ?_ ?_
                            ·
                              exact r_here (by repeat (first | exact FSub.nil | refine FSub.cons rfl ?_)) SelMC.sel SubRC.sub
                            ·
                              exact ⟨by omega, all_step hI0.2 (by unfold BankOk; omega)⟩
                            ·
                              omega
                  ·
                    refine r_exit ?_
                    with_reducible refine r_then_exit ?_; refine r_then_exit ?_; refine r_in_here ?_; refine r_then ?_
                    refine r_seq ?_
                    refine r_seq ?_
                    refine r_region ?_
                    refine o_q _ rfl rfl rfl (v_assign rfl rfl) ?_
                    refine o_nil ?_
                    with_reducible refine r_then ?_
                    refine r_block ?_
                    refine r_loop (ι := Nat) (fun k2 => k2 ≤ B.rain.length ∧ ∀ j, j < k2 → RainOk (B.rain.getD j default)) (fun k2 => [(1, pt b1 0), (4, i64 k2)]) (fun k2 => bx b1 28 (cellsB B bo ro so bc rc sc) :: M) (fun k2 => [rowD bo 4 encB B.banks, rowD ro 2 encS B.rain, rowD so 3 encG B.signs] ++ Rf) (fun k2 => B.rain.length - k2) 0 ?_ ?_ ?_
                    ·
                      exact r_here (by repeat (first | exact FSub.nil | refine FSub.cons rfl ?_)) SelMC.sel SubRC.sub
                    ·
                      exact ⟨Nat.zero_le _, fun j hj => absurd hj (by omega)⟩
                    ·
                      rintro k2 hI1
                      refine r_seq ?_
                      refine r_seq ?_
                      refine r_region ?_
                      refine o_q _ rfl rfl rfl (v_move rfl rfl) ?_
                      refine o_q _ rfl rfl rfl (v_fieldAddr rfl Try.underlying28 inf25 rfl rfl rfl rfl) ?_
                      refine o_q _ rfl rfl rfl (v_ld1 rfl Try.underlying25 rfl rfl rfl) ?_
                      refine o_q _ rfl rfl rfl (v_len rfl rfl Try.underlying25 rfl) ?_
                      refine o_q _ rfl rfl rfl (v_lss rfl rfl rfl) ?_
                      refine o_nil ?_
                      with_reducible refine r_then ?_
                      refine r_condd rfl (fun hc65 => ?_) (fun hc65 => ?_)
                      ·
                        refine r_skip ?_
                        with_reducible refine r_then ?_
                        refine r_seq ?_
                        refine r_block ?_
                        refine r_seq ?_
                        refine r_region ?_
                        refine o_q _ rfl rfl rfl (v_fieldAddr rfl Try.underlying28 inf25 rfl rfl rfl rfl) ?_
                        refine o_q _ rfl rfl rfl (v_ld1 rfl Try.underlying25 rfl rfl rfl) ?_
                        refine o_q _ rfl rfl rfl (v_move rfl rfl) ?_
                        refine o_q _ rfl rfl rfl (v_indexAddrSn rfl Try.underlying25 inf24 rfl rfl rfl (by omega) rfl) ?_
                        refine o_q _ rfl rfl rfl (v_loadEN rfl Try.underlying24 rfl inf24 rfl (by omega) rfl rfl rfl) ?_
                        refine o_test rfl rfl rfl (OpQ.fn (rspan_v _ _ _ _) rfl rfl SubRC.sub) (fun h73 => ?_) (fun h73 => ?_)
                        all_goals
                          refine o_q _ rfl rfl rfl (v_not rfl rfl) ?_
                          refine o_nil ?_
                          with_reducible refine r_then ?_
                          refine r_cond rfl (fun hc74 => ?_) (fun hc74 => ?_)
                          ·
                            first
                            | (exfalso; revert hc74; decide)
                            | skip
                              refine r_seq ?_
                              refine r_region ?_
                              refine o_q _ rfl rfl rfl (v_assign rfl rfl) ?_
                              refine o_nil ?_
                              with_reducible refine r_then ?_
                              refine r_ret ?_
                              with_reducible refine r_in_ret ?_; refine r_then_ret ?_; refine r_then_ret ?_; refine r_in_ret ?_; refine r_then_ret ?_
                              exact r_retv2 (Rd.tmp rfl rfl) (congrArg Value.bool (decide_eq_false (fun g : GoodB B => by have g1 := g.nb; have g2 := g.w; have g3 := g.nr; have g4 := g.dr; have g5 := g.ns; first | omega | (have g9 := g.banks k1 (by omega); unfold BankOk at g9; omega) | (have g9 := g.rain k2 (by omega); unfold RainOk at g9; omega) | (have g9 := g.signs k3 (by omega); contradiction))).symm) SelMC.sel SubRC.sub
                          ·
                            first
                            | (exfalso; revert hc74; decide)
                            | skip
                              refine r_skip ?_
                              with_reducible refine r_in_normal ?_; refine r_then ?_
                              refine r_region ?_
                              refine o_q _ rfl rfl rfl (v_move rfl rfl) ?_
                              refine o_q _ rfl rfl rfl (v_add rfl rfl rfl (by omega)) ?_
                              refine o_q _ rfl rfl rfl (v_assign rfl rfl) ?_
                              refine o_nil ?_
                              with_reducible refine r_then ?_
                              refine r_next (k2 + 1) ?_ ?_ ?_
                              ·
                                exact r_here (by repeat (first | exact FSub.nil | refine FSub.cons rfl ?_)) SelMC.sel SubRC.sub
                              ·
                                exact ⟨by omega, all_step hI1.2 (by unfold RainOk; omega)⟩
                              ·
                                omega
                      ·
                        refine r_exit ?_
                        with_reducible refine r_then_exit ?_; refine r_then_exit ?_; refine r_in_here ?_; refine r_then ?_
                        refine r_seq ?_
                        refine r_seq ?_
                        refine r_region ?_
                        refine o_q _ rfl rfl rfl (v_assign rfl rfl) ?_
                        refine o_nil ?_
                        with_reducible refine r_then ?_
                        refine r_block ?_
                        refine r_loop (ι := Nat) (fun k3 => k3 ≤ B.signs.length ∧ ∀ j, j < k3 → SignOk B (B.signs.getD j default)) (fun k3 => [(1, pt b1 0), (5, i64 k3)]) (fun k3 => bx b1 28 (cellsB B bo ro so bc rc sc) :: M) (fun k3 => [rowD bo 4 encB B.banks, rowD ro 2 encS B.rain, rowD so 3 encG B.signs] ++ Rf) (fun k3 => B.signs.length - k3) 0 ?_ ?_ ?_
                        ·
                          exact r_here (by repeat (first | exact FSub.nil | refine FSub.cons rfl ?_)) SelMC.sel SubRC.sub
                        ·
                          exact ⟨Nat.zero_le _, fun j hj => absurd hj (by omega)⟩
                        ·
                          rintro k3 hI2
                          refine r_seq ?_
                          refine r_seq ?_
                          refine r_region ?_
                          refine o_q _ rfl rfl rfl (v_move rfl rfl) ?_
                          refine o_q _ rfl rfl rfl (v_fieldAddr rfl Try.underlying28 inf26 rfl rfl rfl rfl) ?_
                          refine o_q _ rfl rfl rfl (v_ld1 rfl Try.underlying26 rfl rfl rfl) ?_
                          refine o_q _ rfl rfl rfl (v_len rfl rfl Try.underlying26 rfl) ?_
                          refine o_q _ rfl rfl rfl (v_lss rfl rfl rfl) ?_
                          refine o_nil ?_
                          with_reducible refine r_then ?_
                          refine r_condd rfl (fun hc79 => ?_) (fun hc79 => ?_)
                          ·
                            refine r_skip ?_
                            with_reducible refine r_then ?_
                            refine r_seq ?_
                            refine r_block ?_
                            refine r_seq ?_
                            refine r_region_q mixed (by kernel_rfl) ?_
                            refine q_q _ rfl rfl rfl (v_ldW rfl Try.underlying28 rfl inf28 rfl rfl) ?_
                            refine q_q _ rfl rfl rfl (v_fieldAddr rfl Try.underlying28 inf26 rfl rfl rfl rfl) ?_
                            refine q_q _ rfl rfl rfl (v_ld1 rfl Try.underlying26 rfl rfl rfl) ?_
                            refine q_q _ rfl rfl rfl (v_move rfl rfl) ?_
                            refine q_q _ rfl rfl rfl (v_indexAddrSn rfl Try.underlying26 inf55 rfl rfl rfl (by omega) rfl) ?_
                            refine q_q _ rfl rfl rfl (v_loadEN rfl Try.underlying55 rfl inf55 rfl (by omega) rfl rfl rfl) ?_
                            refine q_test rfl rfl rfl (OpQ.fn (rsign_v B bo ro so bc rc sc _ hl1 hl2 hl3) rfl rfl SubRC.sub) (fun h88 => ?_) (fun h88 => ?_)
                            all_goals
                              refine q_q _ rfl rfl rfl (v_not rfl rfl) ?_
                              refine q_nil ?_
                              with_reducible refine r_then ?_
                              refine r_cond rfl (fun hc89 => ?_) (fun hc89 => ?_)
                              ·
                                first
                                | (exfalso; revert hc89; decide)
                                | skip
                                  refine r_seq ?_
                                  refine r_region ?_
                                  refine o_q _ rfl rfl rfl (v_assign rfl rfl) ?_
                                  refine o_nil ?_
                                  with_reducible refine r_then ?_
                                  refine r_ret ?_
                                  with_reducible refine r_in_ret ?_; refine r_then_ret ?_; refine r_then_ret ?_; refine r_in_ret ?_; refine r_then_ret ?_
                                  exact r_retv2 (Rd.tmp rfl rfl) (congrArg Value.bool (decide_eq_false (fun g : GoodB B => by have g1 := g.nb; have g2 := g.w; have g3 := g.nr; have g4 := g.dr; have g5 := g.ns; first | omega | (have g9 := g.banks k1 (by omega); unfold BankOk at g9; omega) | (have g9 := g.rain k2 (by omega); unfold RainOk at g9; omega) | (have g9 := g.signs k3 (by omega); contradiction))).symm) SelMC.sel SubRC.sub
                              ·
                                first
                                | (exfalso; revert hc89; decide)
                                | skip
                                  refine r_skip ?_
                                  with_reducible refine r_in_normal ?_; refine r_then ?_
                                  refine r_region ?_
                                  refine o_q _ rfl rfl rfl (v_move rfl rfl) ?_
                                  refine o_q _ rfl rfl rfl (v_add rfl rfl rfl (by omega)) ?_
                                  refine o_q _ rfl rfl rfl (v_assign rfl rfl) ?_
                                  refine o_nil ?_
                                  with_reducible refine r_then ?_
                                  refine r_next (k3 + 1) ?_ ?_ ?_
                                  ·
                                    exact r_here (by repeat (first | exact FSub.nil | refine FSub.cons rfl ?_)) SelMC.sel SubRC.sub
                                  ·
                                    exact ⟨by omega, all_step hI2.2 (by assumption)⟩
                                  ·
                                    omega
                          ·
                            refine r_exit ?_
                            with_reducible refine r_then_exit ?_; refine r_then_exit ?_; refine r_in_here ?_; refine r_then ?_
                            refine r_seq ?_
                            refine r_region ?_
                            refine o_q _ rfl rfl rfl (v_assign rfl rfl) ?_
                            refine o_nil ?_
                            with_reducible refine r_then ?_
                            refine r_ret ?_
                            exact r_retv2 (Rd.tmp rfl rfl) (congrArg Value.bool (decide_eq_true (⟨by omega, by omega, by omega, by omega, by omega, fun j hj => hI0.2 j (by omega), fun j hj => hI1.2 j (by omega), fun j hj => hI2.2 j (by omega)⟩ : GoodB B)).symm) SelMC.sel SubRC.sub
/-- There is far too much of something. -/
def farB (B : Bog) : Prop := 40 < max (max (B.banks.length : Int) B.rain.length) B.signs.length
instance (B : Bog) : Decidable (farB B) := by unfold farB; infer_instance
set_option maxHeartbeats 4000000 in
theorem far_v  : FnV Try.prog 33 [valB B bo ro so bc rc sc] [] (.bool (decide (40 < max (max (B.banks.length : Int) B.rain.length) B.signs.length))) := by
  refine FnV.intro Try.call33 Try.func33 rfl Try.ntmps33 rfl ?_
  intro W M Rf
  refine r_seq ?_
  refine r_region ?_
  refine o_boxA rfl rfl rfl rfl rfl (fun b1 => ?_)
  refine o_q _ rfl rfl rfl (v_assign rfl rfl) ?_
  refine o_nil ?_
  with_reducible refine r_then ?_
  refine r_seq ?_
  refine r_region ?_
  refine o_q _ rfl rfl rfl (v_fieldAddr rfl Try.underlying28 inf22 rfl rfl rfl rfl) ?_
  refine o_q _ rfl rfl rfl (v_ld1 rfl Try.underlying22 rfl rfl rfl) ?_
  refine o_q _ rfl rfl rfl (v_len rfl rfl Try.underlying22 rfl) ?_
  refine o_q _ rfl rfl rfl (v_fieldAddr rfl Try.underlying28 inf25 rfl rfl rfl rfl) ?_
  refine o_q _ rfl rfl rfl (v_ld1 rfl Try.underlying25 rfl rfl rfl) ?_
  refine o_q _ rfl rfl rfl (v_len rfl rfl Try.underlying25 rfl) ?_
  refine o_q _ rfl rfl rfl (v_fieldAddr rfl Try.underlying28 inf26 rfl rfl rfl rfl) ?_
  refine o_q _ rfl rfl rfl (v_ld1 rfl Try.underlying26 rfl rfl rfl) ?_
  refine o_q _ rfl rfl rfl (v_len rfl rfl Try.underlying26 rfl) ?_
  refine o_q _ rfl rfl rfl (v_max3 rfl rfl rfl rfl) ?_
  refine o_q _ rfl rfl rfl (v_gtr rfl rfl rfl) ?_
  refine o_q _ rfl rfl rfl (v_assign rfl rfl) ?_
  refine o_nil ?_
  with_reducible refine r_then ?_
  refine r_ret ?_
  exact r_retv2 (Rd.tmp rfl rfl) rfl SelMC.sel SubRC.sub
set_option maxHeartbeats 4000000 in
theorem lspan_v (lo hi : Int) : FnV Try.prog 37 [i64 lo, i64 hi] [] (.agg #[i64 lo, i64 hi]) := by
  refine FnV.intro Try.call37 Try.func37 rfl Try.ntmps37 rfl ?_
  intro W M Rf
  refine r_seq ?_
  refine r_region ?_
  refine o_alloc rfl inf24 rfl rfl rfl rfl rfl (fun b4 => ?_)
  refine o_nil ?_
  with_reducible refine r_then ?_
  refine r_seq ?_
  refine r_region ?_
  refine o_q _ rfl rfl rfl (v_move rfl rfl) ?_
  refine o_q _ rfl rfl rfl (v_move rfl rfl) ?_
  refine o_q _ rfl rfl rfl (v_bS rfl Try.underlying24 inf24 plt24 rfl rfl rfl (by repeat (first | exact trivial | refine ⟨rfl, ?_⟩)) (by rfl)) ?_
  refine o_st rfl inf24 rfl rfl rfl rfl rfl rfl rfl rfl ?_
  refine o_nil ?_
  with_reducible refine r_then ?_
  refine r_ret ?_
  exact r_retv2 (Rd.one rfl (RdI.cellW Try.underlying24 rfl inf24 rfl rfl)) rfl SelMC.sel SubRC.sub
set_option maxHeartbeats 4000000 in
theorem lsign_v (a b c : Int) : FnV Try.prog 44 [i64 a, i64 b, i64 c] [] (.agg #[i64 a, i64 b, i64 c]) := by
  refine FnV.intro Try.call44 Try.func44 rfl Try.ntmps44 rfl ?_
  intro W M Rf
  refine r_seq ?_
  refine r_region ?_
  refine o_alloc rfl inf55 rfl rfl rfl rfl rfl (fun b6 => ?_)
  refine o_nil ?_
  with_reducible refine r_then ?_
  refine r_seq ?_
  refine r_region ?_
  refine o_q _ rfl rfl rfl (v_move rfl rfl) ?_
  refine o_q _ rfl rfl rfl (v_move rfl rfl) ?_
  refine o_q _ rfl rfl rfl (v_move rfl rfl) ?_
  refine o_q _ rfl rfl rfl (v_bS rfl Try.underlying55 inf55 plt55 rfl rfl rfl (by repeat (first | exact trivial | refine ⟨rfl, ?_⟩)) (by rfl)) ?_
  refine o_st rfl inf55 rfl rfl rfl rfl rfl rfl rfl rfl ?_
  refine o_nil ?_
  with_reducible refine r_then ?_
  refine r_ret ?_
  exact r_retv2 (Rd.one rfl (RdI.cellW Try.underlying55 rfl inf55 rfl rfl)) rfl SelMC.sel SubRC.sub
end Go.Proofs.Ytoggggnlponfhaa


namespace Go.Proofs.Ytoggggnlponfhaa
open Go.G Burst8
set_option maxRecDepth 1000000
attribute [local irreducible] G.ParO G.Fin
attribute [local irreducible] fw fwR fwC emptyT tabOf knownT canB boundsL
variable (B : Bog) (bo ro so : Option Addr) (bc rc sc : Nat) (bb mb : Nat)
end Go.Proofs.Ytoggggnlponfhaa


namespace Go.Proofs.Ytoggggnlponfhaa
open Go.G Burst8
attribute [local irreducible] fw fwR fwC emptyT tabOf knownT canB boundsL
abbrev bD : Bog := sampleB [⟨1, 1, 2⟩]
abbrev bN : Bog := sampleB []
abbrev bC : Bog := sampleB [⟨1, 1, 2⟩, ⟨1, 1, 0⟩]
theorem goodD : GoodB bD := by decide
theorem goodN : GoodB bN := by decide
theorem goodC : GoodB bC := by decide
theorem tBD : tB bD = KD := knownD
theorem tBN : tB bN = KN := knownN
theorem ex1 : waterB bD 0 = (⟨5, 6⟩, 0) := by
  unfold waterB; rw [ansB_0 (chkB_0 (v := isD bD 0) goodD (by decide) canD), tBD]; decide +kernel
theorem ex2 : marginB bD 0 2 = (⟨-1, 3⟩, 0) := by
  unfold marginB; rw [ansB_0 (chkB_0 (v := decide ((0 ≤ (0 : Int) ∧ (0 : Int) ≤ (bD.banks.length : Int) - 1) ∧ (0 ≤ (2 : Int) ∧ (2 : Int) ≤ (bD.rain.length : Int)))) goodD (by decide) canD), tBD]; decide +kernel
theorem ex3 : movesB bN 2 = ((0, 1), 0) := by
  unfold movesB sureB someB; rw [ansB_0 (chkB_0 (v := isD bN 2) goodN (by decide) canN), tBN]; decide +kernel
theorem ex4 : safeV bN 2 = (1, 0) := by
  unfold safeV gradeB; rw [ansB_0 (chkB_0 (v := isD bN 2) goodN (by decide) canN), tBN, show canB bN (allS bN) 2 true = true from canW]; decide +kernel
theorem ex5 : untilB bN = (1, 0) := by
  unfold untilB lastB safeB; rw [tBN, ansE_0 (chkB_0 goodN rfl canN) (by decide +kernel)]; decide +kernel
theorem ex6 : firstB bN 2 = (0, 0) := by
  unfold firstB; rw [tBN, ansE_0 (chkB_0 (v := isD bN 2) goodN (by decide) canN) (by decide +kernel)]; decide +kernel
theorem ex7 : spareB bN 1 = (4, 0) := by
  unfold spareB; rw [tBN, ansE_0 (chkB_0 (v := isK bN 1) goodN (by decide) canN) (by decide +kernel)]; decide +kernel
theorem ex9 : (spareB bN 0) = (0, 4) := by
  unfold spareB; rw [tBN, ansE_4 (chkB_0 (v := isK bN 0) goodN (by decide) canN) (by decide +kernel)]
theorem clC : clashL bC = [2, 3] := by
  show clashTo bC 4 = _
  simp only [clashTo, canC0, canC1, canC2, canC3]; rfl
theorem ex8 : clashB bC = (2, 0) := by
  unfold clashB; rw [if_pos goodC, if_neg (by rw [show canB bC (allS bC) 0 false = false from canC3]; decide), clC]; decide +kernel
end Go.Proofs.Ytoggggnlponfhaa


namespace Go.Proofs.Ytoggggnlponfhaa
open Go.G Burst8
set_option maxRecDepth 1000000
attribute [local irreducible] G.ParO G.Fin
def adrAt (v : Value) (k : Nat) : Option Addr := match v with
  | .agg cs => adr (cs.getD k undef)
  | _ => none
theorem encB_len (x : Bank) : (encB x).length = 4 := rfl
theorem encS_len (x : Burst8.Span) : (encS x).length = 2 := rfl
attribute [local irreducible] fw fwR fwC emptyT tabOf knownT canB boundsL
set_option maxHeartbeats 4000000 in
theorem sample_r (l : List Sign) (so : Option Addr) (sc : Nat) : FnR Try.prog 43 [.slice so l.length sc] [] (fun v => ∃ bo ro, v = valB (sampleB l) bo ro so 2 2 sc) (fun v => [rowD (adrAt v 0) 4 encB (sampleB l).banks, rowD (adrAt v 3) 2 encS (sampleB l).rain]) := by
  refine FnR.intro Try.call43 Try.func43 rfl Try.ntmps43 rfl ?_
  intro W M Rf
  refine r_seq ?_
  refine r_region ?_
  refine o_alloc rfl inf28 rfl rfl rfl rfl rfl (fun b2 => ?_)
  refine o_nil ?_
  with_reducible refine r_then ?_
  refine r_seq ?_
  refine r_region ?_
  refine o_q _ rfl rfl rfl (OpQ.fn (lspan_v _ _) rfl rfl SubRC.sub) ?_
  refine o_q _ rfl rfl rfl (OpQ.fn (lspan_v _ _) rfl rfl SubRC.sub) ?_
  refine o_q _ rfl rfl rfl (v_bS rfl Try.underlying58 inf58 plt58 rfl rfl rfl (by repeat (first | exact trivial | refine ⟨rfl, ?_⟩)) (by rfl)) ?_
  refine o_q _ rfl rfl rfl (OpQ.fn (lspan_v _ _) rfl rfl SubRC.sub) ?_
  refine o_q _ rfl rfl rfl (OpQ.fn (lspan_v _ _) rfl rfl SubRC.sub) ?_
  refine o_q _ rfl rfl rfl (v_bS rfl Try.underlying58 inf58 plt58 rfl rfl rfl (by repeat (first | exact trivial | refine ⟨rfl, ?_⟩)) (by rfl)) ?_
  refine o_lit rfl Try.underlying22 inf58 rfl rfl rfl rfl rfl rfl rfl rfl (by repeat (first | exact trivial | refine ⟨rfl, ?_⟩)) (by rfl) (fun b9 => ?_)
  refine o_q _ rfl rfl rfl (OpQ.fn (lspan_v _ _) rfl rfl SubRC.sub) ?_
  refine o_q _ rfl rfl rfl (OpQ.fn (lspan_v _ _) rfl rfl SubRC.sub) ?_
  refine o_q _ rfl rfl rfl (OpQ.fn (lspan_v _ _) rfl rfl SubRC.sub) ?_
  refine o_lit rfl Try.underlying25 inf24 rfl rfl rfl rfl rfl rfl rfl rfl (by repeat (first | exact trivial | refine ⟨rfl, ?_⟩)) (by rfl) (fun b13 => ?_)
  refine o_q _ rfl rfl rfl (v_move rfl rfl) ?_
  refine o_q _ rfl rfl rfl (v_bS rfl Try.underlying28 inf28 plt28 rfl rfl rfl (by repeat (first | exact trivial | refine ⟨rfl, ?_⟩)) (by rfl)) ?_
  refine o_st rfl inf28 rfl rfl rfl rfl rfl rfl rfl rfl ?_
  refine o_nil ?_
  with_reducible refine r_then ?_
  refine r_ret ?_
  refine Imp.box_to b2 (cellsB (sampleB l) (some ⟨b9, 0, none⟩) (some ⟨b13, 0, none⟩) so 2 2 sc) rfl ?_
  refine Imp.sealB b9 ?_
  refine Imp.rowN (b := b9) (sampleB l).banks encB_len rfl ?_
  refine Imp.sealB b13 ?_
  refine Imp.rowN (b := b13) (sampleB l).rain encS_len rfl ?_
  exact r_retr (Rd.one rfl (RdI.cellW Try.underlying28 rfl inf28 rfl rfl)) ⟨some ⟨b9, 0, none⟩, some ⟨b13, 0, none⟩, rfl⟩ SelMC.sel (by show SubR _ ([rowD (some ⟨b9, 0, none⟩) 4 encB (sampleB l).banks, rowD (some ⟨b13, 0, none⟩) 2 encS (sampleB l).rain] ++ _); exact SubRC.sub)
theorem o_sample {W : World} {n : Nat} {D : List Deferred} {L : Tm} {M : List Res} {R : List Fact} {Q : Exit → Act → World → Prop} {o : Oper} {ops : Array Oper} {rest : List Oper} {xs : List Operand} {ts : Array TypeId} {d : Nat} (l : List Sign) (so : Option Addr) (sc : Nat)
    (ho : o.op = .call { callee := .value (.func 43), args := xs.toArray, argTypes := ts }) (hx : evs L xs = some [.slice so l.length sc]) (hg : o.guard = none) (hdst : o.dst = some d) (hd : Nat.blt d n = true)
    (hret : ∀ bo ro, Imp W n D ((d, valB (sampleB l) bo ro so 2 2 sc) :: L) M (rowD bo 4 encB (sampleB l).banks :: rowD ro 2 encS (sampleB l).rain :: R) (wpList Try.prog ops Q rest)) : Imp W n D L M R (wpList Try.prog ops Q (o :: rest)) :=
  o_fn (sample_r l so sc) ho hx hg hdst hd SubR.nil (fun v ⟨bo, ro, hv⟩ => by subst hv; exact hret bo ro)
end Go.Proofs.Ytoggggnlponfhaa


namespace Go.Proofs.Ytoggggnlponfhaa
open Go.G Burst8
set_option maxRecDepth 1000000
attribute [local irreducible] G.ParO G.Fin
attribute [local irreducible] fw fwR fwC emptyT tabOf knownT canB boundsL
theorem smpW (bo ro so : Option Addr) (sc : Nat) : FnV Try.prog 14 [valB bD bo ro so 2 2 sc, i64 0] [rowD bo 4 encB bD.banks, rowD ro 2 encS bD.rain, rowD so 3 encG ([⟨1, 1, 2⟩] : List Sign)] (.tuple #[.agg #[i64 5, i64 6], i64 0]) := by
  have h := water_v bD bo ro so 2 2 sc 0 (by decide) (by decide) (by decide)
  rw [ex1] at h; exact h
theorem smpM (bo ro so : Option Addr) (sc : Nat) : FnV Try.prog 16 [valB bD bo ro so 2 2 sc, i64 0, i64 2] [rowD bo 4 encB bD.banks, rowD ro 2 encS bD.rain, rowD so 3 encG ([⟨1, 1, 2⟩] : List Sign)] (.tuple #[.agg #[i64 (-1), i64 3], i64 0]) := by
  have h := Margin_v bD bo ro so 2 2 sc 0 2 (by decide) (by decide) (by decide)
  rw [ex2] at h; exact h
theorem smpV (bo ro so : Option Addr) (sc : Nat) : FnV Try.prog 18 [valB bN bo ro so 2 2 sc, i64 2] [rowD bo 4 encB bN.banks, rowD ro 2 encS bN.rain, rowD so 3 encG ([] : List Sign)] (.tuple #[i64 0, i64 1, i64 0]) := by
  have h := moves_v bN bo ro so 2 2 sc 2 (by decide) (by decide) (by decide)
  rw [ex3] at h; exact h
theorem smpS (bo ro so : Option Addr) (sc : Nat) : FnV Try.prog 22 [valB bN bo ro so 2 2 sc, i64 2] [rowD bo 4 encB bN.banks, rowD ro 2 encS bN.rain, rowD so 3 encG ([] : List Sign)] (.tuple #[i64 1, i64 0]) := by
  have h := safe_v bN bo ro so 2 2 sc 2 (by decide) (by decide) (by decide)
  rw [ex4] at h; exact h
theorem smpU (bo ro so : Option Addr) (sc : Nat) : FnV Try.prog 24 [valB bN bo ro so 2 2 sc] [rowD bo 4 encB bN.banks, rowD ro 2 encS bN.rain, rowD so 3 encG ([] : List Sign)] (.tuple #[i64 1, i64 0]) := by
  have h := until_v bN bo ro so 2 2 sc (by decide) (by decide) (by decide)
  rw [ex5] at h; exact h
theorem smpF (bo ro so : Option Addr) (sc : Nat) : FnV Try.prog 26 [valB bN bo ro so 2 2 sc, i64 2] [rowD bo 4 encB bN.banks, rowD ro 2 encS bN.rain, rowD so 3 encG ([] : List Sign)] (.tuple #[i64 0, i64 0]) := by
  have h := First_v bN bo ro so 2 2 sc 2 (by decide) (by decide) (by decide)
  rw [ex6] at h; exact h
theorem smpP (bo ro so : Option Addr) (sc : Nat) : FnV Try.prog 20 [valB bN bo ro so 2 2 sc, i64 1] [rowD bo 4 encB bN.banks, rowD ro 2 encS bN.rain, rowD so 3 encG ([] : List Sign)] (.tuple #[i64 4, i64 0]) := by
  have h := spare_v bN bo ro so 2 2 sc 1 (by decide) (by decide) (by decide)
  rw [ex7] at h; exact h
theorem smpQ (bo ro so : Option Addr) (sc : Nat) : FnV Try.prog 20 [valB bN bo ro so 2 2 sc, i64 0] [rowD bo 4 encB bN.banks, rowD ro 2 encS bN.rain, rowD so 3 encG ([] : List Sign)] (.tuple #[i64 0, i64 4]) := by
  have h := spare_v bN bo ro so 2 2 sc 0 (by decide) (by decide) (by decide)
  rw [ex9] at h; exact h
theorem smpC (bo ro so : Option Addr) (sc : Nat) : FnV Try.prog 28 [valB bC bo ro so 2 2 sc] [rowD bo 4 encB bC.banks, rowD ro 2 encS bC.rain, rowD so 3 encG ([⟨1, 1, 2⟩, ⟨1, 1, 0⟩] : List Sign)] (.tuple #[i64 2, i64 0]) := by
  have h := clash_v bC bo ro so 2 2 sc (by decide) (by decide) (by decide)
  rw [ex8] at h; exact h
end Go.Proofs.Ytoggggnlponfhaa


namespace Go.Proofs.Ytoggggnlponfhaa
open Go.G Burst8
set_option maxRecDepth 1000000
attribute [local irreducible] G.ParO G.Fin
theorem guard24 : Try.prog.eqGuardType Try.prog.depth 24 = false := by kernel_rfl
theorem pc3 {w : World} {us : Array Value} {k : Nat} {v : Value} (h : us[k]? = some v) : (part 3 us k).run Try.prog w = .ok v w := run_partC Try.underlying3 rfl h
theorem eqIn24 (dd : Nat) (a b c d : Int) (w : World) : (Op.equalIn (dd + 1 + 1) 24 (.agg #[i64 a, i64 b]) (.agg #[i64 c, i64 d])).run Try.prog w = .ok (decide (a = c ∧ b = d ∧ True)) w := by
  refine eq_struct Try.underlying24 (by kernel_rfl) ?_
  exact fields_cons rfl (pc3 rfl) (pc3 rfl) (eq_int Try.underlying3) (fields_cons rfl (pc3 rfl) (pc3 rfl) (eq_int Try.underlying3) fields_nil)
theorem eq24 (a b c d : Int) (w : World) : (Op.equal 24 (.agg #[i64 a, i64 b]) (.agg #[i64 c, i64 d])).run Try.prog w = .ok (decide ((⟨a, b⟩ : Burst8.Span) = ⟨c, d⟩)) w :=
  eq_to (fun w => eqIn24 9998 a b c d w) (by simp) w
attribute [local irreducible] fw fwR fwC emptyT tabOf knownT canB boundsL
set_option maxHeartbeats 4000000 in
theorem awake_v  : FnV Try.prog 13 [] [] (.bool true) := by
  refine FnV.intro Try.call13 Try.func13 rfl Try.ntmps13 rfl ?_
  intro W M Rf
  refine r_seq ?_
  refine r_region ?_
  refine o_q _ rfl rfl rfl (v_assign rfl rfl) ?_
  refine o_nil ?_
  with_reducible refine r_then ?_
  refine r_seq ?_
  refine r_region ?_
  refine o_sample [] none 0 rfl rfl rfl rfl rfl (fun boN roN => ?_)
  refine o_q _ rfl rfl rfl (OpQ.fn (lsign_v _ _ _) rfl rfl SubRC.sub) ?_
  refine o_lit rfl Try.underlying26 inf55 rfl rfl rfl rfl rfl rfl rfl rfl (by repeat (first | exact trivial | refine ⟨rfl, ?_⟩)) (by rfl) (fun b24 => ?_)
  refine Imp.sealB b24 ?_
  refine Imp.rowN (b := b24) ([⟨1, 1, 2⟩] : List Sign) encG_len rfl ?_
  refine Imp.derive (ψ := rowD none 3 encG ([] : List Sign)) ?_ (fun V _ => .inl rfl)
  refine o_sample [⟨1, 1, 2⟩] (some ⟨b24, 0, none⟩) 1 rfl rfl rfl rfl rfl (fun boD roD => ?_)
  refine o_alloc rfl inf28 rfl rfl rfl rfl rfl (fun b1 => ?_)
  refine o_alloc rfl inf28 rfl rfl rfl rfl rfl (fun b2 => ?_)
  refine o_st rfl inf28 rfl rfl rfl rfl rfl rfl rfl rfl ?_
  refine o_st rfl inf28 rfl rfl rfl rfl rfl rfl rfl rfl ?_
  refine o_nil ?_
  with_reducible refine r_then ?_
  refine r_seq ?_
  refine r_region ?_
  refine o_q _ rfl rfl rfl (v_ldW rfl Try.underlying28 rfl inf28 rfl rfl) ?_
  refine o_q _ rfl rfl rfl (OpQ.fn (smpW boD roD _ _) rfl rfl SubRC.sub) ?_
  refine o_q _ rfl rfl rfl (v_move rfl rfl) ?_
  refine o_q _ rfl rfl rfl (v_extract rfl rfl rfl) ?_
  refine o_q _ rfl rfl rfl (v_extract rfl rfl rfl) ?_
  refine o_alloc rfl inf24 rfl rfl rfl rfl rfl (fun b3 => ?_)
  refine o_st rfl inf24 rfl rfl rfl rfl rfl rfl rfl rfl ?_
  refine o_q _ rfl rfl rfl (v_assign rfl rfl) ?_
  refine o_nil ?_
  with_reducible refine r_then ?_
  refine r_seq ?_
  refine r_region ?_
  refine o_q _ rfl rfl rfl (v_ldW rfl Try.underlying28 rfl inf28 rfl rfl) ?_
  refine o_q _ rfl rfl rfl (OpQ.fn (smpM boD roD _ _) rfl rfl SubRC.sub) ?_
  refine o_q _ rfl rfl rfl (v_move rfl rfl) ?_
  refine o_q _ rfl rfl rfl (v_extract rfl rfl rfl) ?_
  refine o_q _ rfl rfl rfl (v_extract rfl rfl rfl) ?_
  refine o_alloc rfl inf24 rfl rfl rfl rfl rfl (fun b5 => ?_)
  refine o_st rfl inf24 rfl rfl rfl rfl rfl rfl rfl rfl ?_
  refine o_q _ rfl rfl rfl (v_assign rfl rfl) ?_
  refine o_nil ?_
  with_reducible refine r_then ?_
  refine r_seq ?_
  refine r_region ?_
  refine o_q _ rfl rfl rfl (v_ldW rfl Try.underlying28 rfl inf28 rfl rfl) ?_
  refine o_q _ rfl rfl rfl (OpQ.fn (smpV boN roN _ _) rfl rfl SubRC.sub) ?_
  refine o_q _ rfl rfl rfl (v_move rfl rfl) ?_
  refine o_q _ rfl rfl rfl (v_extract rfl rfl rfl) ?_
  refine o_q _ rfl rfl rfl (v_extract rfl rfl rfl) ?_
  refine o_q _ rfl rfl rfl (v_extract rfl rfl rfl) ?_
  refine o_q _ rfl rfl rfl (v_assign rfl rfl) ?_
  refine o_q _ rfl rfl rfl (v_assign rfl rfl) ?_
  refine o_q _ rfl rfl rfl (v_assign rfl rfl) ?_
  refine o_nil ?_
  with_reducible refine r_then ?_
  refine r_seq ?_
  refine r_region ?_
  refine o_q _ rfl rfl rfl (v_ldW rfl Try.underlying28 rfl inf28 rfl rfl) ?_
  refine o_q _ rfl rfl rfl (OpQ.fn (smpS boN roN _ _) rfl rfl SubRC.sub) ?_
  refine o_q _ rfl rfl rfl (v_move rfl rfl) ?_
  refine o_q _ rfl rfl rfl (v_extract rfl rfl rfl) ?_
  refine o_q _ rfl rfl rfl (v_extract rfl rfl rfl) ?_
  refine o_q _ rfl rfl rfl (v_assign rfl rfl) ?_
  refine o_q _ rfl rfl rfl (v_assign rfl rfl) ?_
  refine o_nil ?_
  with_reducible refine r_then ?_
  refine r_seq ?_
  refine r_region ?_
  refine o_q _ rfl rfl rfl (v_ldW rfl Try.underlying28 rfl inf28 rfl rfl) ?_
  refine o_q _ rfl rfl rfl (OpQ.fn (smpU boN roN _ _) rfl rfl SubRC.sub) ?_
  refine o_q _ rfl rfl rfl (v_move rfl rfl) ?_
  refine o_q _ rfl rfl rfl (v_extract rfl rfl rfl) ?_
  refine o_q _ rfl rfl rfl (v_extract rfl rfl rfl) ?_
  refine o_q _ rfl rfl rfl (v_assign rfl rfl) ?_
  refine o_q _ rfl rfl rfl (v_assign rfl rfl) ?_
  refine o_nil ?_
  with_reducible refine r_then ?_
  refine r_seq ?_
  refine r_region ?_
  refine o_q _ rfl rfl rfl (v_ldW rfl Try.underlying28 rfl inf28 rfl rfl) ?_
  refine o_q _ rfl rfl rfl (OpQ.fn (smpF boN roN _ _) rfl rfl SubRC.sub) ?_
  refine o_q _ rfl rfl rfl (v_move rfl rfl) ?_
  refine o_q _ rfl rfl rfl (v_extract rfl rfl rfl) ?_
  refine o_q _ rfl rfl rfl (v_extract rfl rfl rfl) ?_
  refine o_q _ rfl rfl rfl (v_assign rfl rfl) ?_
  refine o_q _ rfl rfl rfl (v_assign rfl rfl) ?_
  refine o_nil ?_
  with_reducible refine r_then ?_
  refine r_seq ?_
  refine r_region ?_
  refine o_q _ rfl rfl rfl (v_ldW rfl Try.underlying28 rfl inf28 rfl rfl) ?_
  refine o_q _ rfl rfl rfl (OpQ.fn (smpP boN roN _ _) rfl rfl SubRC.sub) ?_
  refine o_q _ rfl rfl rfl (v_move rfl rfl) ?_
  refine o_q _ rfl rfl rfl (v_extract rfl rfl rfl) ?_
  refine o_q _ rfl rfl rfl (v_extract rfl rfl rfl) ?_
  refine o_q _ rfl rfl rfl (v_assign rfl rfl) ?_
  refine o_q _ rfl rfl rfl (v_assign rfl rfl) ?_
  refine o_nil ?_
  with_reducible refine r_then ?_
  refine r_seq ?_
  refine r_region ?_
  refine o_q _ rfl rfl rfl (OpQ.fn (lsign_v _ _ _) rfl rfl SubRC.sub) ?_
  refine o_q _ rfl rfl rfl (OpQ.fn (lsign_v _ _ _) rfl rfl SubRC.sub) ?_
  refine o_lit rfl Try.underlying26 inf55 rfl rfl rfl rfl rfl rfl rfl rfl (by repeat (first | exact trivial | refine ⟨rfl, ?_⟩)) (by rfl) (fun b65 => ?_)
  refine Imp.sealB b65 ?_
  refine Imp.rowN (b := b65) ([⟨1, 1, 2⟩, ⟨1, 1, 0⟩] : List Sign) encG_len rfl ?_
  refine o_sample [⟨1, 1, 2⟩, ⟨1, 1, 0⟩] (some ⟨b65, 0, none⟩) 2 rfl rfl rfl rfl rfl (fun boC roC => ?_)
  refine o_q _ rfl rfl rfl (OpQ.fn (smpC boC roC _ _) rfl rfl SubRC.sub) ?_
  refine o_q _ rfl rfl rfl (v_move rfl rfl) ?_
  refine o_q _ rfl rfl rfl (v_extract rfl rfl rfl) ?_
  refine o_q _ rfl rfl rfl (v_extract rfl rfl rfl) ?_
  refine o_q _ rfl rfl rfl (v_assign rfl rfl) ?_
  refine o_q _ rfl rfl rfl (v_assign rfl rfl) ?_
  refine o_nil ?_
  with_reducible refine r_then ?_
  refine r_seq ?_
  refine r_region ?_
  refine o_q _ rfl rfl rfl (v_ldW rfl Try.underlying28 rfl inf28 rfl rfl) ?_
  refine o_q _ rfl rfl rfl (OpQ.fn (smpQ boN roN _ _) rfl rfl SubRC.sub) ?_
  refine o_q _ rfl rfl rfl (v_move rfl rfl) ?_
  refine o_q _ rfl rfl rfl (v_extract rfl rfl rfl) ?_
  refine o_q _ rfl rfl rfl (v_extract rfl rfl rfl) ?_
  refine o_q _ rfl rfl rfl (v_assign rfl rfl) ?_
  refine o_q _ rfl rfl rfl (v_assign rfl rfl) ?_
  refine o_nil ?_
  with_reducible refine r_then ?_
  refine r_seq ?_
  refine r_seq ?_
  refine r_region_q mixed (by kernel_rfl) ?_
  refine q_q _ rfl rfl rfl (v_ldW rfl Try.underlying24 rfl inf24 rfl rfl) ?_
  refine q_q _ rfl rfl rfl (OpQ.fn (lspan_v _ _) rfl rfl SubRC.sub) ?_
  refine q_q _ rfl rfl rfl (v_cast (v := .bool false) (v_neP rfl rfl rfl guard24 (eq24 _ _ _ _)) rfl) ?_
  refine q_q _ rfl rfl rfl (v_move rfl rfl) ?_
  refine q_g _ rfl rfl rfl rfl (v_move rfl rfl) ?_
  refine q_g _ rfl rfl rfl rfl (v_false (v_neq rfl rfl rfl) (by omega)) ?_
  all_goals
    refine q_q _ rfl rfl rfl (v_pick_f rfl rfl rfl) ?_
    refine q_q _ rfl rfl rfl (v_move rfl rfl) ?_
    refine q_g _ rfl rfl rfl rfl (v_ldW rfl Try.underlying24 rfl inf24 rfl rfl) ?_
    refine q_g _ rfl rfl rfl rfl (OpQ.fn (lspan_v _ _) rfl rfl SubRC.sub) ?_
    refine q_g _ rfl rfl rfl rfl (v_cast (v := .bool false) (v_neP rfl rfl rfl guard24 (eq24 _ _ _ _)) rfl) ?_
    refine q_q _ rfl rfl rfl (v_pick_f rfl rfl rfl) ?_
    refine q_q _ rfl rfl rfl (v_move rfl rfl) ?_
    refine q_g _ rfl rfl rfl rfl (v_move rfl rfl) ?_
    refine q_g _ rfl rfl rfl rfl (v_false (v_neq rfl rfl rfl) (by omega)) ?_
    all_goals
      refine q_q _ rfl rfl rfl (v_pick_f rfl rfl rfl) ?_
      refine q_q _ rfl rfl rfl (v_move rfl rfl) ?_
      refine q_g _ rfl rfl rfl rfl (v_move rfl rfl) ?_
      refine q_g _ rfl rfl rfl rfl (v_false (v_neq rfl rfl rfl) (by omega)) ?_
      all_goals
        refine q_q _ rfl rfl rfl (v_pick_f rfl rfl rfl) ?_
        refine q_q _ rfl rfl rfl (v_move rfl rfl) ?_
        refine q_g _ rfl rfl rfl rfl (v_move rfl rfl) ?_
        refine q_g _ rfl rfl rfl rfl (v_false (v_neq rfl rfl rfl) (by omega)) ?_
        all_goals
          refine q_q _ rfl rfl rfl (v_pick_f rfl rfl rfl) ?_
          refine q_q _ rfl rfl rfl (v_move rfl rfl) ?_
          refine q_g _ rfl rfl rfl rfl (v_move rfl rfl) ?_
          refine q_g _ rfl rfl rfl rfl (v_false (v_neq rfl rfl rfl) (by omega)) ?_
          all_goals
            refine q_q _ rfl rfl rfl (v_pick_f rfl rfl rfl) ?_
            refine q_q _ rfl rfl rfl (v_move rfl rfl) ?_
            refine q_g _ rfl rfl rfl rfl (v_move rfl rfl) ?_
            refine q_g _ rfl rfl rfl rfl (v_false (v_neq rfl rfl rfl) (by omega)) ?_
            all_goals
              refine q_q _ rfl rfl rfl (v_pick_f rfl rfl rfl) ?_
              refine q_q _ rfl rfl rfl (v_move rfl rfl) ?_
              refine q_g _ rfl rfl rfl rfl (v_move rfl rfl) ?_
              refine q_g _ rfl rfl rfl rfl (v_false (v_neq rfl rfl rfl) (by omega)) ?_
              all_goals
                refine q_q _ rfl rfl rfl (v_pick_f rfl rfl rfl) ?_
                refine q_q _ rfl rfl rfl (v_move rfl rfl) ?_
                refine q_g _ rfl rfl rfl rfl (v_move rfl rfl) ?_
                refine q_g _ rfl rfl rfl rfl (v_false (v_neq rfl rfl rfl) (by omega)) ?_
                all_goals
                  refine q_q _ rfl rfl rfl (v_pick_f rfl rfl rfl) ?_
                  refine q_q _ rfl rfl rfl (v_move rfl rfl) ?_
                  refine q_g _ rfl rfl rfl rfl (v_move rfl rfl) ?_
                  refine q_g _ rfl rfl rfl rfl (v_false (v_neq rfl rfl rfl) (by omega)) ?_
                  all_goals
                    refine q_q _ rfl rfl rfl (v_pick_f rfl rfl rfl) ?_
                    refine q_nil ?_
                    with_reducible refine r_then ?_
                    refine r_cond rfl (fun hc118 => ?_) (fun hc118 => ?_)
                    ·
                      (exfalso; revert hc118; decide)
                    ·
                      refine r_skip ?_
                      with_reducible refine r_then ?_
                      refine r_seq ?_
                      refine r_region ?_
                      refine o_q _ rfl rfl rfl (v_move rfl rfl) ?_
                      refine o_q _ rfl rfl rfl (v_true (v_eql rfl rfl rfl) (by omega)) ?_
                      all_goals
                        refine o_q _ rfl rfl rfl (v_move rfl rfl) ?_
                        refine o_g _ rfl rfl rfl rfl (v_move rfl rfl) ?_
                        refine o_g _ rfl rfl rfl rfl (v_true (v_eql rfl rfl rfl) (by omega)) ?_
                        all_goals
                          refine o_q _ rfl rfl rfl (v_pick_t rfl rfl rfl) ?_
                          refine o_q _ rfl rfl rfl (v_move rfl rfl) ?_
                          refine o_g _ rfl rfl rfl rfl (v_move rfl rfl) ?_
                          refine o_g _ rfl rfl rfl rfl (v_true (v_eql rfl rfl rfl) (by omega)) ?_
                          all_goals
                            refine o_q _ rfl rfl rfl (v_pick_t rfl rfl rfl) ?_
                            refine o_q _ rfl rfl rfl (v_move rfl rfl) ?_
                            refine o_g _ rfl rfl rfl rfl (v_move rfl rfl) ?_
                            refine o_g _ rfl rfl rfl rfl (v_true (v_eql rfl rfl rfl) (by omega)) ?_
                            all_goals
                              refine o_q _ rfl rfl rfl (v_pick_t rfl rfl rfl) ?_
                              refine o_q _ rfl rfl rfl (v_move rfl rfl) ?_
                              refine o_g _ rfl rfl rfl rfl (v_move rfl rfl) ?_
                              refine o_g _ rfl rfl rfl rfl (v_true (v_eql rfl rfl rfl) (by omega)) ?_
                              all_goals
                                refine o_q _ rfl rfl rfl (v_pick_t rfl rfl rfl) ?_
                                refine o_q _ rfl rfl rfl (v_move rfl rfl) ?_
                                refine o_g _ rfl rfl rfl rfl (v_move rfl rfl) ?_
                                refine o_g _ rfl rfl rfl rfl (v_true (v_eql rfl rfl rfl) (by omega)) ?_
                                all_goals
                                  refine o_q _ rfl rfl rfl (v_pick_t rfl rfl rfl) ?_
                                  refine o_q _ rfl rfl rfl (v_move rfl rfl) ?_
                                  refine o_g _ rfl rfl rfl rfl (v_move rfl rfl) ?_
                                  refine o_g _ rfl rfl rfl rfl (v_true (v_eql rfl rfl rfl) (by omega)) ?_
                                  all_goals
                                    refine o_q _ rfl rfl rfl (v_pick_t rfl rfl rfl) ?_
                                    refine o_q _ rfl rfl rfl (v_assign rfl rfl) ?_
                                    refine o_nil ?_
                                    with_reducible refine r_then ?_
                                    refine r_ret ?_
                                    exact r_retv2 (Rd.tmp rfl rfl) rfl SelMC.sel SubRC.sub
end Go.Proofs.Ytoggggnlponfhaa


set_option linter.unusedVariables false
namespace Burst8
open Go Go.G
/-- Numbers that a bound allows. -/
def Holds (x : Bnd) (y : Nat → Int) : Prop := x.lo ≤ y x.a - y x.b ∧ y x.a - y x.b ≤ x.hi
theorem sat_set {T : Tab} (hT : T.length = 121) {a b : Nat} (ha : a < 11) (hb : b < 11) {z : Int} {y : Nat → Int} : Sat (tset T a b (min (tat T a b) z)) y ↔ Sat T y ∧ y a - y b ≤ z := by
  constructor
  · intro h
    refine ⟨fun i hi k hk => ?_, ?_⟩
    · have := h i hi k hk
      rw [tat_set hT ha hb hi hk] at this
      split at this
      · rename_i e; obtain ⟨rfl, rfl⟩ := e; omega
      · exact this
    · have := h a ha b hb
      rw [tat_set hT ha hb ha hb, if_pos ⟨rfl, rfl⟩] at this
      omega
  · rintro ⟨h, hz⟩ i hi k hk
    rw [tat_set hT ha hb hi hk]
    have := h i hi k hk
    split
    · rename_i e; obtain ⟨rfl, rfl⟩ := e; omega
    · exact this
theorem sat_put1 {T : Tab} (hT : T.length = 121) {x : Bnd} (hx : InT x) {y : Nat → Int} : Sat (put1 T x) y ↔ Sat T y ∧ Holds x y := by
  unfold put1
  rw [sat_set (by rw [putA_len, hT]) hx.2.1 hx.1]
  unfold putA
  rw [sat_set hT hx.1 hx.2.1]
  unfold Holds
  constructor
  · rintro ⟨⟨h1, h2⟩, h3⟩; exact ⟨h1, by omega, h2⟩
  · rintro ⟨h1, h2, h3⟩; exact ⟨⟨h1, h3⟩, by omega⟩
def Near (y : Nat → Int) : Prop := ∀ i, i < 11 → ∀ k, k < 11 → y i - y k ≤ 65536
theorem sat_empty {y : Nat → Int} : Sat emptyT y ↔ Near y := by
  constructor
  · intro h i hi k hk
    have := h i hi k hk
    rw [tat_empty hi hk] at this
    split at this <;> omega
  · intro h i hi k hk
    rw [tat_empty hi hk]
    have := h i hi k hk
    split
    · rename_i e; subst e; omega
    · exact this
theorem sat_foldl {y : Nat → Int} : ∀ (l : List Bnd) (T : Tab), T.length = 121 → (∀ x ∈ l, InT x) → (Sat (l.foldl put1 T) y ↔ Sat T y ∧ ∀ x ∈ l, Holds x y)
  | [], T, _, _ => by simp
  | x :: l, T, hT, hl => by
    rw [List.foldl_cons, sat_foldl l _ (by rw [put1_len, hT]) (fun z hz => hl z (by simp [hz])), sat_put1 hT (hl x (by simp))]
    constructor
    · rintro ⟨⟨h1, h2⟩, h3⟩
      refine ⟨h1, fun z hz => ?_⟩
      rcases List.mem_cons.1 hz with rfl | hz
      · exact h2
      · exact h3 z hz
    · rintro ⟨h1, h2⟩
      exact ⟨⟨h1, h2 x (by simp)⟩, fun z hz => h2 z (by simp [hz])⟩
theorem sat_tab {l : List Bnd} (hl : ∀ x ∈ l, InT x) {y : Nat → Int} : Sat (tabOf l) y ↔ Near y ∧ ∀ x ∈ l, Holds x y := by
  unfold tabOf
  rw [sat_foldl l _ emptyT_len hl, sat_empty]
/-- The numbers of a truth: of the signs of a set, and of a wish. -/
def Tru (B : Bog) (m : Nat) (s : Int) (w : Bool) (y : Nat → Int) : Prop := Near y ∧ ∀ x ∈ boundsL B m s w, Holds x y
theorem sat_iff {B : Bog} (hg : GoodB B) {m : Nat} {s : Int} {w : Bool} {y : Nat → Int} : Sat (tabB B m s w) y ↔ Tru B m s w y := sat_tab (bounds_in hg)
theorem can_tru {B : Bog} (hg : GoodB B) {m : Nat} {s : Int} {w : Bool} : canB B m s w = true ↔ ∃ y, Tru B m s w y := by
  unfold canB
  rw [decide_eq_true_iff, can_iff (tabB_len ..)]
  constructor
  · rintro ⟨y, h⟩; exact ⟨y, (sat_iff hg).1 h⟩
  · rintro ⟨y, h⟩; exact ⟨y, (sat_iff hg).2 h⟩
theorem tabB_diag {B : Bog} (hg : GoodB B) {m : Nat} {s : Int} {w : Bool} (hc : canB B m s w = true) {i : Nat} (hi : i < 11) : tat (knownT B m s w) i i = 0 := by
  obtain ⟨y, hy⟩ := (can_tru hg).1 hc
  have hcan : Can (tabB B m s w) := by unfold canB at hc; exact of_decide_eq_true hc
  have h1 : 0 ≤ tat (knownT B m s w) i i := hcan i hi
  have h2 : tat (knownT B m s w) i i ≤ 0 := by
    have hd : ∀ (l : List Bnd) (T : Tab), T.length = 121 → (∀ x ∈ l, InT x) → tat T i i ≤ 0 → tat (l.foldl put1 T) i i ≤ 0 := by
      intro l
      induction l with
      | nil => intro T _ _ h; exact h
      | cons x l ih =>
        intro T hT hl h
        refine ih _ (by rw [put1_len, hT]) (fun z hz => hl z (by simp [hz])) ?_
        have hx := hl x (by simp)
        unfold put1
        rw [tat_set (by rw [putA_len, hT]) hx.2.1 hx.1 hi hi]
        have h3 : tat (putA T x) i i ≤ 0 := by
          unfold putA
          rw [tat_set hT hx.1 hx.2.1 hi hi]
          split
          · rename_i e; obtain ⟨e1, e2⟩ := e; rw [← e1, ← e2]; omega
          · exact h
        split
        · rename_i e; obtain ⟨e1, e2⟩ := e; rw [← e1, ← e2]; omega
        · exact h3
    have h4 : tat (tabB B m s w) i i ≤ 0 := hd _ _ emptyT_len (bounds_in hg) (by rw [tat_empty hi hi]; simp)
    have h5 := fw_le (tabB_len B m s w) hi hi
    unfold knownT; omega
  omega
/-- The span of a difference is that of the truths. -/
theorem span_tru {B : Bog} (hg : GoodB B) {m : Nat} {s : Int} {w : Bool} {y : Nat → Int} (h : Tru B m s w y) {a b : Nat} (ha : a < 11) (hb : b < 11) : 0 - tat (knownT B m s w) b a ≤ y a - y b ∧ y a - y b ≤ tat (knownT B m s w) a b := by
  have := span_in (tabB_len B m s w) ((sat_iff hg).2 h) ha hb
  unfold knownT; omega
/-- What is in order in a truth of more is so in one of less. -/
theorem Tru.mono {B : Bog} {m m' : Nat} {s s' : Int} {w w' : Bool} {y : Nat → Int} (h : Tru B m s w y) (hs : ∀ x ∈ boundsL B m' s' w', x ∈ boundsL B m s w) : Tru B m' s' w' y := ⟨h.1, fun x hx => h.2 x (hs x hx)⟩
end Burst8


namespace Go.Proofs.Ytoggggnlponfhaa
open Go.G Burst8
attribute [local irreducible] fw fwR fwC emptyT tabOf knownT canB boundsL
theorem leastN_spec (f : Nat → Int) : ∀ n, 0 < n → (leastN f n).1 < n ∧ f (leastN f n).1 = (leastN f n).2 ∧ (∀ j, j < n → (leastN f n).2 ≤ f j) ∧ ∀ j, j < (leastN f n).1 → (leastN f n).2 < f j
  | 0, h => absurd h (by omega)
  | k + 1, _ => by
    by_cases hk : k = 0
    · subst hk
      rw [leastN_y (Or.inl rfl)]
      refine ⟨by show 0 < 1; omega, rfl, fun j hj => ?_, fun j hj => absurd hj (by show ¬ j < 0; omega)⟩
      have : j = 0 := by omega
      subst this
      exact Int.le_refl _
    · obtain ⟨h1, h2, h3, h4⟩ := leastN_spec f k (by omega)
      by_cases hf : f k < (leastN f k).2
      · rw [leastN_y (Or.inr hf)]
        refine ⟨by show k < k + 1; omega, rfl, fun j hj => ?_, fun j hj => ?_⟩
        · show f k ≤ f j
          by_cases e : j = k
          · subst e; exact Int.le_refl _
          · have := h3 j (by omega); omega
        · show f k < f j
          have := h3 j hj; omega
      · rw [leastN_n (by rintro (h | h) <;> contradiction)]
        refine ⟨by omega, h2, fun j hj => ?_, h4⟩
        by_cases e : j = k
        · subst e; omega
        · exact h3 j (by omega)
theorem worst_le {T : Tab} {k d j : Nat} (hj : j ≤ d) : worstT T k d ≤ (marginT T k j).lo := (leastN_spec _ (d + 1) (by omega)).2.2.1 j (by omega)
theorem worst_at (T : Tab) (k d : Nat) : ∃ j, j ≤ d ∧ (marginT T k j).lo = worstT T k d := by
  obtain ⟨h1, h2, _⟩ := leastN_spec (fun j => (marginT T k j).lo) (d + 1) (by omega)
  exact ⟨_, by omega, h2⟩
section
variable {B : Bog}
end
end Go.Proofs.Ytoggggnlponfhaa


namespace Go.Proofs.Ytoggggnlponfhaa
open Go.G Burst8
set_option maxRecDepth 1000000
attribute [local irreducible] G.ParO G.Fin
def sureTo (B : Bog) (d : Nat) : Prop := ∀ j, j < d → mvTo (someB B j) B.banks.length = 0
instance (B : Bog) (d : Nat) : Decidable (sureTo B d) := by unfold sureTo; infer_instance
def lastG (B : Bog) : Nat → Int
  | 0 => 2
  | d + 1 => gradeB B (d : Int)
attribute [local irreducible] fw fwR fwC emptyT tabOf knownT canB boundsL
variable (B : Bog) (bo ro so : Option Addr) (bc rc sc : Nat) (bb mb : Nat)
end Go.Proofs.Ytoggggnlponfhaa


namespace Go.Proofs.Ytoggggnlponfhaa
open Go.G Burst8
set_option maxRecDepth 1000000
attribute [local irreducible] G.ParO G.Fin
theorem tmod_nat {a b : Nat} : ((a : Int)).tmod (b : Int) = ((a % b : Nat) : Int) := by
  rw [Int.tmod_eq_emod_of_nonneg (by omega)]; omega
theorem tmodV {a b : Nat} {c : Int} (h : c = (b : Int)) : Value.int .i64 ((a : Int).tmod c) = i64 ((a % b : Nat) : Int) := by subst h; rw [tmod_nat]
theorem tmodE {a b m : Nat} {c : Int} (e : a % b = m) (h : c = (b : Int)) : Value.int .i64 ((a : Int).tmod c) = i64 (m : Int) := by subst e; exact tmodV h
/-- The least of some numbers, or much. -/
def wrN (f : Nat → Int) : Nat → Int
  | 0 => 1048576
  | k + 1 => min (wrN f k) (f k)
attribute [local irreducible] fw fwR fwC emptyT tabOf knownT canB boundsL
attribute [local irreducible] firstT leastN
variable (B : Bog) (bo ro so : Option Addr) (bc rc sc : Nat) (bb mb : Nat)
end Go.Proofs.Ytoggggnlponfhaa


set_option linter.unusedVariables false
namespace Burst8
open Go Go.G
/-- A sign is right. -/
def SignR (s : Sign) (k w : Nat → Int) : Prop := if s.kind = 0 then 0 ≤ k s.bank.toNat - w s.day.toNat ∧ k s.bank.toNat - w s.day.toNat ≤ 10 else if s.kind = 1 then 0 ≤ k s.bank.toNat - w s.day.toNat ∧ k s.bank.toNat - w s.day.toNat ≤ 5 else 15 ≤ w s.day.toNat
/-- A truth: what banks bear, and how much water there is. -/
structure TrW (B : Bog) (m : Nat) (k w : Nat → Int) : Prop where
  w0 : B.wlo ≤ w 0 ∧ w 0 ≤ B.whi
  b : ∀ i, i < B.banks.length → (B.banks.getD i default).blo - (B.banks.getD i default).chi ≤ k i ∧ k i ≤ (B.banks.getD i default).bhi - (B.banks.getD i default).clo
  r : ∀ d, d < B.rain.length → (B.rain.getD d default).lo - B.drain ≤ w (d + 1) - w d ∧ w (d + 1) - w d ≤ (B.rain.getD d default).hi - B.drain
  s : ∀ j, j < B.signs.length → m.testBit j = true → SignR (B.signs.getD j default) k w
/-- No bank moves up to a day. -/
def Calm (B : Bog) (s : Int) (k w : Nat → Int) : Prop := ∀ i, i < B.banks.length → ∀ d, d ≤ B.rain.length → (d : Int) ≤ s → w d ≤ k i
theorem TrW.kb {B : Bog} (hg : GoodB B) {m : Nat} {k w : Nat → Int} (h : TrW B m k w) {i : Nat} (hi : i < B.banks.length) : -20 ≤ k i ∧ k i ≤ 60 := by
  have h1 := h.b i hi
  obtain ⟨h2, h3⟩ := hg.banks i hi
  omega
theorem TrW.wb {B : Bog} (hg : GoodB B) {m : Nat} {k w : Nat → Int} (h : TrW B m k w) : ∀ d, d ≤ B.rain.length → -40 - 20 * (d : Int) ≤ w d ∧ w d ≤ 40 + 20 * (d : Int)
  | 0, _ => by have := h.w0; have := hg.w; omega
  | d + 1, hd => by
    have ih := TrW.wb hg h d (by omega)
    have h1 := h.r d (by omega)
    have h2 := hg.rain d (by omega)
    have h3 := hg.dr
    unfold RainOk at h2
    omega
theorem TrW.wb' {B : Bog} (hg : GoodB B) {m : Nat} {k w : Nat → Int} (h : TrW B m k w) {d : Nat} (hd : d ≤ B.rain.length) : -140 ≤ w d ∧ w d ≤ 140 := by
  have := h.wb hg d hd
  have := hg.nr
  omega
def yOf (B : Bog) (k w : Nat → Int) (i : Nat) : Int := if i = 0 then 0 else if i < 1 + B.banks.length then k (i - 1) else if 5 ≤ i ∧ i ≤ 5 + B.rain.length then w (i - 5) else 0
theorem yOf_0 (B : Bog) (k w : Nat → Int) : yOf B k w 0 = 0 := rfl
theorem yOf_b {B : Bog} {k w : Nat → Int} {i : Nat} (hi : i < B.banks.length) : yOf B k w (1 + i) = k i := by
  unfold yOf
  rw [if_neg (by omega), if_pos (by omega)]
  congr 1; omega
theorem yOf_w {B : Bog} (hg : GoodB B) {k w : Nat → Int} {d : Nat} (hd : d ≤ B.rain.length) : yOf B k w (5 + d) = w d := by
  have := hg.nb
  unfold yOf
  rw [if_neg (by omega), if_neg (by omega), if_pos (by omega)]
  congr 1; omega
theorem yOf_bd {B : Bog} (hg : GoodB B) {m : Nat} {k w : Nat → Int} (h : TrW B m k w) (i : Nat) : -140 ≤ yOf B k w i ∧ yOf B k w i ≤ 140 := by
  unfold yOf
  split
  · omega
  · split
    · have := h.kb hg (i := i - 1) (by omega); omega
    · split
      · exact h.wb' hg (by omega)
      · omega
theorem tru_way {B : Bog} (hg : GoodB B) {m : Nat} {s : Int} {wi : Bool} {k w : Nat → Int} (h : TrW B m k w) (hw : wi = true → Calm B s k w) : Tru B m s wi (yOf B k w) := by
  refine ⟨fun i _ j _ => ?_, fun x hx => ?_⟩
  · have h1 := yOf_bd hg h i; have h2 := yOf_bd hg h j; omega
  · rcases mem_bounds.1 hx with rfl | ⟨i, hi, rfl⟩ | ⟨d, hd, rfl⟩ | ⟨j, hj, hm, rfl⟩ | ⟨i, hi, d, hd, ⟨hwi, hds⟩, rfl⟩
    · have h1 := h.w0
      have e : yOf B k w 5 = w 0 := yOf_w hg (d := 0) (by omega)
      show B.wlo ≤ yOf B k w 5 - yOf B k w 0 ∧ yOf B k w 5 - yOf B k w 0 ≤ B.whi
      rw [e, yOf_0]; omega
    · have h1 := h.b i hi
      show _ ≤ yOf B k w (1 + i) - yOf B k w 0 ∧ yOf B k w (1 + i) - yOf B k w 0 ≤ _
      rw [yOf_b hi, yOf_0]
      show (B.banks.getD i default).blo - (B.banks.getD i default).chi ≤ _ ∧ _ ≤ (B.banks.getD i default).bhi - (B.banks.getD i default).clo
      omega
    · have h1 := h.r d hd
      have e : yOf B k w (5 + d + 1) = w (d + 1) := yOf_w hg (d := d + 1) (by omega)
      show _ ≤ yOf B k w (5 + d + 1) - yOf B k w (5 + d) ∧ yOf B k w (5 + d + 1) - yOf B k w (5 + d) ≤ _
      rw [e, yOf_w hg (show d ≤ B.rain.length by omega)]
      exact h1
    · have h1 := h.s j hj hm
      obtain ⟨⟨hd1, hd2⟩, hk⟩ := hg.signs j hj
      generalize B.signs.getD j default = sg at *
      have ew : yOf B k w (5 + sg.day.toNat) = w sg.day.toNat := yOf_w hg (by omega)
      have hwb := h.wb' hg (d := sg.day.toNat) (by omega)
      unfold SignR at h1
      unfold Holds signB
      split
      · rename_i h0
        rw [if_pos h0] at h1
        have eb : yOf B k w (1 + sg.bank.toNat) = k sg.bank.toNat := yOf_b (by omega)
        show 0 ≤ yOf B k w (1 + sg.bank.toNat) - yOf B k w (5 + sg.day.toNat) ∧ _ ≤ (10 : Int)
        rw [eb, ew]; exact h1
      · rename_i h0
        rw [if_neg h0] at h1
        split
        · rename_i h2
          rw [if_pos h2] at h1
          have eb : yOf B k w (1 + sg.bank.toNat) = k sg.bank.toNat := yOf_b (by omega)
          show 0 ≤ yOf B k w (1 + sg.bank.toNat) - yOf B k w (5 + sg.day.toNat) ∧ _ ≤ (5 : Int)
          rw [eb, ew]; exact h1
        · rename_i h2
          rw [if_neg h2] at h1
          show 15 ≤ yOf B k w (5 + sg.day.toNat) - yOf B k w 0 ∧ yOf B k w (5 + sg.day.toNat) - yOf B k w 0 ≤ 65536
          rw [ew, yOf_0]; omega
    · have h1 := hw hwi i hi d (by omega) hds
      have h2 := h.kb hg hi
      have h3 := h.wb' hg (d := d) (by omega)
      show 0 ≤ yOf B k w (1 + i) - yOf B k w (5 + d) ∧ yOf B k w (1 + i) - yOf B k w (5 + d) ≤ 65536
      rw [yOf_b hi, yOf_w hg (show d ≤ B.rain.length by omega)]; omega
def kOf (y : Nat → Int) (i : Nat) : Int := y (1 + i) - y 0
def wOf (y : Nat → Int) (d : Nat) : Int := y (5 + d) - y 0
theorem way_tru {B : Bog} (hg : GoodB B) {m : Nat} {s : Int} {wi : Bool} {y : Nat → Int} (h : Tru B m s wi y) : TrW B m (kOf y) (wOf y) := by
  refine ⟨?_, fun i hi => ?_, fun d hd => ?_, fun j hj hm => ?_⟩
  · have h1 := h.2 (bW B) (mem_bounds.2 (.inl rfl)); exact h1
  · have h1 := h.2 (bB B i) (mem_bounds.2 (.inr (.inl ⟨i, hi, rfl⟩))); exact h1
  · have h1 := h.2 (bR B d) (mem_bounds.2 (.inr (.inr (.inl ⟨d, hd, rfl⟩))))
    have h2 : (B.rain.getD d default).lo - B.drain ≤ y (5 + d + 1) - y (5 + d) ∧ y (5 + d + 1) - y (5 + d) ≤ (B.rain.getD d default).hi - B.drain := h1
    show _ ≤ y (5 + d + 1) - y 0 - (y (5 + d) - y 0) ∧ y (5 + d + 1) - y 0 - (y (5 + d) - y 0) ≤ _
    omega
  · have h1 := h.2 (signB (B.signs.getD j default)) (mem_bounds.2 (.inr (.inr (.inr (.inl ⟨j, hj, hm, rfl⟩)))))
    generalize B.signs.getD j default = sg at *
    unfold Holds signB at h1
    unfold SignR kOf wOf
    split
    · rename_i h0
      rw [if_pos h0] at h1
      have h2 : 0 ≤ y (1 + sg.bank.toNat) - y (5 + sg.day.toNat) ∧ y (1 + sg.bank.toNat) - y (5 + sg.day.toNat) ≤ 10 := h1
      omega
    · rename_i h0
      rw [if_neg h0] at h1
      split
      · rename_i h3
        rw [if_pos h3] at h1
        have h2 : 0 ≤ y (1 + sg.bank.toNat) - y (5 + sg.day.toNat) ∧ y (1 + sg.bank.toNat) - y (5 + sg.day.toNat) ≤ 5 := h1
        omega
      · rename_i h3
        rw [if_neg h3] at h1
        have h2 : 15 ≤ y (5 + sg.day.toNat) - y 0 ∧ _ ≤ (65536 : Int) := h1
        exact h2.1
theorem calm_tru {B : Bog} (hg : GoodB B) {m : Nat} {s : Int} {y : Nat → Int} (h : Tru B m s true y) : Calm B s (kOf y) (wOf y) := fun i hi d hd hs => by
  have h1 := h.2 (bV i d) (mem_bounds.2 (.inr (.inr (.inr (.inr ⟨i, hi, d, by omega, ⟨rfl, hs⟩, rfl⟩)))))
  have h2 : 0 ≤ y (1 + i) - y (5 + d) := h1.1
  show y (5 + d) - y 0 ≤ y (1 + i) - y 0
  omega
theorem can_way {B : Bog} (hg : GoodB B) {m : Nat} : canB B m 0 false = true ↔ ∃ k w, TrW B m k w := by
  rw [can_tru hg]
  constructor
  · rintro ⟨y, h⟩; exact ⟨_, _, way_tru hg h⟩
  · rintro ⟨k, w, h⟩; exact ⟨_, tru_way hg h fun h => by cases h⟩
theorem can_calm {B : Bog} (hg : GoodB B) {m : Nat} {s : Int} : canB B m s true = true ↔ ∃ k w, TrW B m k w ∧ Calm B s k w := by
  rw [can_tru hg]
  constructor
  · rintro ⟨y, h⟩; exact ⟨_, _, way_tru hg h, calm_tru hg h⟩
  · rintro ⟨k, w, h, hc⟩; exact ⟨_, tru_way hg h fun _ => hc⟩
/-- Each number of a span is that of a truth. -/
theorem span_tru_mid {B : Bog} (hg : GoodB B) {m : Nat} {s : Int} {w : Bool} (hc : canB B m s w = true) {a b : Nat} (ha : a < 11) (hb : b < 11) {v : Int} (h1 : 0 - tat (knownT B m s w) b a ≤ v) (h2 : v ≤ tat (knownT B m s w) a b) : ∃ y, Tru B m s w y ∧ y a - y b = v := by
  have hcan : Can (tabB B m s w) := by unfold canB at hc; exact of_decide_eq_true hc
  have e1 := sat_hi (tabB_len B m s w) hcan hb
  have e2 := sat_hi (tabB_len B m s w) hcan ha
  refine ⟨fun i => min (tat (knownT B m s w) i b) (v + tat (knownT B m s w) i a), (sat_iff hg).1 fun i hi k hk => ?_, ?_⟩
  · have g1 : tat (knownT B m s w) i b - tat (knownT B m s w) k b ≤ tat (tabB B m s w) i k := e1 i hi k hk
    have g2 : tat (knownT B m s w) i a - tat (knownT B m s w) k a ≤ tat (tabB B m s w) i k := e2 i hi k hk
    show min _ _ - min _ _ ≤ _
    omega
  · have d1 := tabB_diag hg hc ha
    have d2 := tabB_diag hg hc hb
    show min _ _ - min _ _ = v
    omega
section
variable {B : Bog} (hg : GoodB B)
include hg
theorem margin_in {m : Nat} {k w : Nat → Int} (h : TrW B m k w) {i d : Nat} (hi : i < B.banks.length) (hd : d ≤ B.rain.length) : 0 - tat (knownT B m 0 false) (5 + d) (1 + i) ≤ k i - w d ∧ k i - w d ≤ tat (knownT B m 0 false) (1 + i) (5 + d) := by
  have h2 := hg.nr; have h1 := hg.nb
  have := span_tru hg (tru_way hg h (s := 0) (wi := false) fun h => by cases h) (a := 1 + i) (b := 5 + d) (by omega) (by omega)
  rw [yOf_w hg hd, yOf_b hi] at this
  exact this
theorem margin_mid {m : Nat} (hc : canB B m 0 false = true) {i d : Nat} (hi : i < B.banks.length) (hd : d ≤ B.rain.length) {v : Int} (h1 : 0 - tat (knownT B m 0 false) (5 + d) (1 + i) ≤ v) (h2 : v ≤ tat (knownT B m 0 false) (1 + i) (5 + d)) : ∃ k w, TrW B m k w ∧ k i - w d = v := by
  have h3 := hg.nr; have h4 := hg.nb
  obtain ⟨y, hy, e⟩ := span_tru_mid hg hc (a := 1 + i) (b := 5 + d) (by omega) (by omega) h1 h2
  exact ⟨_, _, way_tru hg hy, by show y (1 + i) - y 0 - (y (5 + d) - y 0) = v; omega⟩
theorem known_le {m : Nat} (hc : canB B m 0 false = true) {a b : Nat} (ha : a < 11) (hb : b < 11) : 0 - tat (knownT B m 0 false) b a ≤ tat (knownT B m 0 false) a b := by
  obtain ⟨y, hy⟩ := (can_tru hg).1 hc
  have := span_tru hg hy ha hb
  omega
end
/-- A span is that of the numbers of truths. -/
theorem ends_eq {lo hi lo' hi' : Int} {p : Int → Prop} (h1 : ∀ v, p v → lo ≤ v ∧ v ≤ hi) (h2 : p lo) (h3 : p hi) (g1 : ∀ v, p v → lo' ≤ v ∧ v ≤ hi') (g2 : p lo') (g3 : p hi') : lo = lo' ∧ hi = hi' := by
  have a1 := h1 lo' g2; have a2 := h1 hi' g3; have a3 := g1 lo h2; have a4 := g1 hi h3
  omega
end Burst8


namespace Go.Proofs.Ytoggggnlponfhaa
open Go.G Burst8
attribute [local irreducible] fw fwR fwC emptyT tabOf knownT canB boundsL
theorem span_eqI {a b c d : Int} (h1 : a = c) (h2 : b = d) : (⟨a, b⟩ : Burst8.Span) = ⟨c, d⟩ := by subst h1; subst h2; rfl
section
variable {B X : Bog} (hg : GoodB B) (hx : GoodB X)
include hg hx
end
/-- More is cut at the foot of a bank. -/
def moreK (x : Bank) (n : Int) : Bank := ⟨x.blo, x.bhi, x.clo + n, x.chi + n⟩
def cutB (B : Bog) (b : Nat) (n : Int) : Bog := { B with banks := B.banks.set b (moreK (B.banks.getD b default) n) }
def NoSign (B : Bog) (b : Nat) : Prop := ∀ j, j < B.signs.length → ¬ ((B.signs.getD j default).kind ≠ 2 ∧ (B.signs.getD j default).bank = (b : Int))
def bump (k : Nat → Int) (b : Nat) (n : Int) : Nat → Int := fun i => if i = b then k i + n else k i
section
variable {B : Bog} {b : Nat} {n : Int} (hg : GoodB B) (hb : b < B.banks.length) (hn : NoSign B b)
include hg hb hn
variable (hx : GoodB (cutB B b n))
include hx
variable (hc : canB B (allS B) 0 false = true)
include hc
end
end Go.Proofs.Ytoggggnlponfhaa


namespace Go.G
end Go.G


namespace Go.G
variable {P : Program} {W : World} {n : Nat} {D : List Deferred} {L : Tm} {M : List Res} {R : List Fact} {Q : Exit → Act → World → Prop} {o : Oper}
/-- No panic. -/
def NoP (Q : Exit → Act → World → Prop) : Exit → Act → World → Prop := fun e a w => match e with | .normal => Q .normal a w | _ => False
/-- It waits for those of a list too. -/
def addE (fl : List Nat) (o : Oper) : Oper := { o with after := o.after ++ (fl.map fun i => (⟨i, .phase⟩ : Edge)).toArray }
/-- The tail waits for those of a list. -/
def floatL (fl : List Nat) (m : Nat) (l : List Oper) : List Oper := l.take m ++ (l.drop m).map (addE fl)
section
variable {fl : List Nat} {m : Nat} {l : List Oper}
end
/-- Those that may be drawn late look at the frame alone. -/
def FlOK (P : Program) (n : Nat) (L : Tm) (free : List Oper) (ss : List Spc) : List Nat → Prop
  | [] => True
  | i :: r => (∃ (o : Oper) (v : Value) (d : Nat), free[i]? = some o ∧ ss[i]? = some (Spc.q v) ∧ o.guard = none ∧ o.dst = some d ∧ Nat.blt d n = true ∧ ∀ a, FSat n (detL (free.take i) (ss.take i) L) a → ∀ w, (execOp a.eval o).run P w = .ok (.value v) w) ∧ FlOK P n L free ss r
theorem FlOK.at {free : List Oper} {ss : List Spc} : ∀ {fl : List Nat}, FlOK P n L free ss fl → ∀ i ∈ fl, ∃ (o : Oper) (v : Value) (d : Nat), free[i]? = some o ∧ ss[i]? = some (Spc.q v) ∧ o.guard = none ∧ o.dst = some d ∧ Nat.blt d n = true ∧ ∀ a, FSat n (detL (free.take i) (ss.take i) L) a → ∀ w, (execOp a.eval o).run P w = .ok (.value v) w
  | [], _, _, h => by cases h
  | j :: r, ⟨h1, h2⟩, i, hi => by
    rcases List.mem_cons.1 hi with rfl | hi
    · exact h1
    · exact FlOK.at h2 i hi
/-- The tail waits for all but those of a list. -/
def tailF (fl : List Nat) (ms : List Nat) (m N : Nat) : Bool := (List.range N).all fun t => Nat.blt t m || (List.range t).all fun j => fl.contains j || (ms.getD t 0).testBit j
def freeAt (l : List Oper) (i : Nat) : Bool :=
  match l[i]? with
  | none => false
  | some oi => (List.range l.length).all fun j => j == i || depOn oi j || match l[j]? with
      | some oj => oj.after.any (fun e => Region.binds .any e && e.on == i) || oi.apart l.toArray oj
      | none => true
def freesB (l : List Oper) (fl : List Nat) : Bool := fl.all (freeAt l)
end Go.G


namespace Go.Proofs.Ytoggggnlponfhaa
open Go.G Burst8
set_option maxRecDepth 1000000
attribute [local irreducible] G.ParO G.Fin
attribute [local irreducible] fw fwR fwC emptyT tabOf knownT canB boundsL
variable (B : Bog) (bo ro so : Option Addr) (bc rc sc : Nat) (bb mb : Nat)
attribute [local irreducible] leastN wrN cutB
end Go.Proofs.Ytoggggnlponfhaa


namespace Go.Proofs.Ytoggggnlponfhaa
open Go.G Burst8
attribute [local irreducible] fw fwR fwC emptyT tabOf knownT canB boundsL
/-- The signs of a set, of those before the k-th. -/
def sgnTo (B : Bog) (m : Nat) : Nat → List Sign
  | 0 => []
  | k + 1 => sgnTo B m k ++ if m.testBit k = true then [B.signs.getD k default] else []
theorem getD_mem {α : Type} {l : List α} {i : Nat} {d : α} (h : i < l.length) : l.getD i d ∈ l := by
  rw [List.getD_eq_getElem?_getD, List.getElem?_eq_getElem h]
  exact List.getElem_mem h
theorem mem_getD {α : Type} {l : List α} {x d : α} (h : x ∈ l) : ∃ i, i < l.length ∧ l.getD i d = x := by
  obtain ⟨i, hi, e⟩ := List.mem_iff_getElem.1 h
  exact ⟨i, hi, by rw [List.getD_eq_getElem?_getD, List.getElem?_eq_getElem hi]; exact e⟩
def takeB (B : Bog) (m : Nat) : Bog := ⟨B.banks, B.wlo, B.whi, B.rain, B.drain, sgnTo B m B.signs.length⟩
section
variable {B : Bog} (hg : GoodB B) (m : Nat)
include hg
end
/-- Without signs there is a truth. -/
def wLo (B : Bog) : Nat → Int
  | 0 => B.wlo
  | d + 1 => wLo B d + ((B.rain.getD d default).lo - B.drain)
theorem leastU_spec (f : Nat → Nat) (l : List Nat) : ∀ n, 0 < n → n ≤ l.length → ∃ i, i < n ∧ leastU f l n = (l.getD i default, f (l.getD i default)) ∧ (∀ j, j < n → f (l.getD i default) ≤ f (l.getD j default)) ∧ ∀ j, j < i → f (l.getD i default) < f (l.getD j default)
  | 0, h, _ => absurd h (by omega)
  | k + 1, _, hk => by
    by_cases h0 : k = 0
    · subst h0
      refine ⟨0, by omega, leastU_y (Or.inl rfl), fun j hj => ?_, fun j hj => absurd hj (by omega)⟩
      have : j = 0 := by omega
      subst this; exact Nat.le_refl _
    · obtain ⟨i, h1, h2, h3, h4⟩ := leastU_spec f l k (by omega) (by omega)
      by_cases hf : f (l.getD k default) < (leastU f l k).2
      · refine ⟨k, by omega, leastU_y (Or.inr hf), fun j hj => ?_, fun j hj => ?_⟩
        · rw [h2] at hf
          by_cases e : j = k
          · subst e; exact Nat.le_refl _
          · have := h3 j (by omega); dsimp only at hf; omega
        · rw [h2] at hf
          have := h3 j hj; dsimp only at hf; omega
      · refine ⟨i, by omega, by rw [leastU_n (by rintro (h | h) <;> contradiction)]; exact h2, fun j hj => ?_, h4⟩
        rw [h2] at hf
        by_cases e : j = k
        · subst e; dsimp only at hf; omega
        · exact h3 j (by omega)
theorem mem_clash {B : Bog} {m : Nat} : ∀ {n : Nat}, m ∈ clashTo B n ↔ m < n ∧ canB B m 0 false = false
  | 0 => by simp [clashTo]
  | n + 1 => by
    unfold clashTo
    rw [List.mem_append, mem_clash (n := n)]
    constructor
    · rintro (⟨h1, h2⟩ | h)
      · exact ⟨by omega, h2⟩
      · split at h
        · have : m = n := by simpa using h
          subst this
          exact ⟨by omega, by rename_i hh; simpa using hh⟩
        · cases h
    · rintro ⟨h1, h2⟩
      by_cases e : m = n
      · subst e; right; rw [if_pos (by rw [h2]; rfl)]; simp
      · exact .inl ⟨by omega, h2⟩
theorem clash_sorted (B : Bog) : ∀ n, (clashTo B n).Pairwise (· < ·)
  | 0 => List.Pairwise.nil
  | n + 1 => by
    unfold clashTo
    refine List.pairwise_append.2 ⟨clash_sorted B n, ?_, fun a ha b hb => ?_⟩
    · split <;> simp
    · split at hb
      · have : b = n := by simpa using hb
        subst this
        exact (mem_clash.1 ha).1
      · cases hb
/-- The set that is returned. -/
def setB (B : Bog) : Nat := (leastU pop (clashL B) (clashL B).length).1
theorem set_spec {B : Bog} (hc : canB B (allS B) 0 false = false) : setB B < 2 ^ B.signs.length ∧ canB B (setB B) 0 false = false ∧ ∀ m, m < 2 ^ B.signs.length → canB B m 0 false = false → pop (setB B) ≤ pop m ∧ (pop m = pop (setB B) → setB B ≤ m) := by
  have hm : allS B ∈ clashL B := mem_clash.2 ⟨by unfold allS; have := Nat.one_le_two_pow (n := B.signs.length); omega, hc⟩
  have hl : 0 < (clashL B).length := List.length_pos_of_mem hm
  obtain ⟨i, h1, h2, h3, h4⟩ := leastU_spec pop (clashL B) _ hl (Nat.le_refl _)
  have he : setB B = (clashL B).getD i default := by unfold setB; rw [h2]
  have hi := mem_clash.1 (getD_mem (d := default) h1)
  rw [he]
  refine ⟨hi.1, hi.2, fun m hm1 hm2 => ?_⟩
  obtain ⟨j, hj, e⟩ := mem_getD (d := default) (mem_clash.2 ⟨hm1, hm2⟩ : m ∈ clashL B)
  rw [← e]
  refine ⟨h3 j hj, fun hp => ?_⟩
  rcases Nat.lt_trichotomy i j with h | h | h
  · have := List.pairwise_iff_getElem.1 (clash_sorted B (2 ^ B.signs.length)) i j h1 hj h
    rw [List.getD_eq_getElem?_getD, List.getD_eq_getElem?_getD, List.getElem?_eq_getElem h1, List.getElem?_eq_getElem hj]
    exact Nat.le_of_lt this
  · subst h; exact Nat.le_refl _
  · exact absurd hp (Nat.ne_of_gt (h4 j h))
/-- How many there are in a set, as the reference counts. -/
def cntT (m : Nat) : Nat → Nat
  | 0 => 0
  | i + 1 => cntT m i + (m / 2 ^ i) % 2
theorem cnt_pop : ∀ m, m < 64 → ∀ i, i < 7 → m / 2 ^ i = 0 → cntT m i = pop m := by decide +kernel
theorem clashB_set {B : Bog} (hg : GoodB B) (hc : canB B (allS B) 0 false = false) : clashB B = (((setB B : Nat) : Int), 0) := by
  unfold clashB
  rw [if_pos hg, if_neg (by rw [hc]; decide)]; rfl
theorem clashB_none {B : Bog} (hg : GoodB B) (hc : canB B (allS B) 0 false = true) : clashB B = (0, 4) := by
  unfold clashB
  rw [if_pos hg, if_pos hc]
end Go.Proofs.Ytoggggnlponfhaa
namespace Go.G
variable {P : Program} {W : World} {n : Nat} {D : List Deferred} {L : Tm} {M : List Res} {R : List Fact} {Q : Exit → Act → World → Prop} {o : Oper}
end Go.G


namespace Go.Proofs.Ytoggggnlponfhaa
open Go.G Burst8
set_option maxRecDepth 1000000
attribute [local irreducible] G.ParO G.Fin
attribute [local irreducible] fw fwR fwC emptyT tabOf knownT canB boundsL
theorem div_zero {m : Nat} (h : ¬ ((m : Nat) : Int) > 0) : m = 0 := Nat.eq_zero_of_not_pos fun h2 => h (Int.natCast_pos.2 h2)
theorem cnt_s (m i : Nat) : cntT m (i + 1) = cntT m i + (m / 2 ^ i) % 2 := rfl
theorem cnt_le (m : Nat) : ∀ i, cntT m i ≤ i
  | 0 => Nat.le_refl _
  | i + 1 => by rw [cnt_s]; have := cnt_le m i; omega
theorem tdiv_nat2 {a b : Nat} (h : a / 2 = b) : Value.int .i64 ((a : Int).tdiv 2) = i64 (b : Int) := by
  subst h
  rw [Int.tdiv_eq_ediv_of_nonneg (by omega)]
  congr 1
theorem pop_lt : ∀ m, m < 64 → pop m < 1000 := by decide +kernel
theorem pow_s {m i : Nat} : m / 2 ^ i / 2 = m / 2 ^ (i + 1) := by rw [Nat.div_div_eq_div_mul, Nat.pow_succ]
variable (B : Bog) (bo ro so : Option Addr) (bc rc sc : Nat) (bb mb : Nat)
attribute [local irreducible] leastU setB pop
set_option maxHeartbeats 4000000 in
theorem Size_v (m : Nat) (hm : m < 64) : FnV Try.prog 40 [i64 m] [] (i64 (pop m)) := by
  refine FnV.intro Try.call40 Try.func40 rfl Try.ntmps40 rfl ?_
  intro W M Rf
  refine r_seq ?_
  refine r_region ?_
  refine o_q _ rfl rfl rfl (v_assign rfl rfl) ?_
  refine o_nil ?_
  with_reducible refine r_then ?_
  refine r_seq ?_
  refine r_region ?_
  refine o_q _ rfl rfl rfl (v_assign rfl rfl) ?_
  refine o_nil ?_
  with_reducible refine r_then ?_
  refine r_seq ?_
  refine r_block ?_
  refine r_loop (ι := Nat) (fun i => i ≤ 6) (fun i => [(0, i64 ((m / 2 ^ i : Nat) : Int)), (3, i64 (cntT m i : Nat))]) (fun i => M) (fun i => [] ++ Rf) (fun i => 6 - i) 0 ?_ ?_ ?_
  ·
    exact r_here (by repeat (first | exact FSub.nil | refine FSub.cons rfl ?_ | refine FSub.cons2 rfl (congrArg (Value.int .i64) (by rw [Nat.pow_zero, Nat.div_one])) ?_)) SelMC.sel SubRC.sub
  ·
    omega
  ·
    rintro i hI0
    have hc6 : i = 6 → m / 2 ^ i = 0 := fun e => by subst e; exact Nat.div_eq_of_lt (by omega)
    have hle := cnt_le m i
    have hdl : m / 2 ^ i ≤ m := Nat.div_le_self _ _
    refine r_seq ?_
    refine r_seq ?_
    refine r_region ?_
    refine o_q _ rfl rfl rfl (v_move rfl rfl) ?_
    refine o_q _ rfl rfl rfl (v_gtr rfl rfl rfl) ?_
    refine o_nil ?_
    with_reducible refine r_then ?_
    refine r_condd rfl (fun hc5 => ?_) (fun hc5 => ?_)
    ·
      refine r_skip ?_
      with_reducible refine r_then ?_
      refine r_block ?_
      refine r_region ?_
      refine o_q _ rfl rfl rfl (v_move rfl rfl) ?_
      refine o_q _ rfl rfl rfl (v_move rfl rfl) ?_
      refine o_q _ rfl rfl rfl (v_cast (v := i64 ((m / 2 ^ i % 2 : Nat) : Int)) (v_rem rfl rfl rfl (by omega)) (tmodE (b := 2) rfl rfl)) ?_
      refine o_q _ rfl rfl rfl (v_cast (v := i64 (cntT m (i + 1) : Nat)) (v_add rfl rfl rfl (by omega)) (congrArg (Value.int .i64) (by rw [cnt_s]; omega))) ?_
      refine o_q _ rfl rfl rfl (v_move rfl rfl) ?_
      refine o_q _ rfl rfl rfl (v_cast (v := i64 ((m / 2 ^ (i + 1) : Nat) : Int)) (v_quo rfl rfl rfl (by omega) (by rw [Int.tdiv_eq_ediv_of_nonneg (by omega)]; omega)) (tdiv_nat2 pow_s)) ?_
      refine o_q _ rfl rfl rfl (v_assign rfl rfl) ?_
      refine o_q _ rfl rfl rfl (v_assign rfl rfl) ?_
      refine o_nil ?_
      with_reducible refine r_in_normal ?_; refine r_then ?_
      refine r_next (i + 1) ?_ ?_ ?_
      ·
        exact r_here (by repeat (first | exact FSub.nil | refine FSub.cons rfl ?_)) SelMC.sel SubRC.sub
      ·
        omega
      ·
        omega
    ·
      refine r_exit ?_
      with_reducible refine r_then_exit ?_; refine r_then_exit ?_; refine r_in_here ?_; refine r_then ?_
      refine r_seq ?_
      refine r_region ?_
      refine o_q _ rfl rfl rfl (v_move rfl rfl) ?_
      refine o_q _ rfl rfl rfl (v_assign rfl rfl) ?_
      refine o_nil ?_
      with_reducible refine r_then ?_
      refine r_ret ?_
      exact r_retv2 (Rd.tmp rfl rfl) (congrArg (Value.int .i64) (congrArg Nat.cast (cnt_pop m hm i (by omega) (div_zero (by assumption))))) SelMC.sel SubRC.sub
end Go.Proofs.Ytoggggnlponfhaa


namespace Go.Proofs.Ytoggggnlponfhaa
open Go.G Burst8
attribute [local irreducible] fw fwR fwC emptyT tabOf knownT canB boundsL
def U16l (bys : List Int) : Prop := ∀ y, y ∈ bys → 0 ≤ y ∧ y ≤ 65535
def drawP (bys : List Int) (k : Nat) (s : Burst8.Span) : Int :=
  if (bys.length : Int) = 0 then s.lo else s.lo + (bys.getD (k % bys.length) 0 + 73 * k).tmod (s.hi - s.lo + 1)
/-- What is drawn lies in the span. -/
def InF (f : Nat → Burst8.Span → Int) : Prop := ∀ k s, s.lo ≤ s.hi → s.lo ≤ f k s ∧ f k s ≤ s.hi
section
variable (B : Bog) (f : Nat → Burst8.Span → Int)
def bearF (i : Nat) : Int := f (2 * i + 1) ⟨(B.banks.getD i default).blo, (B.banks.getD i default).bhi⟩ - f (2 * i + 2) ⟨(B.banks.getD i default).clo, (B.banks.getD i default).chi⟩
def bearL (k : Nat) : List Int := (List.range k).map (bearF B f)
def watF : Nat → Int
  | 0 => f (2 * B.banks.length + 1) ⟨B.wlo, B.whi⟩
  | d + 1 => watF d + (f (2 * B.banks.length + 1 + (d + 1)) (B.rain.getD d default) - B.drain)
def watL (k : Nat) : List Int := (List.range (k + 1)).map (watF B f)
instance (s : Sign) (k w : Nat → Int) : Decidable (SignR s k w) := by unfold SignR; infer_instance
/-- The right signs, of those before the k-th. -/
def rightTo : Nat → List Sign
  | 0 => []
  | k + 1 => rightTo k ++ if SignR (B.signs.getD k default) (bearF B f) (watF B f) then [B.signs.getD k default] else []
def trulyB : Bog := ⟨B.banks, B.wlo, B.whi, B.rain, B.drain, rightTo B f B.signs.length⟩
end
section
variable {B : Bog} {f : Nat → Burst8.Span → Int}
variable (hg : GoodB B)
include hg
variable (hf : InF f)
include hf
end
/-- No bank has moved: on the days before the d-th, and of the first i banks on it. -/
def calmI (n : Nat) (k w : Nat → Int) (d i : Nat) : Prop := (∀ j, j < d → ∀ i', i' < n → w j ≤ k i') ∧ ∀ i', i' < i → w d ≤ k i'
instance (n : Nat) (k w : Nat → Int) (d i : Nat) : Decidable (calmI n k w d i) := by unfold calmI; infer_instance
def calmF (n : Nat) (k w : Nat → Int) (d i : Nat) : Int := if calmI n k w d i then 1 else 0
section
variable {X : Bog} (hx : GoodB X) {k w : Nat → Int} (h : TrW X (allS X) k w)
include hx h
end
end Go.Proofs.Ytoggggnlponfhaa


namespace Go.G
open Go.ChangeShapes Go.RowKit Go.Deep
section
variable {H : Type} {en : TypeId × Value → H} {P : Program} {w : World} {base : Nat} {sp : Nat → Bool} {held : Bool}
theorem mapM_at {α β : Type} {f : α → Option β} : ∀ {l : List α} {r : List β}, l.mapM f = some r → r.length = l.length ∧ ∀ (j : Nat) (x : α), l[j]? = some x → f x = r[j]?
  | [], r, h => by
    simp at h; subst h; simp
  | a :: l, r, h => by
    rw [List.mapM_cons] at h
    simp only [bind, Option.bind_eq_some_iff, pure, Option.some.injEq] at h
    obtain ⟨b, hb, bs, hbs, rfl⟩ := h
    obtain ⟨h1, h2⟩ := mapM_at hbs
    refine ⟨by simp [h1], fun j x hj => ?_⟩
    cases j with
    | zero => simp at hj; subst hj; simpa using hb
    | succ j => simpa using h2 j x (by simpa using hj)
theorem cells_at {a : Addr} {n : Nat} {cs : List Value} (h : w.cells? base a n = some cs) : cs.length = n ∧ ∀ j, j < n → w.cell? (a.add j) = cs[j]? := by
  unfold World.cells? at h
  split at h
  · obtain ⟨h1, h2⟩ := mapM_at h
    exact ⟨by simpa using h1, fun j hj => h2 j j (by simp [hj])⟩
  · cases h
/-- A slice of things of one kind is a row that is known. -/
theorem open_rowD {α : Type} [Inhabited α] {enc : α → List Value} {sz : Nat} (ok : α → Prop) {t e : TypeId} {fuel : Nat} {cs : List Value} {x : DataW H × List MemPlace} (ht : P.underlying t = some (.slice e)) (hc : P.cellsOf e = sz) (hpos : 0 < sz)
    (hel : ∀ fuel cs x, DataW.trod en P w base sp held fuel e cs = some x → ∃ y : α, cs = enc y ∧ ok y) (h : DataW.trod en P w base sp held fuel t cs = some x) :
    ∃ (oa : Option Addr) (cap : Nat) (xs : List α), cs = [.slice oa xs.length cap] ∧ rowD oa sz enc xs (full w) ∧ (∀ y ∈ xs, ok y) ∧ xs.length ≤ maxLen := by
  rcases open_slice ht h with ⟨rfl, _⟩ | ⟨a, len, cap, m, n, D, Pl, rfl, _, hlc, hcm, hm, _, hall⟩
  · exact ⟨none, 0, [], rfl, .inl rfl, by simp, Nat.zero_le _⟩
  · have hle : len ≤ m := by rw [hm]; split <;> omega
    have hch : ∀ i, i < len → ∃ y : α, w.cells? base (a.add (i * sz)) sz = some (enc y) ∧ ok y := by
      intro i hi
      obtain ⟨cs', h1, h2⟩ := hall i (by omega)
      obtain ⟨y, rfl, hy⟩ := hel _ _ _ h2
      rw [hc] at h1
      exact ⟨y, h1, hy⟩
    obtain ⟨f, hf⟩ := choose_lt hch
    refine ⟨some a, cap, (List.range len).map f, by simp, ?_, ?_, by simp; omega⟩
    · by_cases h0 : len = 0
      · subst h0; exact .inl rfl
      · obtain ⟨c1, c2⟩ := cells_at (hf 0 (by omega)).1
        have hz := c2 0 hpos
        have hsome : ∃ v, w.cell? ((a.add (0 * sz)).add 0) = some v := ⟨(enc (f 0))[0]'(by omega), by rw [hz]; simp [show 0 < (enc (f 0)).length from by omega]⟩
        obtain ⟨v, hv⟩ := hsome
        have ha0 : (a.add (0 * sz)).add 0 = a := by simp [Addr.add]
        rw [ha0] at hv
        unfold World.cell? at hv
        split at hv
        · rename_i C T fr hb
          split at hv
          · cases hv
          · rename_i hs
            obtain ⟨b, off, spot⟩ := a
            have hsp : spot = none := by cases spot <;> simp_all
            subst hsp
            refine .inr ⟨b, off, C, T, fr, rfl, hb, fun i j hi hj => ?_⟩
            have hi' : i < len := by simpa using hi
            obtain ⟨_, d2⟩ := cells_at (hf i hi').1
            have := d2 j hj
            rw [add_at, add_at] at this
            rw [cell_of_row w b _ C T fr hb] at this
            rw [this]
            simp
        · cases hv
    · intro y hy
      obtain ⟨i, hi, rfl⟩ := List.mem_map.1 hy
      exact (hf i (by simpa using hi)).2
theorem open_i {t : TypeId} {k : IntKind} {fuel : Nat} {cs : List Value} {x : DataW H × List MemPlace} (ht : P.underlying t = some (.int k)) (h : DataW.trod en P w base sp held fuel t cs = some x) : ∃ n, cs = [.int k n] ∧ (Lit.int k n).wf = true := by
  obtain ⟨n, h1, _, h2⟩ := DataW.trod_int ht h
  exact ⟨n, h1, h2⟩
/-- A struct's field. -/
theorem open_field {t : TypeId} {fs : Array Field} {fuel : Nat} {cs : List Value} {x : DataW H × List MemPlace} (ht : P.underlying t = some (.struct fs)) (h : DataW.trod en P w base sp held fuel t cs = some x) (i : Nat) {f : Field} (hf : fs[i]? = some f) {n : Nat} (hn : P.cellsOf f.type = n) :
    ∃ fuel' y, DataW.trod en P w base sp held fuel' f.type ((cs.drop f.offset).take n) = some y := by
  obtain ⟨xs, m, _, _, _, hl, hall⟩ := DataW.trod_struct ht h
  have hi : i < xs.length := by rw [hl]; exact (Array.getElem?_eq_some_iff.1 hf).1
  have := hall i f hf
  rw [hn, List.getElem?_eq_getElem hi] at this
  exact ⟨m, _, this⟩
theorem open_len {t : TypeId} {fs : Array Field} {fuel : Nat} {cs : List Value} {x : DataW H × List MemPlace} (ht : P.underlying t = some (.struct fs)) (h : DataW.trod en P w base sp held fuel t cs = some x) : cs.length = P.cellsOf t := (DataW.trod_struct ht h).choose_spec.choose_spec.2.2.1
end

/-! ### what stands before is kept -/
def keepF (W : World) : Fact := fun V => ∀ b o, W.heap[b]? = some o → V b = some o
theorem vw_nil (w : World) : vw [] w = full w := by funext b; simp [vw, full]
theorem St.start (W : World) {R : List Fact} (h : ∀ φ ∈ R, Mono φ ∧ φ (full W)) : St W [] R W := by
  refine ⟨rfl, rfl, rfl, [], rfl, ⟨by simp [keys], by simp⟩, fun φ hφ => ?_⟩
  obtain ⟨hm, hv⟩ := h φ hφ
  rw [vw_nil]
  exact fun V' hl => hm _ _ hv hl
theorem Mono.keep (W : World) : Mono (keepF W) := fun _ _ h hl b o ho => hl _ _ (h b o ho)
theorem keepF_self (W : World) : keepF W (full W) := fun _ _ h => h
theorem below_of {W w' : World} {M : List Res} {R : List Fact} (h : St W M (R ++ [keepF W]) w') : Below W.heap.size W w' := by
  have hk : keepF W (full w') := h.fact (List.mem_append_right _ (by simp))
  have hb : ∀ k, k < W.heap.size → w'.heap[k]? = W.heap[k]? := fun k hk' => by
    have e : W.heap[k]? = some W.heap[k] := by simp [hk']
    rw [e]; exact hk k _ e
  refine ⟨h.os, h.tape, h.output, ?_, hb⟩
  rcases Nat.eq_zero_or_pos W.heap.size with h0 | h0
  · omega
  · have := hb (W.heap.size - 1) (by omega)
    rw [show W.heap[W.heap.size - 1]? = some W.heap[W.heap.size - 1] from by simp [h0]] at this
    have := (Array.getElem?_eq_some_iff.1 this).1
    omega
/-- The call of what a contract speaks of. -/
theorem FnV.law {P : Program} {k : FuncId} {args : List Value} {R : List Fact} {v : Value} (h : FnV P k args R v) (W : World) (hR : ∀ φ ∈ R, Mono φ ∧ φ (full W)) : Calls P k args.toArray W fun e w' => e = .returned v ∧ Below W.heap.size W w' := by
  have hs : St W [] (R ++ [keepF W]) W := St.start W (fun φ hφ => by
    rcases List.mem_append.1 hφ with h1 | h1
    · exact hR φ h1
    · have : φ = keepF W := by simpa using h1
      subst this
      exact ⟨Mono.keep W, keepF_self W⟩)
  exact (h.calls W [] [keepF W] W hs).mono fun e w' ⟨he, hw⟩ => ⟨he, below_of hw⟩

/-! ### a law's end -/
section
variable {H : Type} {en : TypeId × Value → H} {P : Program}
theorem trodAll_stays (hl : laidOutB P = true) {W W' : World} (hb : Below W.heap.size W W') : ∀ {ts : List TypeId} {vs : List Value} {ds : List (DataW H)} {ps : List MemPlace}, (ts.all fun t => P.readableRec t && Nat.blt t P.types.size) = true →
    DataW.TrodAll en P W 0 (fun _ => true) true ts vs ds ps → (∀ p ∈ ps, p.block < W.heap.size) → ∀ sp : Nat → Bool, (∀ p ∈ ps, sp p.block = true) → DataW.TrodAll en P W' 0 sp true ts vs ds ps
  | [], vs, ds, ps, _, h, _, sp, _ => by
    obtain ⟨rfl, rfl, rfl⟩ := trodAll_nil h
    exact rfl
  | t :: ts, vs, ds, ps, ht, h, hp, sp, hsp => by
    obtain ⟨v, vs', d, ds', p, q, rfl, rfl, rfl, h1, h2⟩ := trodAll_cons h
    simp only [List.all_cons, Bool.and_eq_true] at ht
    refine ⟨p, q, ?_, trodAll_stays hl hb ht.2 h2 (fun x hx => hp x (List.mem_append_right _ hx)) sp (fun x hx => hsp x (List.mem_append_right _ hx)), rfl⟩
    exact WideElems.Trod_stays hl ht.1.1 (by simpa using ht.1.2) h1 (fun x hx => hb.same (hp x (List.mem_append_left _ hx))) (fun x hx => hsp x (List.mem_append_left _ hx))
theorem post_of_below {f : Func} {s : ChangeSpec} {W W' : World} {args : Array Value} {ds gs : List (DataW H)} {before : List MemPlace} {tb : TypeId}
    (hW : DataW.Whole en P f.params.toList s.vars false W args.toList ds gs before) (hv : s.vars = []) (hl : laidOutB P = true) (hts : (f.params.toList.all fun t => P.readableRec t && Nat.blt t P.types.size) = true)
    (hr : f.resultTypes = #[tb]) (hb : P.underlying tb = some .bool) (hs : s.fn H ds = { results := [.lit (.bool true)], args := ds, vars := [] }) (hbl : Below W.heap.size W W') : s.post en P f false true false false W args (.bool true) W' := by
  have hW0 := hW
  obtain ⟨p, q, hA, hV, hpq, hz, hn⟩ := hW
  rw [hv] at hV
  obtain ⟨rfl, rfl⟩ := trodVars_none hV
  have hbe : before = p := by simpa using hpq
  subst hbe
  have hlt : ∀ x ∈ before, x.block < W.heap.size := hW0.lt
  have hargs : ∀ sp : Nat → Bool, (∀ x ∈ before, sp x.block = true) → DataW.TrodAll en P W' 0 sp true f.params.toList args.toList ds before := fun sp hsp => trodAll_stays hl hbl hts hA hlt sp hsp
  have hres : ∀ (b : Nat) (sp : Nat → Bool) (hd : Bool), DataW.TrodAll en P W' b sp hd f.resultTypes.toList ((Value.bool true).resultList f.resultTypes.size) [.lit (.bool true)] [] := by
    intro b sp hd
    rw [hr]
    exact trodAll_mk1 (shut_bool hb true)
  have hs' : s.fn H (ds ++ []) = { results := [.lit (.bool true)], args := ds, vars := [] } := by rw [List.append_nil]; exact hs
  have hold : ∀ x ∈ before, (fun b => decide (b < W.heap.size)) x.block = true := fun x hx => by simpa using hlt x hx
  have hargs' : ∀ sp : Nat → Bool, (∀ x ∈ before, sp x.block = true) → DataW.TrodAll en P W' 0 sp true f.params.toList args.toList (s.fn H (ds ++ [])).args before := by rw [hs']; exact hargs
  have hres' : ∀ (b : Nat) (sp : Nat → Bool) (hd : Bool), DataW.TrodAll en P W' b sp hd f.resultTypes.toList ((Value.bool true).resultList f.resultTypes.size) (s.fn H (ds ++ [])).results [] := by rw [hs']; exact hres
  have hvars' : ∀ sp : Nat → Bool, DataW.TrodVars en P W' sp s.vars (s.fn H (ds ++ [])).vars [] := by intro sp; rw [hs', hv]; rfl
  refine ⟨ds, [], before, [], before, [], hW0, hres' _ _ _, hargs' _ hold, hvars' _, hbl.frame _, fun _ => ?_⟩
  refine ⟨ok_one hr rfl (okWide_bool_mk hb true), _, _, ([] ++ before) ++ [], ⟨[] ++ before, [], trodAll_append (hargs' _ (fun _ _ => rfl)) (hres' _ _ _), hvars' _, rfl, ?_, ?_⟩, ?_⟩
  · intro b off hp
    rw [hbl.frozen (hlt _ (by simpa using hp))]
    exact hz b off (by simpa using hp)
  · intro ha; cases ha
  · intro x hx _
    simpa using hx
end
end Go.G


namespace Go.Proofs.Ytoggggnlponfhaa
open Go.G Burst8
def encH (n : Int) : List Value := [.int .u16 n]
def U16s (l : List Int) : Prop := ∀ y, y ∈ l → 0 ≤ y ∧ y ≤ 65535
set_option maxRecDepth 1000000
section
variable {H : Type} {en : TypeId × Value → H} {w : World} {base : Nat} {sp : Nat → Bool} {held : Bool} {fuel : Nat} {cs : List Value} {x : DataW H × List MemPlace}
theorem cells22 : Try.prog.cellsOf 22 = 1 := by kernel_rfl
theorem cells24 : Try.prog.cellsOf 24 = 2 := by kernel_rfl
theorem cells25 : Try.prog.cellsOf 25 = 1 := by kernel_rfl
theorem cells26 : Try.prog.cellsOf 26 = 1 := by kernel_rfl
theorem cells28 : Try.prog.cellsOf 28 = 6 := by kernel_rfl
theorem cells55 : Try.prog.cellsOf 55 = 3 := by kernel_rfl
theorem cells58 : Try.prog.cellsOf 58 = 4 := by kernel_rfl
theorem cellsI : Try.prog.cellsOf 3 = 1 := by kernel_rfl
theorem open3 (h : DataW.trod en Try.prog w base sp held fuel 3 cs = some x) : ∃ n, cs = [i64 n] ∧ (-9223372036854775808 ≤ n ∧ n ≤ 9223372036854775807) := by
  obtain ⟨n, h1, h2⟩ := open_i Try.underlying3 h
  refine ⟨n, h1, ?_⟩
  have m1 : IntKind.i64.min = -9223372036854775808 := rfl
  have m2 : IntKind.i64.max = 9223372036854775807 := rfl
  simp only [Lit.wf, m1, m2, Bool.and_eq_true, decide_eq_true_eq] at h2
  exact h2
theorem list2 {cs : List Value} (h : cs.length = 2) : ∃ a b, cs = [a, b] := by
  match cs, h with
  | [a, b], _ => exact ⟨a, b, rfl⟩
theorem list3 {cs : List Value} (h : cs.length = 3) : ∃ a b c, cs = [a, b, c] := by
  match cs, h with
  | [a, b, c], _ => exact ⟨a, b, c, rfl⟩
theorem list4 {cs : List Value} (h : cs.length = 4) : ∃ a b c d, cs = [a, b, c, d] := by
  match cs, h with
  | [a, b, c, d], _ => exact ⟨a, b, c, d, rfl⟩
theorem list6 {cs : List Value} (h : cs.length = 6) : ∃ a b c d e f, cs = [a, b, c, d, e, f] := by
  match cs, h with
  | [a, b, c, d, e, f], _ => exact ⟨a, b, c, d, e, f, rfl⟩
theorem open24 (h : DataW.trod en Try.prog w base sp held fuel 24 cs = some x) : ∃ s : Burst8.Span, cs = encS s ∧ True := by
  obtain ⟨a, b, rfl⟩ := list2 ((open_len Try.underlying24 h).trans cells24)
  obtain ⟨_, _, h0⟩ := open_field Try.underlying24 h 0 rfl cellsI
  obtain ⟨_, _, h1⟩ := open_field Try.underlying24 h 1 rfl cellsI
  obtain ⟨n, e0, _⟩ := open3 h0
  obtain ⟨m, e1, _⟩ := open3 h1
  have e0' : [a] = [i64 n] := e0
  have e1' : [b] = [i64 m] := e1
  cases e0'; cases e1'
  exact ⟨⟨n, m⟩, rfl, trivial⟩
theorem open58 (h : DataW.trod en Try.prog w base sp held fuel 58 cs = some x) : ∃ s : Burst8.Bank, cs = encB s ∧ True := by
  obtain ⟨a, b, c, d, rfl⟩ := list4 ((open_len Try.underlying58 h).trans cells58)
  obtain ⟨_, _, h0⟩ := open_field Try.underlying58 h 0 rfl cells24
  obtain ⟨_, _, h1⟩ := open_field Try.underlying58 h 1 rfl cells24
  obtain ⟨s, e0, _⟩ := open24 h0
  obtain ⟨t, e1, _⟩ := open24 h1
  have e0' : [a, b] = [i64 s.lo, i64 s.hi] := e0
  have e1' : [c, d] = [i64 t.lo, i64 t.hi] := e1
  cases e0'; cases e1'
  exact ⟨⟨s.lo, s.hi, t.lo, t.hi⟩, rfl, trivial⟩
theorem open55 (h : DataW.trod en Try.prog w base sp held fuel 55 cs = some x) : ∃ s : Burst8.Sign, cs = encG s ∧ True := by
  obtain ⟨a, b, c, rfl⟩ := list3 ((open_len Try.underlying55 h).trans cells55)
  obtain ⟨_, _, h0⟩ := open_field Try.underlying55 h 0 rfl cellsI
  obtain ⟨_, _, h1⟩ := open_field Try.underlying55 h 1 rfl cellsI
  obtain ⟨_, _, h2⟩ := open_field Try.underlying55 h 2 rfl cellsI
  obtain ⟨n, e0, _⟩ := open3 h0
  obtain ⟨m, e1, _⟩ := open3 h1
  obtain ⟨k, e2, _⟩ := open3 h2
  have e0' : [a] = [i64 n] := e0
  have e1' : [b] = [i64 m] := e1
  have e2' : [c] = [i64 k] := e2
  cases e0'; cases e1'; cases e2'
  exact ⟨⟨n, m, k⟩, rfl, trivial⟩
theorem open28 (h : DataW.trod en Try.prog w base sp held fuel 28 cs = some x) : ∃ B bo ro so bc rc sc, cs = cellsB B bo ro so bc rc sc ∧ rowD bo 4 encB B.banks (full w) ∧ rowD ro 2 encS B.rain (full w) ∧ rowD so 3 encG B.signs (full w) := by
  obtain ⟨a, b, c, d, e, f, rfl⟩ := list6 ((open_len Try.underlying28 h).trans cells28)
  obtain ⟨_, _, h0⟩ := open_field Try.underlying28 h 0 rfl cells22
  obtain ⟨_, _, h1⟩ := open_field Try.underlying28 h 1 rfl cells24
  obtain ⟨_, _, h2⟩ := open_field Try.underlying28 h 2 rfl cells25
  obtain ⟨_, _, h3⟩ := open_field Try.underlying28 h 3 rfl cellsI
  obtain ⟨_, _, h4⟩ := open_field Try.underlying28 h 4 rfl cells26
  obtain ⟨bo, bc, banks, e0, r0, _, _⟩ := open_rowD (fun _ : Burst8.Bank => True) Try.underlying22 cells58 (by omega) (fun _ _ _ h => open58 h) h0
  obtain ⟨wa, e1, _⟩ := open24 h1
  obtain ⟨ro, rc, rain, e2, r2, _, _⟩ := open_rowD (fun _ : Burst8.Span => True) Try.underlying25 cells24 (by omega) (fun _ _ _ h => open24 h) h2
  obtain ⟨dr, e3, _⟩ := open3 h3
  obtain ⟨so, sc, signs, e4, r4, _, _⟩ := open_rowD (fun _ : Burst8.Sign => True) Try.underlying26 cells55 (by omega) (fun _ _ _ h => open55 h) h4
  have e0' : [a] = [.slice bo banks.length bc] := e0
  have e1' : [b, c] = [i64 wa.lo, i64 wa.hi] := e1
  have e2' : [d] = [.slice ro rain.length rc] := e2
  have e3' : [e] = [i64 dr] := e3
  have e4' : [f] = [.slice so signs.length sc] := e4
  cases e0'; cases e1'; cases e2'; cases e3'; cases e4'
  exact ⟨⟨banks, wa.lo, wa.hi, rain, dr, signs⟩, bo, ro, so, bc, rc, sc, rfl, r0, r2, r4⟩
end
section
variable {H : Type} {en : TypeId × Value → H} {w : World} {base b0 : Nat} {r : Reach} {sp : Nat → Bool} {held : Bool} {v : Value} {d : DataW H} {ps : List MemPlace}
theorem agg_of {t : TypeId} {dd : TypeDesc} (hd : Try.prog.underlying t = some dd) (ha : aggD dd = true) (hv : Value.okWide Try.prog w r b0 t v) : ∃ cs : List Value, v = .agg cs.toArray := by
  unfold Value.okWide at hv
  rw [hd] at hv
  cases dd <;> simp [aggD] at ha
  all_goals
    obtain ⟨cs, rfl, _⟩ := hv
    exact ⟨cs.toList, by simp⟩
theorem get28 (hv : Value.okWide Try.prog w r b0 28 v) (h : DataW.Trod en Try.prog w base sp held 28 v d ps) : ∃ B bo ro so bc rc sc, v = valB B bo ro so bc rc sc ∧ rowD bo 4 encB B.banks (full w) ∧ rowD ro 2 encS B.rain (full w) ∧ rowD so 3 encG B.signs (full w) := by
  obtain ⟨cs, rfl⟩ := agg_of Try.underlying28 rfl hv
  obtain ⟨fuel, h⟩ := h
  obtain ⟨B, bo, ro, so, bc, rc, sc, e, h1, h2, h3⟩ := open28 (cs := cs) h
  subst e
  exact ⟨B, bo, ro, so, bc, rc, sc, rfl, h1, h2, h3⟩
end
theorem own0 : ownKnob Try.prog.godebug = none := by kernel_rfl
theorem monoB {W : World} {B : Bog} {bo ro so : Option Addr} (h1 : rowD bo 4 encB B.banks (full W)) (h2 : rowD ro 2 encS B.rain (full W)) (h3 : rowD so 3 encG B.signs (full W)) : ∀ φ ∈ [rowD bo 4 encB B.banks, rowD ro 2 encS B.rain, rowD so 3 encG B.signs], Mono φ ∧ φ (full W) := by
  intro φ hφ
  simp only [List.mem_cons, List.not_mem_nil, or_false] at hφ
  rcases hφ with rfl | rfl | rfl
  · exact ⟨Mono.row _ _ _ _, h1⟩
  · exact ⟨Mono.row _ _ _ _, h2⟩
  · exact ⟨Mono.row _ _ _ _, h3⟩
end Go.Proofs.Ytoggggnlponfhaa


namespace Go.G
variable {P : Program} {W : World} {n : Nat} {D : List Deferred} {L : Tm} {M : List Res} {R : List Fact} {Q : Exit → Act → World → Prop} {o : Oper}
/-- It takes a resource, and makes one that a later one changes. -/
def Spc.cl (v : Value) (r r' : Res) (kT : Nat) (r2 : Res) : Spc := ⟨none, fun u => u = v, fun _ => [r'], fun _ => [], [r], some (kT, fun _ => [r2]), none, none⟩
/-- One element more, to what may be nothing. -/
theorem run_appZ1 {α : Type} {enc : α → List Value} {sz b c : Nat} {v : Value} {xs : List α} {M' : List Res} {t ty e : TypeId} {i : TypeInfo} {z : Value} {w : World} (y : α) (g4 : St W (ownZ v e sz enc xs :: M') R w) (ht : P.underlying t = some (.slice e)) (hi : P.info? e = some i) (hz : i.zero = some z) (hsz : i.size = sz) (hzs : z.cells.size = sz) (henc : ∀ x, (enc x).length = sz)
    (hcell : ∀ j u, (enc y)[j]? = some u → w.cell? ((⟨b, 0, none⟩ : Addr).add j) = some u) (h1 : oneCells (enc y) = true) (hbd : xs.length ≤ 1000000 ∧ i.bytes ≤ 1000000) :
    ∃ v' w', (Builtin.append_ #[t, t] ty #[v, .slice (some ⟨b, 0, none⟩) 1 c]).run P w = .ok v' w' ∧ St W (ownL v' e sz enc (xs ++ [y]) :: M') R w' := by
  have hl : (enc y).length = 1 * sz := by rw [henc, Nat.one_mul]
  rcases g4.ownZ_cases with ⟨⟨oa, rfl⟩, rfl, g5⟩ | g5
  · subst hsz
    have hgr := g5.newOwn (e := e) (z := z) (i := i) rfl hzs henc [y] (old := 0) (by simp [maxLen]) (by simp) (cs := (enc y).toArray) (by simp)
    have hby : 1 * i.bytes ≤ 140737488355328 := by omega
    cases oa with
    | none =>
      have hr := Go.run_append_nil (P := P) w t ty e i z ht hi hz ⟨b, 0, none⟩ 1 c (enc y) hl hcell (by omega) (by omega) (by omega)
      exact ⟨_, _, hr, by simpa using hgr⟩
    | some ad =>
      have hr := run_append_grow (P := P) w t ty e i z ht hi hz ad 0 0 [] (by simp) (by simp) ⟨b, 0, none⟩ 1 c (enc y) hl hcell (by omega) (by omega) (growslice_fits (by omega) (by rw [Nat.zero_add]; exact hby))
      simp only [Nat.zero_add] at hr
      exact ⟨_, _, hr, by simpa using hgr⟩
  · have hby : (xs.length + 1) * i.bytes ≤ 140737488355328 := by
      have : (xs.length + 1) * i.bytes ≤ 1000001 * 1000000 := Nat.mul_le_mul (by omega) hbd.2
      omega
    obtain ⟨v', w', hr, hw'⟩ := run_append (P := P) (ty := ty) (c := c) (k := 1) g5 ht hi hz hsz hzs hcell hl (oneCells_mem h1) (by simp only [maxLen]; omega) hby (M' := M') ⟨[], M', rfl, rfl⟩
    refine ⟨v', w', hr, ?_⟩
    unfold ownL
    simpa using hw'
/-- Cells that are known, in a new slice that a later operation makes longer. -/
def Spc.ozl {α : Type} (e : TypeId) (sz : Nat) (enc : α → List Value) (ys : List α) (kT : Nat) : Spc := ⟨none, fun _ => True, fun v => [ownZ v e sz enc ys], fun _ => [], [], some (kT, fun _ => []), none, none⟩
theorem p_appNL {α : Type} {enc : α → List Value} {ops : Array Oper} {K : List Spc → Prop} {rest : List Oper} {acc : List Spc} {d x : Nat} {y : Operand} {t e : TypeId} {i : TypeInfo} {z : Value} {sz c : Nat} {oa : Option Addr} {ys : List α} (kT j : Nat) {oj : Oper} [hrow : HasRow oa R sz enc ys] (hoj : ops[j]? = some oj) (hx : oj.dst.getD 1000000 = x) (hsj : acc[j]? = some Spc.l0) (hdep : depD ops o j = true)
    (hg : o.guard = none) (hdst : o.dst = some d) (hd : Nat.blt d n = true) (ho : o.op = .call { callee := .builtin .append, args := #[.tmp x, y], argTypes := #[t, t] }) (ht : P.underlying t = some (.slice e)) (hi : P.info? e = some i) (hz : i.zero = some z) (hsz : i.size = sz) (hzs : z.cells.size = sz) (henc : ∀ x, (enc x).length = sz)
    (hy : ∀ u, ev ((x, u) :: L) y = some (.slice oa ys.length c)) (hbd : ys.length ≤ 1000000 ∧ i.bytes ≤ 1000000) (h : ParO P W n M R ops K rest (acc ++ [Spc.ozl e sz enc ys kT]) L) : ParO P W n M R ops K (o :: rest) acc L := by
  refine ⟨Spc.ozl e sz enc ys kT, by simp [hdst, hd], .inl ⟨rfl, .inr (.inr (.inl ⟨hg, j, oj, Spc.l0, hoj, hsj, rfl, hdep, ?_⟩))⟩, by simpa [addL, Spc.ozl] using h⟩
  rintro u ⟨b, rfl⟩
  rw [hx]
  intro Mx Rx a w g1 g3
  have g3 : St W (Mx ++ M) (Rx ++ R) w := g3
  obtain ⟨v', w', hr, hw'⟩ := run_appN (P := P) (ty := o.type) (c := c) (b := b) g3 (List.mem_append_right _ hrow.mem) henc ht hi hz hsz hzs hbd
  have hxe : ev ((x, Value.slice (some ⟨b, 0, none⟩) 0 0) :: L) (.tmp x) = some (.slice (some ⟨b, 0, none⟩) 0 0) := by simp [ev, look_cons_eq]
  have hrun : (execOp a.eval o).run P w = .ok (.value v') w' := by
    unfold execOp
    simp only [ho, resolve, invoke, builtin, Sem.run_bind, Sem.run_pure, Result.andThen_ok, List.map_toArray, List.map_cons, List.map_nil, g1.ev hxe, g1.ev (hy _), hr]
  rw [hrun]
  exact ⟨trivial, hw'⟩
theorem f_ozl {α : Type} {X : Act → World → Prop} {os : List Oper} {ss : List Spc} {e : TypeId} {sz : Nat} {enc : α → List Value} {ys : List α} {kT d : Nat} (hdst : o.dst = some d) (h : ∀ v, Fin W n D X os ss ((d, v) :: L) M R) : Fin W n D X (o :: os) (Spc.ozl e sz enc ys kT :: ss) L M R := by
  show ∀ u, True → Fin W n D X os ss (putL o.dst u L) ([] ++ M) ([] ++ R)
  rw [hdst]
  intro u _
  exact h u
/-- It is made longer, by an element of a literal. -/
def Spc.apt {α : Type} (e : TypeId) (sz : Nat) (enc : α → List Value) (ys : List α) (j : Nat) : Spc := Spc.s6 none (fun _ => True) (fun v => [ownL v e sz enc ys]) j
theorem p_appT {α : Type} {enc : α → List Value} {ops : Array Oper} {K : List Spc → Prop} {rest : List Oper} {acc : List Spc} {d x x2 : Nat} {t e e2 : TypeId} {i : TypeInfo} {z : Value} {sz : Nat} {ys : List α} {cs : List Value} (j q : Nat) (y : α) {oj oq : Oper} (hoj : ops[j]? = some oj) (hx : oj.dst.getD 1000000 = x) (hsj : acc[j]? = some (Spc.ozl e sz enc ys acc.length)) (hdep : depD ops o j = true) (hoq : ops[q]? = some oq) (hx2 : oq.dst.getD 1000000 = x2) (hsq : acc[q]? = some (Spc.lit 1 e2 cs)) (hdepq : depD ops o q = true) (hne : Nat.beq x2 x = false)
    (hg : o.guard = none) (hdst : o.dst = some d) (hd : Nat.blt d n = true) (ho : o.op = .call { callee := .builtin .append, args := #[.tmp x, .tmp x2], argTypes := #[t, t] }) (ht : P.underlying t = some (.slice e)) (hi : P.info? e = some i) (hz : i.zero = some z) (hsz : i.size = sz) (hzs : z.cells.size = sz) (henc : ∀ x, (enc x).length = sz)
    (hcs : cs = enc y) (h1 : oneCells cs = true) (hbd : ys.length ≤ 1000000 ∧ i.bytes ≤ 1000000) (h : ParO P W n M R ops K rest (acc ++ [Spc.apt e sz enc (ys ++ [y]) j]) L) : ParO P W n M R ops K (o :: rest) acc L := by
  subst hcs
  refine ⟨Spc.apt e sz enc (ys ++ [y]) j, by simp [hdst, hd], .inr (.inr ⟨hg, j, oj, Spc.ozl e sz enc ys acc.length, fun _ => [], none, _, _, q, oq, Spc.lit 1 e2 (enc y), rfl, hoj, hsj, rfl, rfl, hdep, hoq, hsq, rfl, hdepq, ?_⟩), by simpa [addL, Spc.apt, Spc.s6] using h⟩
  intro u _ v2 hv2
  rw [hx, hx2]
  intro Mx Rx a w g1 g3
  have g3 : St W (Mx ++ ([ownZ u e sz enc ys] ++ M)) (Rx ++ ([boxF (sblk v2) e2 (enc y)] ++ ([] ++ R))) w := g3
  have g4 : St W (ownZ u e sz enc ys :: (Mx ++ M)) (Rx ++ ([boxF (sblk v2) e2 (enc y)] ++ ([] ++ R))) w := g3.perm (by
    rw [← List.append_assoc]
    exact (List.perm_append_comm.append_right M).trans (by simp))
  have hv2 : v2 = .slice (some ⟨sblk v2, 0, none⟩) 1 1 := hv2
  have hcell : ∀ j u, (enc y)[j]? = some u → w.cell? ((⟨sblk v2, 0, none⟩ : Addr).add j) = some u := fun j u hu => by rw [add_at, Nat.zero_add, g3.cellF (List.mem_append_right Rx (List.mem_append_left _ (List.mem_singleton.2 rfl)))]; exact hu
  obtain ⟨v', w', hr, hw'⟩ := run_appZ1 (P := P) (ty := o.type) (c := 1) (b := sblk v2) y g4 ht hi hz hsz hzs henc hcell h1 hbd
  have hxe2 : ev ((x2, v2) :: (x, u) :: L) (.tmp x2) = some v2 := by simp [ev, look_cons_eq]
  have hxe : ev ((x2, v2) :: (x, u) :: L) (.tmp x) = some u := by
    simp only [ev]
    rw [look_cons_ne (by intro e; subst e; simp at hne), look_cons_eq]
  rw [← hv2] at hr
  have hrun : (execOp a.eval o).run P w = .ok (.value v') w' := by
    unfold execOp
    simp only [ho, resolve, invoke, builtin, Sem.run_bind, Sem.run_pure, Result.andThen_ok, List.map_toArray, List.map_cons, List.map_nil, g1.ev hxe, g1.ev hxe2, hr]
  rw [hrun]
  exact ⟨trivial, hw'⟩
theorem f_apt {α : Type} {X : Act → World → Prop} {os : List Oper} {ss : List Spc} {e : TypeId} {sz : Nat} {enc : α → List Value} {ys : List α} {j d : Nat} (hdst : o.dst = some d) (h : ∀ v, Fin W n D X os ss ((d, v) :: L) (ownL v e sz enc ys :: M) R) : Fin W n D X (o :: os) (Spc.apt e sz enc ys j :: ss) L M R := by
  show ∀ u, True → Fin W n D X os ss (putL o.dst u L) ([ownL u e sz enc ys] ++ M) ([] ++ R)
  rw [hdst]
  intro u _
  exact h u
/-- An operation that uses what an earlier one has come to: what it makes of it, and what is known of that. -/
theorem p_depG {P : Program} {W : World} {n : Nat} {M : List Res} {R : List Fact} {o : Oper} {L : Tm} {ops : Array Oper} {K : List Spc → Prop} {rest : List Oper} {acc : List Spc} {d x : Nat} {pj pv : Value → Prop} {fj fc : Value → List Fact} (j : Nat) (f : Value → Value) {oj : Oper} (hoj : ops[j]? = some oj) (hx : oj.dst.getD 1000000 = x) (hsj : acc[j]? = some (Spc.g pj (fun _ => []) fj)) (hdep : depD ops o j = true) (hg : o.guard = none) (hdst : o.dst = some d) (hd : Nat.blt d n = true)
    (hp : ∀ u, pj u → pv (f u) ∧ ∀ φ ∈ fc (f u), φ ∈ fj u) (ho : ∀ u, pj u → ∀ Mx Rx, OpQ P W n ((x, u) :: L) (Mx ++ M) (Rx ++ (fj u ++ R)) o (f u)) (h : ParO P W n M R ops K rest (acc ++ [Spc.g pv (fun _ => []) fc]) L) : ParO P W n M R ops K (o :: rest) acc L := by
  subst hx
  refine ⟨Spc.g pv (fun _ => []) fc, by simp [hdst, hd], .inl ⟨rfl, .inr (.inr (.inl ⟨hg, j, oj, _, hoj, hsj, rfl, hdep, fun u hu => ?_⟩))⟩, by simpa [addL, Spc.g] using h⟩
  intro Mx Rx a w g1 g3
  have g3 : St W (Mx ++ M) (Rx ++ (fj u ++ R)) w := g3
  have hr := OpG.of_q (M := M) (R := fj u ++ R) (v := f u) (ho u hu) Mx Rx a w g1 g3
  generalize (execOp a.eval o).run P w = r at hr
  have conv : ∀ v w', (Spc.q (f u)).val v → St W ((Spc.q (f u)).rs v ++ (Mx ++ M)) ((Spc.q (f u)).fs v ++ (Rx ++ (fj u ++ R))) w' →
      (Spc.g pv (fun _ => []) fc).val v ∧ St W ((Spc.g pv (fun _ => []) fc).rs v ++ (Mx ++ M)) ((Spc.g pv (fun _ => []) fc).fs v ++ (Rx ++ (fj u ++ R))) w' := by
    intro v w' hv hst
    have hv : v = f u := hv
    subst hv
    refine ⟨(hp u hu).1, St.weak hst fun φ hφ => ?_⟩
    have hst : True := trivial
    show φ ∈ [] ++ (Rx ++ (fj u ++ R))
    rcases List.mem_append.1 hφ with h | h
    · have h : φ ∈ fc (f u) := h
      exact List.mem_append_right _ (List.mem_append_right _ (List.mem_append_left _ ((hp u hu).2 φ h)))
    · exact h
  cases r with
  | ok x w' =>
    cases x <;> simp only [upG] at hr ⊢
    · exact conv _ _ hr.1 hr.2
    · exact conv _ _ hr.1 hr.2
    · obtain ⟨rfl, hc⟩ := hr
      refine ⟨rfl, hc.mono ?_⟩
      rintro e w'' (⟨v, rfl, h5, h6⟩ | ⟨c, rfl, hc1, _⟩)
      · exact .inl ⟨v, rfl, (conv _ _ h5 h6).1, (conv _ _ h5 h6).2⟩
      · cases hc1
  | halt x w' => exact hr.elim
end Go.G


namespace Go.Proofs.Ytoggggnlponfhaa
open Go.G Burst8
set_option maxRecDepth 1000000
attribute [local irreducible] G.ParO G.Fin
attribute [local irreducible] fw fwR fwC emptyT tabOf knownT canB boundsL
variable (B : Bog) (bo ro so : Option Addr) (bc rc sc : Nat) (bb mb : Nat)
end Go.Proofs.Ytoggggnlponfhaa


namespace Go.Proofs.Ytoggggnlponfhaa
open Go.G Burst8
set_option maxRecDepth 1000000
attribute [local irreducible] G.ParO G.Fin
attribute [local irreducible] fw fwR fwC emptyT tabOf knownT canB boundsL
variable (B : Bog) (bo ro so : Option Addr) (bc rc sc : Nat) (bb mb : Nat)
attribute [local irreducible] trulyB calmF watF bearF untilB spareB gradeB lastB worstT
end Go.Proofs.Ytoggggnlponfhaa


namespace Go.Proofs.Ytoggggnlponfhaa
open Go.G Burst8
attribute [local irreducible] fw fwR fwC emptyT tabOf knownT canB boundsL
def knW (B : Bog) (n : Int) : Bog := { B with wlo := n, whi := n }
def knB (B : Bog) (b : Nat) (n : Int) : Bog := { B with banks := B.banks.set b ⟨n, n, 0, 0⟩ }
section
variable {B : Bog} (hg : GoodB B) {n : Int}
include hg
variable {b : Nat} (hb : b < B.banks.length)
include hb
end
/-- What margins have been seen, of what a bank bears below a number. -/
structure Seen (B : Bog) (b : Nat) (n a c : Int) : Prop where
  all : ∀ k w, TrW B (allS B) k w → k b < n → a ≤ k b - w 0 ∧ k b - w 0 ≤ c
  some_ : ((∀ k w, TrW B (allS B) k w → ¬ k b < n) ∧ a = 1048576 ∧ c = -1048576) ∨ ((∃ k w, TrW B (allS B) k w ∧ k b - w 0 = a) ∧ ∃ k w, TrW B (allS B) k w ∧ k b - w 0 = c)
section
variable {B : Bog} (hg : GoodB B) {b : Nat} (hb : b < B.banks.length)
include hg hb
end
end Go.Proofs.Ytoggggnlponfhaa


namespace Go.Proofs.Ytoggggnlponfhaa
open Go.G Burst8
set_option maxRecDepth 1000000
attribute [local irreducible] G.ParO G.Fin
attribute [local irreducible] fw fwR fwC emptyT tabOf knownT canB boundsL
variable (B : Bog) (bo ro so : Option Addr) (bc rc sc : Nat) (bb mb : Nat)
set_option maxHeartbeats 4000000 in
theorem Bears_v (hg : GoodB B) (k : Nat) (hk : k < B.banks.length) : FnV Try.prog 36 [valB B bo ro so bc rc sc, i64 k] [rowD bo 4 encB B.banks, rowD ro 2 encS B.rain, rowD so 3 encG B.signs] (.agg #[i64 ((B.banks.getD k default).blo - (B.banks.getD k default).chi), i64 ((B.banks.getD k default).bhi - (B.banks.getD k default).clo)]) := by
  obtain ⟨hq1, hq2⟩ := hg.banks k hk
  refine FnV.intro Try.call36 Try.func36 rfl Try.ntmps36 rfl ?_
  intro W M Rf
  refine r_seq ?_
  refine r_region ?_
  refine o_boxA rfl rfl rfl rfl rfl (fun b2 => ?_)
  refine o_alloc rfl inf24 rfl rfl rfl rfl rfl (fun b4 => ?_)
  refine o_nil ?_
  with_reducible refine r_then ?_
  refine r_seq ?_
  refine r_region ?_
  refine o_q _ rfl rfl rfl (v_fieldAddr rfl Try.underlying28 inf22 rfl rfl rfl rfl) ?_
  refine o_q _ rfl rfl rfl (v_ld1 rfl Try.underlying22 rfl rfl rfl) ?_
  refine o_q _ rfl rfl rfl (v_move rfl rfl) ?_
  refine o_q _ rfl rfl rfl (v_indexAddrSn rfl Try.underlying22 inf58 rfl rfl rfl (by omega) rfl) ?_
  refine o_q _ rfl rfl rfl (v_cast (v := .agg #[i64 (B.banks.getD k default).blo, i64 (B.banks.getD k default).bhi, i64 (B.banks.getD k default).clo, i64 (B.banks.getD k default).chi]) (v_loadEN rfl Try.underlying58 rfl inf58 rfl (by omega) rfl rfl rfl) rfl) ?_
  refine o_alloc rfl inf58 rfl rfl rfl rfl rfl (fun b5 => ?_)
  refine o_st rfl inf58 rfl rfl rfl rfl rfl rfl rfl rfl ?_
  refine o_nil ?_
  with_reducible refine r_then ?_
  refine r_seq ?_
  refine r_region ?_
  refine o_q _ rfl rfl rfl (v_fieldAddr rfl Try.underlying58 inf24 rfl rfl rfl rfl) ?_
  refine o_q _ rfl rfl rfl (v_fieldAddr rfl Try.underlying24 inf3 rfl rfl rfl rfl) ?_
  refine o_q _ rfl rfl rfl (v_ld1 rfl Try.underlying3 rfl rfl rfl) ?_
  refine o_q _ rfl rfl rfl (v_fieldAddr rfl Try.underlying58 inf24 rfl rfl rfl rfl) ?_
  refine o_q _ rfl rfl rfl (v_fieldAddr rfl Try.underlying24 inf3 rfl rfl rfl rfl) ?_
  refine o_q _ rfl rfl rfl (v_ld1 rfl Try.underlying3 rfl rfl rfl) ?_
  refine o_q _ rfl rfl rfl (v_sub rfl rfl rfl (by omega)) ?_
  refine o_q _ rfl rfl rfl (v_fieldAddr rfl Try.underlying58 inf24 rfl rfl rfl rfl) ?_
  refine o_q _ rfl rfl rfl (v_fieldAddr rfl Try.underlying24 inf3 rfl rfl rfl rfl) ?_
  refine o_q _ rfl rfl rfl (v_ld1 rfl Try.underlying3 rfl rfl rfl) ?_
  refine o_q _ rfl rfl rfl (v_fieldAddr rfl Try.underlying58 inf24 rfl rfl rfl rfl) ?_
  refine o_q _ rfl rfl rfl (v_fieldAddr rfl Try.underlying24 inf3 rfl rfl rfl rfl) ?_
  refine o_q _ rfl rfl rfl (v_ld1 rfl Try.underlying3 rfl rfl rfl) ?_
  refine o_q _ rfl rfl rfl (v_sub rfl rfl rfl (by omega)) ?_
  refine o_q _ rfl rfl rfl (v_bS rfl Try.underlying24 inf24 plt24 rfl rfl rfl (by repeat (first | exact trivial | refine ⟨rfl, ?_⟩)) (by rfl)) ?_
  refine o_st rfl inf24 rfl rfl rfl rfl rfl rfl rfl rfl ?_
  refine o_nil ?_
  with_reducible refine r_then ?_
  refine r_ret ?_
  exact r_retv2 (Rd.one rfl (RdI.cellW Try.underlying24 rfl inf24 rfl rfl)) rfl SelMC.sel SubRC.sub
attribute [local irreducible] knB knW setB marginB clashB
end Go.Proofs.Ytoggggnlponfhaa

