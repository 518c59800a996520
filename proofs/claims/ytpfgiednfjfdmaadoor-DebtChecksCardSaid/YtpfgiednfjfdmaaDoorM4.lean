/- Part 4 of 5 of what the proofs of this seat stand on: a small logic for walks, what the functions come to, and the walks themselves. No condition of its own. -/
import Derived.Test.YtpfgiednfjfdmaaDoorM3
set_option linter.unusedVariables false
set_option linter.unusedSimpArgs false
set_option linter.unusedSectionVars false
namespace Go.Proofs.YtpfgiednfjfdmaaDoor
open Go.G Debt10
set_option maxRecDepth 1000000
attribute [local irreducible] G.ParO G.Fin
/-- Why nothing is known; 0: it is. -/
def chkD (D : Debt) (v : Bool) : Int := if GoodD D then (if v then 0 else 2) else 1
theorem chkD_1 {D : Debt} {v : Bool} (h : ¬ GoodD D) : chkD D v = 1 := if_neg h
theorem chkD_2 {D : Debt} {v : Bool} (h : GoodD D) (hv : v = false) : chkD D v = 2 := by unfold chkD; rw [if_pos h, hv]; rfl
theorem chkD_0 {D : Debt} {v : Bool} (h : GoodD D) (hv : v = true) : chkD D v = 0 := by unfold chkD; rw [if_pos h, hv]; rfl
def ansD {α : Type} (D : Debt) (v : Bool) (z x : α) : α × Int := if chkD D v = 0 then (x, 0) else (z, chkD D v)
theorem ansD_0 {α : Type} {D : Debt} {v : Bool} {z x : α} (h : chkD D v = 0) : ansD D v z x = (x, 0) := if_pos h
theorem ansD_n {α : Type} {D : Debt} {v : Bool} {z x : α} {e : Int} (h : chkD D v = e) (he : e ≠ 0) : ansD D v z x = (z, e) := by unfold ansD; rw [h, if_neg he]
abbrev okWD (D : Debt) (who d : Int) : Bool := isW D who && isDy d
def leftB (D : Debt) (who d : Int) : Debt10.Span × Int := ansD D (okWD D who d) ⟨0, 0⟩ (leftT D who d.toNat)
def needB (D : Debt) (who d : Int) : Int × Int := ansD D (okWD D who d) 0 (needT D who d.toNat)
def setlB (D : Debt) (who d : Int) : Int × Int := ansD D (okWD D who d) 0 (gradeS (leftT D who d.toNat))
def aheadB (D : Debt) (who d : Int) : Debt10.Span × Int := ansD D (okWD D who d) ⟨0, 0⟩ (aheadT D who d.toNat)
def openB (D : Debt) (who d : Int) : (Nat × Nat) × Int := ansD D (okWD D who d) (0, 0) (setT (progA D 0 who (d.toNat + 1)).1, setT (progA D 1 who (d.toNat + 1)).1)
theorem okT {D : Debt} {who d : Int} (h1 : isW D who = true) (h2 : isDy d = true) : okWD D who d = true := by unfold okWD; rw [h1, h2]; rfl
theorem okF1 {D : Debt} {who d : Int} (h1 : isW D who = false) : okWD D who d = false := by unfold okWD; rw [h1]; rfl
theorem okF2 {D : Debt} {who d : Int} (h2 : isDy d = false) : okWD D who d = false := by unfold okWD; rw [h2, Bool.and_false]
theorem grade_2 {s : Debt10.Span} (h : s.hi = 0) : gradeS s = 2 := if_pos h
theorem grade_1 {s : Debt10.Span} (h : ¬ s.hi = 0) (h2 : s.lo = 0) : gradeS s = 1 := by unfold gradeS; rw [if_neg h, if_pos h2]
theorem grade_0 {s : Debt10.Span} (h : ¬ s.hi = 0) (h2 : ¬ s.lo = 0) : gradeS s = 0 := by unfold gradeS; rw [if_neg h, if_neg h2]
variable (D : Debt) (uo po : Option Addr) (uc pc : Nat)
set_option maxHeartbeats 4000000 in
theorem left14_x1a (who d : Int) (hl1 : D.dues.length ≤ 40) (hl2 : D.paid.length ≤ 40) (hng : ¬ GoodD D) (h1 : isW D who = false) : FnV Tryd.prog 14 [valD D uo po uc pc, i64 who, i64 d] [rowD uo 5 encD D.dues, rowD po 4 encP D.paid, rowD (some ⟨0, 0, none⟩) 1 encE ([0, 1] : List Nat)] (.tuple #[vS (leftB D who d).1, i64 (leftB D who d).2]) := by
  refine FnV.introD Tryd.call14 Tryd.func14 rfl Tryd.ntmps14 rfl ?_
  intro W M Rf
  refine r_seq ?_
  refine r_region ?_
  refine o_boxA rfl rfl rfl rfl rfl (fun b3 => ?_)
  refine o_alloc rfl inf29 rfl rfl rfl rfl rfl (fun b6 => ?_)
  refine o_alloc rfl inf30 rfl rfl rfl rfl rfl (fun b7 => ?_)
  refine o_nil ?_
  repeat (first | with_reducible refine r_then ?_ | with_reducible refine r_in_normal ?_ | with_reducible refine r_sc_normal ?_)
  refine r_seq ?_
  refine r_region ?_
  refine o_defer rfl rfl rfl rfl ?_
  refine o_nil ?_
  repeat (first | with_reducible refine r_then ?_ | with_reducible refine r_in_normal ?_ | with_reducible refine r_sc_normal ?_)
  refine r_seq ?_
  refine r_parX 11 mixed (by kernel_rfl) (by rfl) ?_
  first | refine p_q _ rfl rfl rfl (fun _ _ => v_ldW rfl Tryd.underlying25 rfl inf25 rfl rfl) ?_ | refine p_q _ rfl rfl rfl (fun _ _ => v_lfW rfl Tryd.underlying25 rfl inf25 rfl rfl) ?_ | refine p_q _ rfl rfl rfl (fun _ _ => v_lfN rfl Tryd.underlying25 rfl inf25 rfl rfl rfl) ?_ | refine p_q _ rfl rfl rfl (fun _ _ => v_ldN rfl Tryd.underlying25 rfl inf25 rfl rfl rfl) ?_ | refine p_q _ rfl rfl rfl (fun _ _ => v_loadEN rfl Tryd.underlying25 rfl inf25 rfl (by omega) rfl rfl rfl) ?_
  first | refine p_q _ rfl rfl rfl (fun _ _ => v_ldW rfl Tryd.underlying25 rfl inf25 rfl rfl) ?_ | refine p_q _ rfl rfl rfl (fun _ _ => v_lfW rfl Tryd.underlying25 rfl inf25 rfl rfl) ?_ | refine p_q _ rfl rfl rfl (fun _ _ => v_lfN rfl Tryd.underlying25 rfl inf25 rfl rfl rfl) ?_ | refine p_q _ rfl rfl rfl (fun _ _ => v_ldN rfl Tryd.underlying25 rfl inf25 rfl rfl rfl) ?_ | refine p_q _ rfl rfl rfl (fun _ _ => v_loadEN rfl Tryd.underlying25 rfl inf25 rfl (by omega) rfl rfl rfl) ?_
  refine p_q _ rfl rfl rfl (fun _ _ => v_move rfl rfl) ?_
  refine p_q _ rfl rfl rfl (fun _ _ => v_cast (v := .bool false) (OpQ.fn (isWho_v D uo po uc pc who) rfl rfl SubRC.sub) (congrArg Value.bool h1)) ?_
  refine p_q _ rfl rfl rfl (fun _ _ => v_move rfl rfl) ?_
  first | refine p_gn rfl rfl rfl rfl ?_ | refine p_g _ rfl rfl rfl rfl (fun _ _ => v_move rfl rfl) ?_
  first | refine p_gn rfl rfl rfl rfl ?_ | refine p_g _ rfl rfl rfl rfl (fun _ _ => OpQ.fn (isDay_v d) rfl rfl SubRC.sub) ?_
  first | refine p_q _ rfl rfl rfl (fun _ _ => v_pick_t rfl rfl rfl) ?_ | refine p_q _ rfl rfl rfl (fun _ _ => v_pick_f rfl rfl rfl) ?_
  refine p_deadX (look_x1 D uo po uc pc _ hl1 hl2 hng) rfl rfl rfl rfl rfl SubRC.sub ?_
  refine p_q _ rfl rfl rfl (fun _ _ => v_move rfl rfl) ?_
  refine p_q _ rfl rfl rfl (fun _ _ => v_move rfl rfl) ?_
  refine p_nilX (panOf (.iface 103 (i64 1))) (by simp only [List.nil_append, List.cons_append]; rfl) rfl (by kernel_rfl) rfl ?_ ?_
  ·
    repeat (first | with_reducible refine r_then_panic ?_ | with_reducible refine r_in_panic ?_ | with_reducible refine r_sc_panic ?_)
    exact d_panv answer_ans (Rd.two rfl (RdI.cellW Tryd.underlying29 rfl inf29 rfl rfl) (RdI.cell1 Tryd.underlying30 rfl rfl rfl)) (by rw [leftB, ansD_n (chkD_1 hng) (by decide)]; try rfl) SelMC.sel SubRC.sub
  ·
    refine f_q rfl ?_
    refine f_q rfl ?_
    refine f_q rfl ?_
    refine f_q rfl ?_
    refine f_q rfl ?_
    refine f_q rfl ?_
    refine f_q rfl ?_
    refine f_q rfl ?_
    exact f_dead
set_option maxHeartbeats 4000000 in
theorem left14_x1b (who d : Int) (hl1 : D.dues.length ≤ 40) (hl2 : D.paid.length ≤ 40) (hng : ¬ GoodD D) (h1 : isW D who = true) : FnV Tryd.prog 14 [valD D uo po uc pc, i64 who, i64 d] [rowD uo 5 encD D.dues, rowD po 4 encP D.paid, rowD (some ⟨0, 0, none⟩) 1 encE ([0, 1] : List Nat)] (.tuple #[vS (leftB D who d).1, i64 (leftB D who d).2]) := by
  refine FnV.introD Tryd.call14 Tryd.func14 rfl Tryd.ntmps14 rfl ?_
  intro W M Rf
  refine r_seq ?_
  refine r_region ?_
  refine o_boxA rfl rfl rfl rfl rfl (fun b3 => ?_)
  refine o_alloc rfl inf29 rfl rfl rfl rfl rfl (fun b6 => ?_)
  refine o_alloc rfl inf30 rfl rfl rfl rfl rfl (fun b7 => ?_)
  refine o_nil ?_
  repeat (first | with_reducible refine r_then ?_ | with_reducible refine r_in_normal ?_ | with_reducible refine r_sc_normal ?_)
  refine r_seq ?_
  refine r_region ?_
  refine o_defer rfl rfl rfl rfl ?_
  refine o_nil ?_
  repeat (first | with_reducible refine r_then ?_ | with_reducible refine r_in_normal ?_ | with_reducible refine r_sc_normal ?_)
  refine r_seq ?_
  refine r_parX 11 mixed (by kernel_rfl) (by rfl) ?_
  first | refine p_q _ rfl rfl rfl (fun _ _ => v_ldW rfl Tryd.underlying25 rfl inf25 rfl rfl) ?_ | refine p_q _ rfl rfl rfl (fun _ _ => v_lfW rfl Tryd.underlying25 rfl inf25 rfl rfl) ?_ | refine p_q _ rfl rfl rfl (fun _ _ => v_lfN rfl Tryd.underlying25 rfl inf25 rfl rfl rfl) ?_ | refine p_q _ rfl rfl rfl (fun _ _ => v_ldN rfl Tryd.underlying25 rfl inf25 rfl rfl rfl) ?_ | refine p_q _ rfl rfl rfl (fun _ _ => v_loadEN rfl Tryd.underlying25 rfl inf25 rfl (by omega) rfl rfl rfl) ?_
  first | refine p_q _ rfl rfl rfl (fun _ _ => v_ldW rfl Tryd.underlying25 rfl inf25 rfl rfl) ?_ | refine p_q _ rfl rfl rfl (fun _ _ => v_lfW rfl Tryd.underlying25 rfl inf25 rfl rfl) ?_ | refine p_q _ rfl rfl rfl (fun _ _ => v_lfN rfl Tryd.underlying25 rfl inf25 rfl rfl rfl) ?_ | refine p_q _ rfl rfl rfl (fun _ _ => v_ldN rfl Tryd.underlying25 rfl inf25 rfl rfl rfl) ?_ | refine p_q _ rfl rfl rfl (fun _ _ => v_loadEN rfl Tryd.underlying25 rfl inf25 rfl (by omega) rfl rfl rfl) ?_
  refine p_q _ rfl rfl rfl (fun _ _ => v_move rfl rfl) ?_
  refine p_q _ rfl rfl rfl (fun _ _ => v_cast (v := .bool true) (OpQ.fn (isWho_v D uo po uc pc who) rfl rfl SubRC.sub) (congrArg Value.bool h1)) ?_
  refine p_q _ rfl rfl rfl (fun _ _ => v_move rfl rfl) ?_
  first | refine p_gn rfl rfl rfl rfl ?_ | refine p_g _ rfl rfl rfl rfl (fun _ _ => v_move rfl rfl) ?_
  first | refine p_gn rfl rfl rfl rfl ?_ | refine p_g _ rfl rfl rfl rfl (fun _ _ => OpQ.fn (isDay_v d) rfl rfl SubRC.sub) ?_
  first | refine p_q _ rfl rfl rfl (fun _ _ => v_pick_t rfl rfl rfl) ?_ | refine p_q _ rfl rfl rfl (fun _ _ => v_pick_f rfl rfl rfl) ?_
  refine p_deadX (look_x1 D uo po uc pc _ hl1 hl2 hng) rfl rfl rfl rfl rfl SubRC.sub ?_
  refine p_q _ rfl rfl rfl (fun _ _ => v_move rfl rfl) ?_
  refine p_q _ rfl rfl rfl (fun _ _ => v_move rfl rfl) ?_
  refine p_nilX (panOf (.iface 103 (i64 1))) (by simp only [List.nil_append, List.cons_append]; rfl) rfl (by kernel_rfl) rfl ?_ ?_
  ·
    repeat (first | with_reducible refine r_then_panic ?_ | with_reducible refine r_in_panic ?_ | with_reducible refine r_sc_panic ?_)
    exact d_panv answer_ans (Rd.two rfl (RdI.cellW Tryd.underlying29 rfl inf29 rfl rfl) (RdI.cell1 Tryd.underlying30 rfl rfl rfl)) (by rw [leftB, ansD_n (chkD_1 hng) (by decide)]; try rfl) SelMC.sel SubRC.sub
  ·
    refine f_q rfl ?_
    refine f_q rfl ?_
    refine f_q rfl ?_
    refine f_q rfl ?_
    refine f_q rfl ?_
    refine f_q rfl ?_
    refine f_q rfl ?_
    refine f_q rfl ?_
    exact f_dead
set_option maxHeartbeats 4000000 in
theorem left14_x2a (who d : Int) (hl1 : D.dues.length ≤ 40) (hl2 : D.paid.length ≤ 40) (hg : GoodD D) (h1 : isW D who = false) : FnV Tryd.prog 14 [valD D uo po uc pc, i64 who, i64 d] [rowD uo 5 encD D.dues, rowD po 4 encP D.paid, rowD (some ⟨0, 0, none⟩) 1 encE ([0, 1] : List Nat)] (.tuple #[vS (leftB D who d).1, i64 (leftB D who d).2]) := by
  refine FnV.introD Tryd.call14 Tryd.func14 rfl Tryd.ntmps14 rfl ?_
  intro W M Rf
  refine r_seq ?_
  refine r_region ?_
  refine o_boxA rfl rfl rfl rfl rfl (fun b3 => ?_)
  refine o_alloc rfl inf29 rfl rfl rfl rfl rfl (fun b6 => ?_)
  refine o_alloc rfl inf30 rfl rfl rfl rfl rfl (fun b7 => ?_)
  refine o_nil ?_
  repeat (first | with_reducible refine r_then ?_ | with_reducible refine r_in_normal ?_ | with_reducible refine r_sc_normal ?_)
  refine r_seq ?_
  refine r_region ?_
  refine o_defer rfl rfl rfl rfl ?_
  refine o_nil ?_
  repeat (first | with_reducible refine r_then ?_ | with_reducible refine r_in_normal ?_ | with_reducible refine r_sc_normal ?_)
  refine r_seq ?_
  refine r_parX 11 mixed (by kernel_rfl) (by rfl) ?_
  first | refine p_q _ rfl rfl rfl (fun _ _ => v_ldW rfl Tryd.underlying25 rfl inf25 rfl rfl) ?_ | refine p_q _ rfl rfl rfl (fun _ _ => v_lfW rfl Tryd.underlying25 rfl inf25 rfl rfl) ?_ | refine p_q _ rfl rfl rfl (fun _ _ => v_lfN rfl Tryd.underlying25 rfl inf25 rfl rfl rfl) ?_ | refine p_q _ rfl rfl rfl (fun _ _ => v_ldN rfl Tryd.underlying25 rfl inf25 rfl rfl rfl) ?_ | refine p_q _ rfl rfl rfl (fun _ _ => v_loadEN rfl Tryd.underlying25 rfl inf25 rfl (by omega) rfl rfl rfl) ?_
  first | refine p_q _ rfl rfl rfl (fun _ _ => v_ldW rfl Tryd.underlying25 rfl inf25 rfl rfl) ?_ | refine p_q _ rfl rfl rfl (fun _ _ => v_lfW rfl Tryd.underlying25 rfl inf25 rfl rfl) ?_ | refine p_q _ rfl rfl rfl (fun _ _ => v_lfN rfl Tryd.underlying25 rfl inf25 rfl rfl rfl) ?_ | refine p_q _ rfl rfl rfl (fun _ _ => v_ldN rfl Tryd.underlying25 rfl inf25 rfl rfl rfl) ?_ | refine p_q _ rfl rfl rfl (fun _ _ => v_loadEN rfl Tryd.underlying25 rfl inf25 rfl (by omega) rfl rfl rfl) ?_
  refine p_q _ rfl rfl rfl (fun _ _ => v_move rfl rfl) ?_
  refine p_q _ rfl rfl rfl (fun _ _ => v_cast (v := .bool false) (OpQ.fn (isWho_v D uo po uc pc who) rfl rfl SubRC.sub) (congrArg Value.bool h1)) ?_
  refine p_q _ rfl rfl rfl (fun _ _ => v_move rfl rfl) ?_
  first | refine p_gn rfl rfl rfl rfl ?_ | refine p_g _ rfl rfl rfl rfl (fun _ _ => v_move rfl rfl) ?_
  first | refine p_gn rfl rfl rfl rfl ?_ | refine p_g _ rfl rfl rfl rfl (fun _ _ => OpQ.fn (isDay_v d) rfl rfl SubRC.sub) ?_
  first | refine p_q _ rfl rfl rfl (fun _ _ => v_pick_t rfl rfl rfl) ?_ | refine p_q _ rfl rfl rfl (fun _ _ => v_pick_f rfl rfl rfl) ?_
  refine p_deadX (look_x2 D uo po uc pc hl1 hl2 hg) rfl rfl rfl rfl rfl SubRC.sub ?_
  refine p_q _ rfl rfl rfl (fun _ _ => v_move rfl rfl) ?_
  refine p_q _ rfl rfl rfl (fun _ _ => v_move rfl rfl) ?_
  refine p_nilX (panOf (.iface 103 (i64 2))) (by simp only [List.nil_append, List.cons_append]; rfl) rfl (by kernel_rfl) rfl ?_ ?_
  ·
    repeat (first | with_reducible refine r_then_panic ?_ | with_reducible refine r_in_panic ?_ | with_reducible refine r_sc_panic ?_)
    exact d_panv answer_ans (Rd.two rfl (RdI.cellW Tryd.underlying29 rfl inf29 rfl rfl) (RdI.cell1 Tryd.underlying30 rfl rfl rfl)) (by rw [leftB, ansD_n (chkD_2 hg (okF1 h1)) (by decide)]; try rfl) SelMC.sel SubRC.sub
  ·
    refine f_q rfl ?_
    refine f_q rfl ?_
    refine f_q rfl ?_
    refine f_q rfl ?_
    refine f_q rfl ?_
    refine f_q rfl ?_
    refine f_q rfl ?_
    refine f_q rfl ?_
    exact f_dead
set_option maxHeartbeats 4000000 in
theorem left14_x2b (who d : Int) (hl1 : D.dues.length ≤ 40) (hl2 : D.paid.length ≤ 40) (hg : GoodD D) (h1 : isW D who = true) (h2 : isDy d = false) : FnV Tryd.prog 14 [valD D uo po uc pc, i64 who, i64 d] [rowD uo 5 encD D.dues, rowD po 4 encP D.paid, rowD (some ⟨0, 0, none⟩) 1 encE ([0, 1] : List Nat)] (.tuple #[vS (leftB D who d).1, i64 (leftB D who d).2]) := by
  refine FnV.introD Tryd.call14 Tryd.func14 rfl Tryd.ntmps14 rfl ?_
  intro W M Rf
  refine r_seq ?_
  refine r_region ?_
  refine o_boxA rfl rfl rfl rfl rfl (fun b3 => ?_)
  refine o_alloc rfl inf29 rfl rfl rfl rfl rfl (fun b6 => ?_)
  refine o_alloc rfl inf30 rfl rfl rfl rfl rfl (fun b7 => ?_)
  refine o_nil ?_
  repeat (first | with_reducible refine r_then ?_ | with_reducible refine r_in_normal ?_ | with_reducible refine r_sc_normal ?_)
  refine r_seq ?_
  refine r_region ?_
  refine o_defer rfl rfl rfl rfl ?_
  refine o_nil ?_
  repeat (first | with_reducible refine r_then ?_ | with_reducible refine r_in_normal ?_ | with_reducible refine r_sc_normal ?_)
  refine r_seq ?_
  refine r_parX 11 mixed (by kernel_rfl) (by rfl) ?_
  first | refine p_q _ rfl rfl rfl (fun _ _ => v_ldW rfl Tryd.underlying25 rfl inf25 rfl rfl) ?_ | refine p_q _ rfl rfl rfl (fun _ _ => v_lfW rfl Tryd.underlying25 rfl inf25 rfl rfl) ?_ | refine p_q _ rfl rfl rfl (fun _ _ => v_lfN rfl Tryd.underlying25 rfl inf25 rfl rfl rfl) ?_ | refine p_q _ rfl rfl rfl (fun _ _ => v_ldN rfl Tryd.underlying25 rfl inf25 rfl rfl rfl) ?_ | refine p_q _ rfl rfl rfl (fun _ _ => v_loadEN rfl Tryd.underlying25 rfl inf25 rfl (by omega) rfl rfl rfl) ?_
  first | refine p_q _ rfl rfl rfl (fun _ _ => v_ldW rfl Tryd.underlying25 rfl inf25 rfl rfl) ?_ | refine p_q _ rfl rfl rfl (fun _ _ => v_lfW rfl Tryd.underlying25 rfl inf25 rfl rfl) ?_ | refine p_q _ rfl rfl rfl (fun _ _ => v_lfN rfl Tryd.underlying25 rfl inf25 rfl rfl rfl) ?_ | refine p_q _ rfl rfl rfl (fun _ _ => v_ldN rfl Tryd.underlying25 rfl inf25 rfl rfl rfl) ?_ | refine p_q _ rfl rfl rfl (fun _ _ => v_loadEN rfl Tryd.underlying25 rfl inf25 rfl (by omega) rfl rfl rfl) ?_
  refine p_q _ rfl rfl rfl (fun _ _ => v_move rfl rfl) ?_
  refine p_q _ rfl rfl rfl (fun _ _ => v_cast (v := .bool true) (OpQ.fn (isWho_v D uo po uc pc who) rfl rfl SubRC.sub) (congrArg Value.bool h1)) ?_
  refine p_q _ rfl rfl rfl (fun _ _ => v_move rfl rfl) ?_
  first | refine p_gn rfl rfl rfl rfl ?_ | refine p_g _ rfl rfl rfl rfl (fun _ _ => v_move rfl rfl) ?_
  first | refine p_gn rfl rfl rfl rfl ?_ | refine p_g _ rfl rfl rfl rfl (fun _ _ => v_cast (v := .bool false) (OpQ.fn (isDay_v d) rfl rfl SubRC.sub) (congrArg Value.bool h2)) ?_
  first | refine p_q _ rfl rfl rfl (fun _ _ => v_pick_t rfl rfl rfl) ?_ | refine p_q _ rfl rfl rfl (fun _ _ => v_pick_f rfl rfl rfl) ?_
  refine p_deadX (look_x2 D uo po uc pc hl1 hl2 hg) rfl rfl rfl rfl rfl SubRC.sub ?_
  refine p_q _ rfl rfl rfl (fun _ _ => v_move rfl rfl) ?_
  refine p_q _ rfl rfl rfl (fun _ _ => v_move rfl rfl) ?_
  refine p_nilX (panOf (.iface 103 (i64 2))) (by simp only [List.nil_append, List.cons_append]; rfl) rfl (by kernel_rfl) rfl ?_ ?_
  ·
    repeat (first | with_reducible refine r_then_panic ?_ | with_reducible refine r_in_panic ?_ | with_reducible refine r_sc_panic ?_)
    exact d_panv answer_ans (Rd.two rfl (RdI.cellW Tryd.underlying29 rfl inf29 rfl rfl) (RdI.cell1 Tryd.underlying30 rfl rfl rfl)) (by rw [leftB, ansD_n (chkD_2 hg (okF2 h2)) (by decide)]; try rfl) SelMC.sel SubRC.sub
  ·
    refine f_q rfl ?_
    refine f_q rfl ?_
    refine f_q rfl ?_
    refine f_q rfl ?_
    refine f_q rfl ?_
    refine f_q rfl ?_
    refine f_q rfl ?_
    refine f_q rfl ?_
    exact f_dead
set_option maxHeartbeats 4000000 in
theorem left14_ok (who d : Int) (hl1 : D.dues.length ≤ 40) (hl2 : D.paid.length ≤ 40) (hg : GoodD D) (h1 : isW D who = true) (h2 : isDy d = true) : FnV Tryd.prog 14 [valD D uo po uc pc, i64 who, i64 d] [rowD uo 5 encD D.dues, rowD po 4 encP D.paid, rowD (some ⟨0, 0, none⟩) 1 encE ([0, 1] : List Nat)] (.tuple #[vS (leftB D who d).1, i64 (leftB D who d).2]) := by
  obtain ⟨dn, rfl⟩ : ∃ n : Nat, d = n := ⟨d.toNat, by have := of_decide_eq_true h2; omega⟩
  have hd := of_decide_eq_true h2
  have hq1 := hg.np
  have hwr : IntKind.i64.wrap (D.people - 1) = D.people - 1 := IntWalk.i64_in _ (by omega)
  have hwh := of_decide_eq_true h1
  have hdn : dn ≤ 30 := by omega
  have hwb : -1000 ≤ who ∧ who ≤ 1000 := by omega
  refine FnV.introD Tryd.call14 Tryd.func14 rfl Tryd.ntmps14 rfl ?_
  intro W M Rf
  refine r_seq ?_
  refine r_region ?_
  refine o_boxA rfl rfl rfl rfl rfl (fun b3 => ?_)
  refine o_alloc rfl inf29 rfl rfl rfl rfl rfl (fun b6 => ?_)
  refine o_alloc rfl inf30 rfl rfl rfl rfl rfl (fun b7 => ?_)
  refine o_nil ?_
  repeat (first | with_reducible refine r_then ?_ | with_reducible refine r_in_normal ?_ | with_reducible refine r_sc_normal ?_)
  refine r_seq ?_
  refine r_region ?_
  refine o_defer rfl rfl rfl rfl ?_
  refine o_nil ?_
  repeat (first | with_reducible refine r_then ?_ | with_reducible refine r_in_normal ?_ | with_reducible refine r_sc_normal ?_)
  refine r_seq ?_
  refine r_par' 12 mixed (by kernel_rfl) (by rfl) ?_
  first | refine p_q _ rfl rfl rfl (fun _ _ => v_ldW rfl Tryd.underlying25 rfl inf25 rfl rfl) ?_ | refine p_q _ rfl rfl rfl (fun _ _ => v_lfW rfl Tryd.underlying25 rfl inf25 rfl rfl) ?_ | refine p_q _ rfl rfl rfl (fun _ _ => v_lfN rfl Tryd.underlying25 rfl inf25 rfl rfl rfl) ?_ | refine p_q _ rfl rfl rfl (fun _ _ => v_ldN rfl Tryd.underlying25 rfl inf25 rfl rfl rfl) ?_ | refine p_q _ rfl rfl rfl (fun _ _ => v_loadEN rfl Tryd.underlying25 rfl inf25 rfl (by omega) rfl rfl rfl) ?_
  first | refine p_q _ rfl rfl rfl (fun _ _ => v_ldW rfl Tryd.underlying25 rfl inf25 rfl rfl) ?_ | refine p_q _ rfl rfl rfl (fun _ _ => v_lfW rfl Tryd.underlying25 rfl inf25 rfl rfl) ?_ | refine p_q _ rfl rfl rfl (fun _ _ => v_lfN rfl Tryd.underlying25 rfl inf25 rfl rfl rfl) ?_ | refine p_q _ rfl rfl rfl (fun _ _ => v_ldN rfl Tryd.underlying25 rfl inf25 rfl rfl rfl) ?_ | refine p_q _ rfl rfl rfl (fun _ _ => v_loadEN rfl Tryd.underlying25 rfl inf25 rfl (by omega) rfl rfl rfl) ?_
  refine p_q _ rfl rfl rfl (fun _ _ => v_move rfl rfl) ?_
  refine p_q _ rfl rfl rfl (fun _ _ => v_cast (v := .bool true) (OpQ.fn (isWho_v D uo po uc pc who) rfl rfl SubRC.sub) (congrArg Value.bool h1)) ?_
  refine p_q _ rfl rfl rfl (fun _ _ => v_move rfl rfl) ?_
  first | refine p_gn rfl rfl rfl rfl ?_ | refine p_g _ rfl rfl rfl rfl (fun _ _ => v_move rfl rfl) ?_
  first | refine p_gn rfl rfl rfl rfl ?_ | refine p_g _ rfl rfl rfl rfl (fun _ _ => v_cast (v := .bool true) (OpQ.fn (isDay_v _) rfl rfl SubRC.sub) (congrArg Value.bool h2)) ?_
  first | refine p_q _ rfl rfl rfl (fun _ _ => v_pick_t rfl rfl rfl) ?_ | refine p_q _ rfl rfl rfl (fun _ _ => v_pick_f rfl rfl rfl) ?_
  refine p_openL 11 (look_ok D uo po uc pc hl1 hl2 hg) rfl rfl rfl rfl rfl SubRC.sub ?_
  refine p_q _ rfl rfl rfl (fun _ _ => v_move rfl rfl) ?_
  refine p_q _ rfl rfl rfl (fun _ _ => v_move rfl rfl) ?_
  refine p_acc (by simp only [List.nil_append, List.cons_append]; rfl) ?_
  refine p_takeN 8 (led_left D uo po uc pc who dn hg hwb hdn) rfl rfl rfl (fun b => rfl) rfl (by kernel_rfl) rfl rfl rfl SubRC.sub ?_
  refine p_nil2 (by simp only [List.nil_append, List.cons_append]; rfl) rfl ?_ (by kernel_rfl)
  refine f_q rfl ?_
  refine f_q rfl ?_
  refine f_q rfl ?_
  refine f_q rfl ?_
  refine f_q rfl ?_
  refine f_q rfl ?_
  refine f_q rfl ?_
  refine f_q rfl ?_
  refine f_openL rfl (fun b16 => ?_)
  refine f_q rfl ?_
  refine f_q rfl ?_
  refine f_take rfl ?_
  refine f_nil ?_
  refine o_st rfl inf29 rfl rfl rfl rfl rfl rfl rfl rfl ?_
  refine o_st rfl inf30 rfl rfl rfl rfl rfl rfl rfl rfl ?_
  refine o_nil ?_
  repeat (first | with_reducible refine r_then ?_ | with_reducible refine r_in_normal ?_ | with_reducible refine r_sc_normal ?_)
  refine r_ret ?_
  repeat (first | with_reducible refine r_then_ret ?_ | with_reducible refine r_in_ret ?_ | with_reducible refine r_sc_ret ?_)
  exact d_retv answer_ans (Rd.two rfl (RdI.cellW Tryd.underlying29 rfl inf29 rfl rfl) (RdI.cell1 Tryd.underlying30 rfl rfl rfl)) (by rw [leftB, ansD_0 (chkD_0 hg (okT h1 h2)), Int.toNat_natCast]; try rfl) SelMC.sel SubRC.sub
theorem left14_v (who d : Int) (hl1 : D.dues.length ≤ 40) (hl2 : D.paid.length ≤ 40) : FnV Tryd.prog 14 [valD D uo po uc pc, i64 who, i64 d] [rowD uo 5 encD D.dues, rowD po 4 encP D.paid, rowD (some ⟨0, 0, none⟩) 1 encE ([0, 1] : List Nat)] (.tuple #[vS (leftB D who d).1, i64 (leftB D who d).2]) := by
  by_cases hg : GoodD D
  · cases h1 : isW D who
    · exact left14_x2a D uo po uc pc who d hl1 hl2 hg h1
    · cases h2 : isDy d
      · exact left14_x2b D uo po uc pc who d hl1 hl2 hg h1 h2
      · exact left14_ok D uo po uc pc who d hl1 hl2 hg h1 h2
  · cases h1 : isW D who
    · exact left14_x1a D uo po uc pc who d hl1 hl2 hg h1
    · exact left14_x1b D uo po uc pc who d hl1 hl2 hg h1
set_option maxHeartbeats 4000000 in
theorem need22_x1a (who d : Int) (hl1 : D.dues.length ≤ 40) (hl2 : D.paid.length ≤ 40) (hng : ¬ GoodD D) (h1 : isW D who = false) : FnV Tryd.prog 22 [valD D uo po uc pc, i64 who, i64 d] [rowD uo 5 encD D.dues, rowD po 4 encP D.paid, rowD (some ⟨0, 0, none⟩) 1 encE ([0, 1] : List Nat)] (.tuple #[i64 (needB D who d).1, i64 (needB D who d).2]) := by
  refine FnV.introD Tryd.call22 Tryd.func22 rfl Tryd.ntmps22 rfl ?_
  intro W M Rf
  refine r_seq ?_
  refine r_region ?_
  refine o_boxA rfl rfl rfl rfl rfl (fun b3 => ?_)
  refine o_q _ rfl rfl rfl (v_assign rfl rfl) ?_
  refine o_alloc rfl inf30 rfl rfl rfl rfl rfl (fun b7 => ?_)
  refine o_nil ?_
  repeat (first | with_reducible refine r_then ?_ | with_reducible refine r_in_normal ?_ | with_reducible refine r_sc_normal ?_)
  refine r_seq ?_
  refine r_region ?_
  refine o_defer rfl rfl rfl rfl ?_
  refine o_nil ?_
  repeat (first | with_reducible refine r_then ?_ | with_reducible refine r_in_normal ?_ | with_reducible refine r_sc_normal ?_)
  refine r_seq ?_
  refine r_parX 11 mixed (by kernel_rfl) (by rfl) ?_
  first | refine p_q _ rfl rfl rfl (fun _ _ => v_ldW rfl Tryd.underlying25 rfl inf25 rfl rfl) ?_ | refine p_q _ rfl rfl rfl (fun _ _ => v_lfW rfl Tryd.underlying25 rfl inf25 rfl rfl) ?_ | refine p_q _ rfl rfl rfl (fun _ _ => v_lfN rfl Tryd.underlying25 rfl inf25 rfl rfl rfl) ?_ | refine p_q _ rfl rfl rfl (fun _ _ => v_ldN rfl Tryd.underlying25 rfl inf25 rfl rfl rfl) ?_ | refine p_q _ rfl rfl rfl (fun _ _ => v_loadEN rfl Tryd.underlying25 rfl inf25 rfl (by omega) rfl rfl rfl) ?_
  first | refine p_q _ rfl rfl rfl (fun _ _ => v_ldW rfl Tryd.underlying25 rfl inf25 rfl rfl) ?_ | refine p_q _ rfl rfl rfl (fun _ _ => v_lfW rfl Tryd.underlying25 rfl inf25 rfl rfl) ?_ | refine p_q _ rfl rfl rfl (fun _ _ => v_lfN rfl Tryd.underlying25 rfl inf25 rfl rfl rfl) ?_ | refine p_q _ rfl rfl rfl (fun _ _ => v_ldN rfl Tryd.underlying25 rfl inf25 rfl rfl rfl) ?_ | refine p_q _ rfl rfl rfl (fun _ _ => v_loadEN rfl Tryd.underlying25 rfl inf25 rfl (by omega) rfl rfl rfl) ?_
  refine p_q _ rfl rfl rfl (fun _ _ => v_move rfl rfl) ?_
  refine p_q _ rfl rfl rfl (fun _ _ => v_cast (v := .bool false) (OpQ.fn (isWho_v D uo po uc pc who) rfl rfl SubRC.sub) (congrArg Value.bool h1)) ?_
  refine p_q _ rfl rfl rfl (fun _ _ => v_move rfl rfl) ?_
  first | refine p_gn rfl rfl rfl rfl ?_ | refine p_g _ rfl rfl rfl rfl (fun _ _ => v_move rfl rfl) ?_
  first | refine p_gn rfl rfl rfl rfl ?_ | refine p_g _ rfl rfl rfl rfl (fun _ _ => OpQ.fn (isDay_v d) rfl rfl SubRC.sub) ?_
  first | refine p_q _ rfl rfl rfl (fun _ _ => v_pick_t rfl rfl rfl) ?_ | refine p_q _ rfl rfl rfl (fun _ _ => v_pick_f rfl rfl rfl) ?_
  refine p_deadX (look_x1 D uo po uc pc _ hl1 hl2 hng) rfl rfl rfl rfl rfl SubRC.sub ?_
  refine p_q _ rfl rfl rfl (fun _ _ => v_move rfl rfl) ?_
  refine p_q _ rfl rfl rfl (fun _ _ => v_move rfl rfl) ?_
  refine p_nilX (panOf (.iface 103 (i64 1))) (by simp only [List.nil_append, List.cons_append]; rfl) rfl (by kernel_rfl) rfl ?_ ?_
  ·
    repeat (first | with_reducible refine r_then_panic ?_ | with_reducible refine r_in_panic ?_ | with_reducible refine r_sc_panic ?_)
    exact d_panv answer_ans (Rd.two rfl (RdI.tmp rfl) (RdI.cell1 Tryd.underlying30 rfl rfl rfl)) (by rw [needB, ansD_n (chkD_1 hng) (by decide)]; try rfl) SelMC.sel SubRC.sub
  ·
    refine f_q rfl ?_
    refine f_q rfl ?_
    refine f_q rfl ?_
    refine f_q rfl ?_
    refine f_q rfl ?_
    refine f_q rfl ?_
    refine f_q rfl ?_
    refine f_q rfl ?_
    exact f_dead
set_option maxHeartbeats 4000000 in
theorem need22_x1b (who d : Int) (hl1 : D.dues.length ≤ 40) (hl2 : D.paid.length ≤ 40) (hng : ¬ GoodD D) (h1 : isW D who = true) : FnV Tryd.prog 22 [valD D uo po uc pc, i64 who, i64 d] [rowD uo 5 encD D.dues, rowD po 4 encP D.paid, rowD (some ⟨0, 0, none⟩) 1 encE ([0, 1] : List Nat)] (.tuple #[i64 (needB D who d).1, i64 (needB D who d).2]) := by
  refine FnV.introD Tryd.call22 Tryd.func22 rfl Tryd.ntmps22 rfl ?_
  intro W M Rf
  refine r_seq ?_
  refine r_region ?_
  refine o_boxA rfl rfl rfl rfl rfl (fun b3 => ?_)
  refine o_q _ rfl rfl rfl (v_assign rfl rfl) ?_
  refine o_alloc rfl inf30 rfl rfl rfl rfl rfl (fun b7 => ?_)
  refine o_nil ?_
  repeat (first | with_reducible refine r_then ?_ | with_reducible refine r_in_normal ?_ | with_reducible refine r_sc_normal ?_)
  refine r_seq ?_
  refine r_region ?_
  refine o_defer rfl rfl rfl rfl ?_
  refine o_nil ?_
  repeat (first | with_reducible refine r_then ?_ | with_reducible refine r_in_normal ?_ | with_reducible refine r_sc_normal ?_)
  refine r_seq ?_
  refine r_parX 11 mixed (by kernel_rfl) (by rfl) ?_
  first | refine p_q _ rfl rfl rfl (fun _ _ => v_ldW rfl Tryd.underlying25 rfl inf25 rfl rfl) ?_ | refine p_q _ rfl rfl rfl (fun _ _ => v_lfW rfl Tryd.underlying25 rfl inf25 rfl rfl) ?_ | refine p_q _ rfl rfl rfl (fun _ _ => v_lfN rfl Tryd.underlying25 rfl inf25 rfl rfl rfl) ?_ | refine p_q _ rfl rfl rfl (fun _ _ => v_ldN rfl Tryd.underlying25 rfl inf25 rfl rfl rfl) ?_ | refine p_q _ rfl rfl rfl (fun _ _ => v_loadEN rfl Tryd.underlying25 rfl inf25 rfl (by omega) rfl rfl rfl) ?_
  first | refine p_q _ rfl rfl rfl (fun _ _ => v_ldW rfl Tryd.underlying25 rfl inf25 rfl rfl) ?_ | refine p_q _ rfl rfl rfl (fun _ _ => v_lfW rfl Tryd.underlying25 rfl inf25 rfl rfl) ?_ | refine p_q _ rfl rfl rfl (fun _ _ => v_lfN rfl Tryd.underlying25 rfl inf25 rfl rfl rfl) ?_ | refine p_q _ rfl rfl rfl (fun _ _ => v_ldN rfl Tryd.underlying25 rfl inf25 rfl rfl rfl) ?_ | refine p_q _ rfl rfl rfl (fun _ _ => v_loadEN rfl Tryd.underlying25 rfl inf25 rfl (by omega) rfl rfl rfl) ?_
  refine p_q _ rfl rfl rfl (fun _ _ => v_move rfl rfl) ?_
  refine p_q _ rfl rfl rfl (fun _ _ => v_cast (v := .bool true) (OpQ.fn (isWho_v D uo po uc pc who) rfl rfl SubRC.sub) (congrArg Value.bool h1)) ?_
  refine p_q _ rfl rfl rfl (fun _ _ => v_move rfl rfl) ?_
  first | refine p_gn rfl rfl rfl rfl ?_ | refine p_g _ rfl rfl rfl rfl (fun _ _ => v_move rfl rfl) ?_
  first | refine p_gn rfl rfl rfl rfl ?_ | refine p_g _ rfl rfl rfl rfl (fun _ _ => OpQ.fn (isDay_v d) rfl rfl SubRC.sub) ?_
  first | refine p_q _ rfl rfl rfl (fun _ _ => v_pick_t rfl rfl rfl) ?_ | refine p_q _ rfl rfl rfl (fun _ _ => v_pick_f rfl rfl rfl) ?_
  refine p_deadX (look_x1 D uo po uc pc _ hl1 hl2 hng) rfl rfl rfl rfl rfl SubRC.sub ?_
  refine p_q _ rfl rfl rfl (fun _ _ => v_move rfl rfl) ?_
  refine p_q _ rfl rfl rfl (fun _ _ => v_move rfl rfl) ?_
  refine p_nilX (panOf (.iface 103 (i64 1))) (by simp only [List.nil_append, List.cons_append]; rfl) rfl (by kernel_rfl) rfl ?_ ?_
  ·
    repeat (first | with_reducible refine r_then_panic ?_ | with_reducible refine r_in_panic ?_ | with_reducible refine r_sc_panic ?_)
    exact d_panv answer_ans (Rd.two rfl (RdI.tmp rfl) (RdI.cell1 Tryd.underlying30 rfl rfl rfl)) (by rw [needB, ansD_n (chkD_1 hng) (by decide)]; try rfl) SelMC.sel SubRC.sub
  ·
    refine f_q rfl ?_
    refine f_q rfl ?_
    refine f_q rfl ?_
    refine f_q rfl ?_
    refine f_q rfl ?_
    refine f_q rfl ?_
    refine f_q rfl ?_
    refine f_q rfl ?_
    exact f_dead
set_option maxHeartbeats 4000000 in
theorem need22_x2a (who d : Int) (hl1 : D.dues.length ≤ 40) (hl2 : D.paid.length ≤ 40) (hg : GoodD D) (h1 : isW D who = false) : FnV Tryd.prog 22 [valD D uo po uc pc, i64 who, i64 d] [rowD uo 5 encD D.dues, rowD po 4 encP D.paid, rowD (some ⟨0, 0, none⟩) 1 encE ([0, 1] : List Nat)] (.tuple #[i64 (needB D who d).1, i64 (needB D who d).2]) := by
  refine FnV.introD Tryd.call22 Tryd.func22 rfl Tryd.ntmps22 rfl ?_
  intro W M Rf
  refine r_seq ?_
  refine r_region ?_
  refine o_boxA rfl rfl rfl rfl rfl (fun b3 => ?_)
  refine o_q _ rfl rfl rfl (v_assign rfl rfl) ?_
  refine o_alloc rfl inf30 rfl rfl rfl rfl rfl (fun b7 => ?_)
  refine o_nil ?_
  repeat (first | with_reducible refine r_then ?_ | with_reducible refine r_in_normal ?_ | with_reducible refine r_sc_normal ?_)
  refine r_seq ?_
  refine r_region ?_
  refine o_defer rfl rfl rfl rfl ?_
  refine o_nil ?_
  repeat (first | with_reducible refine r_then ?_ | with_reducible refine r_in_normal ?_ | with_reducible refine r_sc_normal ?_)
  refine r_seq ?_
  refine r_parX 11 mixed (by kernel_rfl) (by rfl) ?_
  first | refine p_q _ rfl rfl rfl (fun _ _ => v_ldW rfl Tryd.underlying25 rfl inf25 rfl rfl) ?_ | refine p_q _ rfl rfl rfl (fun _ _ => v_lfW rfl Tryd.underlying25 rfl inf25 rfl rfl) ?_ | refine p_q _ rfl rfl rfl (fun _ _ => v_lfN rfl Tryd.underlying25 rfl inf25 rfl rfl rfl) ?_ | refine p_q _ rfl rfl rfl (fun _ _ => v_ldN rfl Tryd.underlying25 rfl inf25 rfl rfl rfl) ?_ | refine p_q _ rfl rfl rfl (fun _ _ => v_loadEN rfl Tryd.underlying25 rfl inf25 rfl (by omega) rfl rfl rfl) ?_
  first | refine p_q _ rfl rfl rfl (fun _ _ => v_ldW rfl Tryd.underlying25 rfl inf25 rfl rfl) ?_ | refine p_q _ rfl rfl rfl (fun _ _ => v_lfW rfl Tryd.underlying25 rfl inf25 rfl rfl) ?_ | refine p_q _ rfl rfl rfl (fun _ _ => v_lfN rfl Tryd.underlying25 rfl inf25 rfl rfl rfl) ?_ | refine p_q _ rfl rfl rfl (fun _ _ => v_ldN rfl Tryd.underlying25 rfl inf25 rfl rfl rfl) ?_ | refine p_q _ rfl rfl rfl (fun _ _ => v_loadEN rfl Tryd.underlying25 rfl inf25 rfl (by omega) rfl rfl rfl) ?_
  refine p_q _ rfl rfl rfl (fun _ _ => v_move rfl rfl) ?_
  refine p_q _ rfl rfl rfl (fun _ _ => v_cast (v := .bool false) (OpQ.fn (isWho_v D uo po uc pc who) rfl rfl SubRC.sub) (congrArg Value.bool h1)) ?_
  refine p_q _ rfl rfl rfl (fun _ _ => v_move rfl rfl) ?_
  first | refine p_gn rfl rfl rfl rfl ?_ | refine p_g _ rfl rfl rfl rfl (fun _ _ => v_move rfl rfl) ?_
  first | refine p_gn rfl rfl rfl rfl ?_ | refine p_g _ rfl rfl rfl rfl (fun _ _ => OpQ.fn (isDay_v d) rfl rfl SubRC.sub) ?_
  first | refine p_q _ rfl rfl rfl (fun _ _ => v_pick_t rfl rfl rfl) ?_ | refine p_q _ rfl rfl rfl (fun _ _ => v_pick_f rfl rfl rfl) ?_
  refine p_deadX (look_x2 D uo po uc pc hl1 hl2 hg) rfl rfl rfl rfl rfl SubRC.sub ?_
  refine p_q _ rfl rfl rfl (fun _ _ => v_move rfl rfl) ?_
  refine p_q _ rfl rfl rfl (fun _ _ => v_move rfl rfl) ?_
  refine p_nilX (panOf (.iface 103 (i64 2))) (by simp only [List.nil_append, List.cons_append]; rfl) rfl (by kernel_rfl) rfl ?_ ?_
  ·
    repeat (first | with_reducible refine r_then_panic ?_ | with_reducible refine r_in_panic ?_ | with_reducible refine r_sc_panic ?_)
    exact d_panv answer_ans (Rd.two rfl (RdI.tmp rfl) (RdI.cell1 Tryd.underlying30 rfl rfl rfl)) (by rw [needB, ansD_n (chkD_2 hg (okF1 h1)) (by decide)]; try rfl) SelMC.sel SubRC.sub
  ·
    refine f_q rfl ?_
    refine f_q rfl ?_
    refine f_q rfl ?_
    refine f_q rfl ?_
    refine f_q rfl ?_
    refine f_q rfl ?_
    refine f_q rfl ?_
    refine f_q rfl ?_
    exact f_dead
set_option maxHeartbeats 4000000 in
theorem need22_x2b (who d : Int) (hl1 : D.dues.length ≤ 40) (hl2 : D.paid.length ≤ 40) (hg : GoodD D) (h1 : isW D who = true) (h2 : isDy d = false) : FnV Tryd.prog 22 [valD D uo po uc pc, i64 who, i64 d] [rowD uo 5 encD D.dues, rowD po 4 encP D.paid, rowD (some ⟨0, 0, none⟩) 1 encE ([0, 1] : List Nat)] (.tuple #[i64 (needB D who d).1, i64 (needB D who d).2]) := by
  refine FnV.introD Tryd.call22 Tryd.func22 rfl Tryd.ntmps22 rfl ?_
  intro W M Rf
  refine r_seq ?_
  refine r_region ?_
  refine o_boxA rfl rfl rfl rfl rfl (fun b3 => ?_)
  refine o_q _ rfl rfl rfl (v_assign rfl rfl) ?_
  refine o_alloc rfl inf30 rfl rfl rfl rfl rfl (fun b7 => ?_)
  refine o_nil ?_
  repeat (first | with_reducible refine r_then ?_ | with_reducible refine r_in_normal ?_ | with_reducible refine r_sc_normal ?_)
  refine r_seq ?_
  refine r_region ?_
  refine o_defer rfl rfl rfl rfl ?_
  refine o_nil ?_
  repeat (first | with_reducible refine r_then ?_ | with_reducible refine r_in_normal ?_ | with_reducible refine r_sc_normal ?_)
  refine r_seq ?_
  refine r_parX 11 mixed (by kernel_rfl) (by rfl) ?_
  first | refine p_q _ rfl rfl rfl (fun _ _ => v_ldW rfl Tryd.underlying25 rfl inf25 rfl rfl) ?_ | refine p_q _ rfl rfl rfl (fun _ _ => v_lfW rfl Tryd.underlying25 rfl inf25 rfl rfl) ?_ | refine p_q _ rfl rfl rfl (fun _ _ => v_lfN rfl Tryd.underlying25 rfl inf25 rfl rfl rfl) ?_ | refine p_q _ rfl rfl rfl (fun _ _ => v_ldN rfl Tryd.underlying25 rfl inf25 rfl rfl rfl) ?_ | refine p_q _ rfl rfl rfl (fun _ _ => v_loadEN rfl Tryd.underlying25 rfl inf25 rfl (by omega) rfl rfl rfl) ?_
  first | refine p_q _ rfl rfl rfl (fun _ _ => v_ldW rfl Tryd.underlying25 rfl inf25 rfl rfl) ?_ | refine p_q _ rfl rfl rfl (fun _ _ => v_lfW rfl Tryd.underlying25 rfl inf25 rfl rfl) ?_ | refine p_q _ rfl rfl rfl (fun _ _ => v_lfN rfl Tryd.underlying25 rfl inf25 rfl rfl rfl) ?_ | refine p_q _ rfl rfl rfl (fun _ _ => v_ldN rfl Tryd.underlying25 rfl inf25 rfl rfl rfl) ?_ | refine p_q _ rfl rfl rfl (fun _ _ => v_loadEN rfl Tryd.underlying25 rfl inf25 rfl (by omega) rfl rfl rfl) ?_
  refine p_q _ rfl rfl rfl (fun _ _ => v_move rfl rfl) ?_
  refine p_q _ rfl rfl rfl (fun _ _ => v_cast (v := .bool true) (OpQ.fn (isWho_v D uo po uc pc who) rfl rfl SubRC.sub) (congrArg Value.bool h1)) ?_
  refine p_q _ rfl rfl rfl (fun _ _ => v_move rfl rfl) ?_
  first | refine p_gn rfl rfl rfl rfl ?_ | refine p_g _ rfl rfl rfl rfl (fun _ _ => v_move rfl rfl) ?_
  first | refine p_gn rfl rfl rfl rfl ?_ | refine p_g _ rfl rfl rfl rfl (fun _ _ => v_cast (v := .bool false) (OpQ.fn (isDay_v d) rfl rfl SubRC.sub) (congrArg Value.bool h2)) ?_
  first | refine p_q _ rfl rfl rfl (fun _ _ => v_pick_t rfl rfl rfl) ?_ | refine p_q _ rfl rfl rfl (fun _ _ => v_pick_f rfl rfl rfl) ?_
  refine p_deadX (look_x2 D uo po uc pc hl1 hl2 hg) rfl rfl rfl rfl rfl SubRC.sub ?_
  refine p_q _ rfl rfl rfl (fun _ _ => v_move rfl rfl) ?_
  refine p_q _ rfl rfl rfl (fun _ _ => v_move rfl rfl) ?_
  refine p_nilX (panOf (.iface 103 (i64 2))) (by simp only [List.nil_append, List.cons_append]; rfl) rfl (by kernel_rfl) rfl ?_ ?_
  ·
    repeat (first | with_reducible refine r_then_panic ?_ | with_reducible refine r_in_panic ?_ | with_reducible refine r_sc_panic ?_)
    exact d_panv answer_ans (Rd.two rfl (RdI.tmp rfl) (RdI.cell1 Tryd.underlying30 rfl rfl rfl)) (by rw [needB, ansD_n (chkD_2 hg (okF2 h2)) (by decide)]; try rfl) SelMC.sel SubRC.sub
  ·
    refine f_q rfl ?_
    refine f_q rfl ?_
    refine f_q rfl ?_
    refine f_q rfl ?_
    refine f_q rfl ?_
    refine f_q rfl ?_
    refine f_q rfl ?_
    refine f_q rfl ?_
    exact f_dead
set_option maxHeartbeats 4000000 in
theorem need22_ok (who d : Int) (hl1 : D.dues.length ≤ 40) (hl2 : D.paid.length ≤ 40) (hg : GoodD D) (h1 : isW D who = true) (h2 : isDy d = true) : FnV Tryd.prog 22 [valD D uo po uc pc, i64 who, i64 d] [rowD uo 5 encD D.dues, rowD po 4 encP D.paid, rowD (some ⟨0, 0, none⟩) 1 encE ([0, 1] : List Nat)] (.tuple #[i64 (needB D who d).1, i64 (needB D who d).2]) := by
  obtain ⟨dn, rfl⟩ : ∃ n : Nat, d = n := ⟨d.toNat, by have := of_decide_eq_true h2; omega⟩
  have hd := of_decide_eq_true h2
  have hq1 := hg.np
  have hwr : IntKind.i64.wrap (D.people - 1) = D.people - 1 := IntWalk.i64_in _ (by omega)
  have hwh := of_decide_eq_true h1
  have hdn : dn ≤ 30 := by omega
  have hwb : -1000 ≤ who ∧ who ≤ 1000 := by omega
  refine FnV.introD Tryd.call22 Tryd.func22 rfl Tryd.ntmps22 rfl ?_
  intro W M Rf
  refine r_seq ?_
  refine r_region ?_
  refine o_boxA rfl rfl rfl rfl rfl (fun b3 => ?_)
  refine o_q _ rfl rfl rfl (v_assign rfl rfl) ?_
  refine o_alloc rfl inf30 rfl rfl rfl rfl rfl (fun b7 => ?_)
  refine o_nil ?_
  repeat (first | with_reducible refine r_then ?_ | with_reducible refine r_in_normal ?_ | with_reducible refine r_sc_normal ?_)
  refine r_seq ?_
  refine r_region ?_
  refine o_defer rfl rfl rfl rfl ?_
  refine o_nil ?_
  repeat (first | with_reducible refine r_then ?_ | with_reducible refine r_in_normal ?_ | with_reducible refine r_sc_normal ?_)
  refine r_seq ?_
  refine r_par' 12 mixed (by kernel_rfl) (by rfl) ?_
  first | refine p_q _ rfl rfl rfl (fun _ _ => v_ldW rfl Tryd.underlying25 rfl inf25 rfl rfl) ?_ | refine p_q _ rfl rfl rfl (fun _ _ => v_lfW rfl Tryd.underlying25 rfl inf25 rfl rfl) ?_ | refine p_q _ rfl rfl rfl (fun _ _ => v_lfN rfl Tryd.underlying25 rfl inf25 rfl rfl rfl) ?_ | refine p_q _ rfl rfl rfl (fun _ _ => v_ldN rfl Tryd.underlying25 rfl inf25 rfl rfl rfl) ?_ | refine p_q _ rfl rfl rfl (fun _ _ => v_loadEN rfl Tryd.underlying25 rfl inf25 rfl (by omega) rfl rfl rfl) ?_
  first | refine p_q _ rfl rfl rfl (fun _ _ => v_ldW rfl Tryd.underlying25 rfl inf25 rfl rfl) ?_ | refine p_q _ rfl rfl rfl (fun _ _ => v_lfW rfl Tryd.underlying25 rfl inf25 rfl rfl) ?_ | refine p_q _ rfl rfl rfl (fun _ _ => v_lfN rfl Tryd.underlying25 rfl inf25 rfl rfl rfl) ?_ | refine p_q _ rfl rfl rfl (fun _ _ => v_ldN rfl Tryd.underlying25 rfl inf25 rfl rfl rfl) ?_ | refine p_q _ rfl rfl rfl (fun _ _ => v_loadEN rfl Tryd.underlying25 rfl inf25 rfl (by omega) rfl rfl rfl) ?_
  refine p_q _ rfl rfl rfl (fun _ _ => v_move rfl rfl) ?_
  refine p_q _ rfl rfl rfl (fun _ _ => v_cast (v := .bool true) (OpQ.fn (isWho_v D uo po uc pc who) rfl rfl SubRC.sub) (congrArg Value.bool h1)) ?_
  refine p_q _ rfl rfl rfl (fun _ _ => v_move rfl rfl) ?_
  first | refine p_gn rfl rfl rfl rfl ?_ | refine p_g _ rfl rfl rfl rfl (fun _ _ => v_move rfl rfl) ?_
  first | refine p_gn rfl rfl rfl rfl ?_ | refine p_g _ rfl rfl rfl rfl (fun _ _ => v_cast (v := .bool true) (OpQ.fn (isDay_v _) rfl rfl SubRC.sub) (congrArg Value.bool h2)) ?_
  first | refine p_q _ rfl rfl rfl (fun _ _ => v_pick_t rfl rfl rfl) ?_ | refine p_q _ rfl rfl rfl (fun _ _ => v_pick_f rfl rfl rfl) ?_
  refine p_openL 11 (look_ok D uo po uc pc hl1 hl2 hg) rfl rfl rfl rfl rfl SubRC.sub ?_
  refine p_q _ rfl rfl rfl (fun _ _ => v_move rfl rfl) ?_
  refine p_q _ rfl rfl rfl (fun _ _ => v_move rfl rfl) ?_
  refine p_acc (by simp only [List.nil_append, List.cons_append]; rfl) ?_
  refine p_takeN 8 (led_need D uo po uc pc who dn hg hwb hdn) rfl rfl rfl (fun b => rfl) rfl (by kernel_rfl) rfl rfl rfl SubRC.sub ?_
  refine p_nil2 (by simp only [List.nil_append, List.cons_append]; rfl) rfl ?_ (by kernel_rfl)
  refine f_q rfl ?_
  refine f_q rfl ?_
  refine f_q rfl ?_
  refine f_q rfl ?_
  refine f_q rfl ?_
  refine f_q rfl ?_
  refine f_q rfl ?_
  refine f_q rfl ?_
  refine f_openL rfl (fun b16 => ?_)
  refine f_q rfl ?_
  refine f_q rfl ?_
  refine f_take rfl ?_
  refine f_nil ?_
  refine o_q _ rfl rfl rfl (v_assign rfl rfl) ?_
  refine o_st rfl inf30 rfl rfl rfl rfl rfl rfl rfl rfl ?_
  refine o_nil ?_
  repeat (first | with_reducible refine r_then ?_ | with_reducible refine r_in_normal ?_ | with_reducible refine r_sc_normal ?_)
  refine r_ret ?_
  repeat (first | with_reducible refine r_then_ret ?_ | with_reducible refine r_in_ret ?_ | with_reducible refine r_sc_ret ?_)
  exact d_retv answer_ans (Rd.two rfl (RdI.tmp rfl) (RdI.cell1 Tryd.underlying30 rfl rfl rfl)) (by rw [needB, ansD_0 (chkD_0 hg (okT h1 h2)), Int.toNat_natCast]; try rfl) SelMC.sel SubRC.sub
theorem need22_v (who d : Int) (hl1 : D.dues.length ≤ 40) (hl2 : D.paid.length ≤ 40) : FnV Tryd.prog 22 [valD D uo po uc pc, i64 who, i64 d] [rowD uo 5 encD D.dues, rowD po 4 encP D.paid, rowD (some ⟨0, 0, none⟩) 1 encE ([0, 1] : List Nat)] (.tuple #[i64 (needB D who d).1, i64 (needB D who d).2]) := by
  by_cases hg : GoodD D
  · cases h1 : isW D who
    · exact need22_x2a D uo po uc pc who d hl1 hl2 hg h1
    · cases h2 : isDy d
      · exact need22_x2b D uo po uc pc who d hl1 hl2 hg h1 h2
      · exact need22_ok D uo po uc pc who d hl1 hl2 hg h1 h2
  · cases h1 : isW D who
    · exact need22_x1a D uo po uc pc who d hl1 hl2 hg h1
    · exact need22_x1b D uo po uc pc who d hl1 hl2 hg h1
set_option maxHeartbeats 4000000 in
theorem setl18_x1a (who d : Int) (hl1 : D.dues.length ≤ 40) (hl2 : D.paid.length ≤ 40) (hng : ¬ GoodD D) (h1 : isW D who = false) : FnV Tryd.prog 18 [valD D uo po uc pc, i64 who, i64 d] [rowD uo 5 encD D.dues, rowD po 4 encP D.paid, rowD (some ⟨0, 0, none⟩) 1 encE ([0, 1] : List Nat)] (.tuple #[i64 (setlB D who d).1, i64 (setlB D who d).2]) := by
  refine FnV.introD Tryd.call18 Tryd.func18 rfl Tryd.ntmps18 rfl ?_
  intro W M Rf
  refine r_seq ?_
  refine r_region ?_
  refine o_boxA rfl rfl rfl rfl rfl (fun b3 => ?_)
  refine o_q _ rfl rfl rfl (v_assign rfl rfl) ?_
  refine o_alloc rfl inf30 rfl rfl rfl rfl rfl (fun b7 => ?_)
  refine o_nil ?_
  repeat (first | with_reducible refine r_then ?_ | with_reducible refine r_in_normal ?_ | with_reducible refine r_sc_normal ?_)
  refine r_seq ?_
  refine r_region ?_
  refine o_defer rfl rfl rfl rfl ?_
  refine o_nil ?_
  repeat (first | with_reducible refine r_then ?_ | with_reducible refine r_in_normal ?_ | with_reducible refine r_sc_normal ?_)
  refine r_seq ?_
  refine r_parX 13 mixed (by kernel_rfl) (by rfl) ?_
  first | refine p_q _ rfl rfl rfl (fun _ _ => v_ldW rfl Tryd.underlying25 rfl inf25 rfl rfl) ?_ | refine p_q _ rfl rfl rfl (fun _ _ => v_lfW rfl Tryd.underlying25 rfl inf25 rfl rfl) ?_ | refine p_q _ rfl rfl rfl (fun _ _ => v_lfN rfl Tryd.underlying25 rfl inf25 rfl rfl rfl) ?_ | refine p_q _ rfl rfl rfl (fun _ _ => v_ldN rfl Tryd.underlying25 rfl inf25 rfl rfl rfl) ?_ | refine p_q _ rfl rfl rfl (fun _ _ => v_loadEN rfl Tryd.underlying25 rfl inf25 rfl (by omega) rfl rfl rfl) ?_
  first | refine p_q _ rfl rfl rfl (fun _ _ => v_ldW rfl Tryd.underlying25 rfl inf25 rfl rfl) ?_ | refine p_q _ rfl rfl rfl (fun _ _ => v_lfW rfl Tryd.underlying25 rfl inf25 rfl rfl) ?_ | refine p_q _ rfl rfl rfl (fun _ _ => v_lfN rfl Tryd.underlying25 rfl inf25 rfl rfl rfl) ?_ | refine p_q _ rfl rfl rfl (fun _ _ => v_ldN rfl Tryd.underlying25 rfl inf25 rfl rfl rfl) ?_ | refine p_q _ rfl rfl rfl (fun _ _ => v_loadEN rfl Tryd.underlying25 rfl inf25 rfl (by omega) rfl rfl rfl) ?_
  refine p_q _ rfl rfl rfl (fun _ _ => v_move rfl rfl) ?_
  refine p_q _ rfl rfl rfl (fun _ _ => v_cast (v := .bool false) (OpQ.fn (isWho_v D uo po uc pc who) rfl rfl SubRC.sub) (congrArg Value.bool h1)) ?_
  refine p_q _ rfl rfl rfl (fun _ _ => v_move rfl rfl) ?_
  first | refine p_gn rfl rfl rfl rfl ?_ | refine p_g _ rfl rfl rfl rfl (fun _ _ => v_move rfl rfl) ?_
  first | refine p_gn rfl rfl rfl rfl ?_ | refine p_g _ rfl rfl rfl rfl (fun _ _ => OpQ.fn (isDay_v d) rfl rfl SubRC.sub) ?_
  first | refine p_q _ rfl rfl rfl (fun _ _ => v_pick_t rfl rfl rfl) ?_ | refine p_q _ rfl rfl rfl (fun _ _ => v_pick_f rfl rfl rfl) ?_
  refine p_deadX (look_x1 D uo po uc pc _ hl1 hl2 hng) rfl rfl rfl rfl rfl SubRC.sub ?_
  refine p_q _ rfl rfl rfl (fun _ _ => v_move rfl rfl) ?_
  refine p_q _ rfl rfl rfl (fun _ _ => v_move rfl rfl) ?_
  refine p_acc (by simp only [List.nil_append, List.cons_append]; rfl) ?_
  refine p_dead 8 rfl rfl rfl (fun _ h => h) (by kernel_rfl) rfl rfl rfl ?_
  refine p_alloc rfl inf29 rfl rfl rfl rfl rfl ?_
  refine p_nilX (panOf (.iface 103 (i64 1))) (by simp only [List.nil_append, List.cons_append]; rfl) rfl (by kernel_rfl) rfl ?_ ?_
  ·
    repeat (first | with_reducible refine r_then_panic ?_ | with_reducible refine r_in_panic ?_ | with_reducible refine r_sc_panic ?_)
    exact d_panv answer_ans (Rd.two rfl (RdI.tmp rfl) (RdI.cell1 Tryd.underlying30 rfl rfl rfl)) (by rw [setlB, ansD_n (chkD_1 hng) (by decide)]; try rfl) SelMC.sel SubRC.sub
  ·
    refine f_q rfl ?_
    refine f_q rfl ?_
    refine f_q rfl ?_
    refine f_q rfl ?_
    refine f_q rfl ?_
    refine f_q rfl ?_
    refine f_q rfl ?_
    refine f_q rfl ?_
    exact f_dead
set_option maxHeartbeats 4000000 in
theorem setl18_x1b (who d : Int) (hl1 : D.dues.length ≤ 40) (hl2 : D.paid.length ≤ 40) (hng : ¬ GoodD D) (h1 : isW D who = true) : FnV Tryd.prog 18 [valD D uo po uc pc, i64 who, i64 d] [rowD uo 5 encD D.dues, rowD po 4 encP D.paid, rowD (some ⟨0, 0, none⟩) 1 encE ([0, 1] : List Nat)] (.tuple #[i64 (setlB D who d).1, i64 (setlB D who d).2]) := by
  refine FnV.introD Tryd.call18 Tryd.func18 rfl Tryd.ntmps18 rfl ?_
  intro W M Rf
  refine r_seq ?_
  refine r_region ?_
  refine o_boxA rfl rfl rfl rfl rfl (fun b3 => ?_)
  refine o_q _ rfl rfl rfl (v_assign rfl rfl) ?_
  refine o_alloc rfl inf30 rfl rfl rfl rfl rfl (fun b7 => ?_)
  refine o_nil ?_
  repeat (first | with_reducible refine r_then ?_ | with_reducible refine r_in_normal ?_ | with_reducible refine r_sc_normal ?_)
  refine r_seq ?_
  refine r_region ?_
  refine o_defer rfl rfl rfl rfl ?_
  refine o_nil ?_
  repeat (first | with_reducible refine r_then ?_ | with_reducible refine r_in_normal ?_ | with_reducible refine r_sc_normal ?_)
  refine r_seq ?_
  refine r_parX 13 mixed (by kernel_rfl) (by rfl) ?_
  first | refine p_q _ rfl rfl rfl (fun _ _ => v_ldW rfl Tryd.underlying25 rfl inf25 rfl rfl) ?_ | refine p_q _ rfl rfl rfl (fun _ _ => v_lfW rfl Tryd.underlying25 rfl inf25 rfl rfl) ?_ | refine p_q _ rfl rfl rfl (fun _ _ => v_lfN rfl Tryd.underlying25 rfl inf25 rfl rfl rfl) ?_ | refine p_q _ rfl rfl rfl (fun _ _ => v_ldN rfl Tryd.underlying25 rfl inf25 rfl rfl rfl) ?_ | refine p_q _ rfl rfl rfl (fun _ _ => v_loadEN rfl Tryd.underlying25 rfl inf25 rfl (by omega) rfl rfl rfl) ?_
  first | refine p_q _ rfl rfl rfl (fun _ _ => v_ldW rfl Tryd.underlying25 rfl inf25 rfl rfl) ?_ | refine p_q _ rfl rfl rfl (fun _ _ => v_lfW rfl Tryd.underlying25 rfl inf25 rfl rfl) ?_ | refine p_q _ rfl rfl rfl (fun _ _ => v_lfN rfl Tryd.underlying25 rfl inf25 rfl rfl rfl) ?_ | refine p_q _ rfl rfl rfl (fun _ _ => v_ldN rfl Tryd.underlying25 rfl inf25 rfl rfl rfl) ?_ | refine p_q _ rfl rfl rfl (fun _ _ => v_loadEN rfl Tryd.underlying25 rfl inf25 rfl (by omega) rfl rfl rfl) ?_
  refine p_q _ rfl rfl rfl (fun _ _ => v_move rfl rfl) ?_
  refine p_q _ rfl rfl rfl (fun _ _ => v_cast (v := .bool true) (OpQ.fn (isWho_v D uo po uc pc who) rfl rfl SubRC.sub) (congrArg Value.bool h1)) ?_
  refine p_q _ rfl rfl rfl (fun _ _ => v_move rfl rfl) ?_
  first | refine p_gn rfl rfl rfl rfl ?_ | refine p_g _ rfl rfl rfl rfl (fun _ _ => v_move rfl rfl) ?_
  first | refine p_gn rfl rfl rfl rfl ?_ | refine p_g _ rfl rfl rfl rfl (fun _ _ => OpQ.fn (isDay_v d) rfl rfl SubRC.sub) ?_
  first | refine p_q _ rfl rfl rfl (fun _ _ => v_pick_t rfl rfl rfl) ?_ | refine p_q _ rfl rfl rfl (fun _ _ => v_pick_f rfl rfl rfl) ?_
  refine p_deadX (look_x1 D uo po uc pc _ hl1 hl2 hng) rfl rfl rfl rfl rfl SubRC.sub ?_
  refine p_q _ rfl rfl rfl (fun _ _ => v_move rfl rfl) ?_
  refine p_q _ rfl rfl rfl (fun _ _ => v_move rfl rfl) ?_
  refine p_acc (by simp only [List.nil_append, List.cons_append]; rfl) ?_
  refine p_dead 8 rfl rfl rfl (fun _ h => h) (by kernel_rfl) rfl rfl rfl ?_
  refine p_alloc rfl inf29 rfl rfl rfl rfl rfl ?_
  refine p_nilX (panOf (.iface 103 (i64 1))) (by simp only [List.nil_append, List.cons_append]; rfl) rfl (by kernel_rfl) rfl ?_ ?_
  ·
    repeat (first | with_reducible refine r_then_panic ?_ | with_reducible refine r_in_panic ?_ | with_reducible refine r_sc_panic ?_)
    exact d_panv answer_ans (Rd.two rfl (RdI.tmp rfl) (RdI.cell1 Tryd.underlying30 rfl rfl rfl)) (by rw [setlB, ansD_n (chkD_1 hng) (by decide)]; try rfl) SelMC.sel SubRC.sub
  ·
    refine f_q rfl ?_
    refine f_q rfl ?_
    refine f_q rfl ?_
    refine f_q rfl ?_
    refine f_q rfl ?_
    refine f_q rfl ?_
    refine f_q rfl ?_
    refine f_q rfl ?_
    exact f_dead
set_option maxHeartbeats 4000000 in
theorem setl18_x2a (who d : Int) (hl1 : D.dues.length ≤ 40) (hl2 : D.paid.length ≤ 40) (hg : GoodD D) (h1 : isW D who = false) : FnV Tryd.prog 18 [valD D uo po uc pc, i64 who, i64 d] [rowD uo 5 encD D.dues, rowD po 4 encP D.paid, rowD (some ⟨0, 0, none⟩) 1 encE ([0, 1] : List Nat)] (.tuple #[i64 (setlB D who d).1, i64 (setlB D who d).2]) := by
  refine FnV.introD Tryd.call18 Tryd.func18 rfl Tryd.ntmps18 rfl ?_
  intro W M Rf
  refine r_seq ?_
  refine r_region ?_
  refine o_boxA rfl rfl rfl rfl rfl (fun b3 => ?_)
  refine o_q _ rfl rfl rfl (v_assign rfl rfl) ?_
  refine o_alloc rfl inf30 rfl rfl rfl rfl rfl (fun b7 => ?_)
  refine o_nil ?_
  repeat (first | with_reducible refine r_then ?_ | with_reducible refine r_in_normal ?_ | with_reducible refine r_sc_normal ?_)
  refine r_seq ?_
  refine r_region ?_
  refine o_defer rfl rfl rfl rfl ?_
  refine o_nil ?_
  repeat (first | with_reducible refine r_then ?_ | with_reducible refine r_in_normal ?_ | with_reducible refine r_sc_normal ?_)
  refine r_seq ?_
  refine r_parX 13 mixed (by kernel_rfl) (by rfl) ?_
  first | refine p_q _ rfl rfl rfl (fun _ _ => v_ldW rfl Tryd.underlying25 rfl inf25 rfl rfl) ?_ | refine p_q _ rfl rfl rfl (fun _ _ => v_lfW rfl Tryd.underlying25 rfl inf25 rfl rfl) ?_ | refine p_q _ rfl rfl rfl (fun _ _ => v_lfN rfl Tryd.underlying25 rfl inf25 rfl rfl rfl) ?_ | refine p_q _ rfl rfl rfl (fun _ _ => v_ldN rfl Tryd.underlying25 rfl inf25 rfl rfl rfl) ?_ | refine p_q _ rfl rfl rfl (fun _ _ => v_loadEN rfl Tryd.underlying25 rfl inf25 rfl (by omega) rfl rfl rfl) ?_
  first | refine p_q _ rfl rfl rfl (fun _ _ => v_ldW rfl Tryd.underlying25 rfl inf25 rfl rfl) ?_ | refine p_q _ rfl rfl rfl (fun _ _ => v_lfW rfl Tryd.underlying25 rfl inf25 rfl rfl) ?_ | refine p_q _ rfl rfl rfl (fun _ _ => v_lfN rfl Tryd.underlying25 rfl inf25 rfl rfl rfl) ?_ | refine p_q _ rfl rfl rfl (fun _ _ => v_ldN rfl Tryd.underlying25 rfl inf25 rfl rfl rfl) ?_ | refine p_q _ rfl rfl rfl (fun _ _ => v_loadEN rfl Tryd.underlying25 rfl inf25 rfl (by omega) rfl rfl rfl) ?_
  refine p_q _ rfl rfl rfl (fun _ _ => v_move rfl rfl) ?_
  refine p_q _ rfl rfl rfl (fun _ _ => v_cast (v := .bool false) (OpQ.fn (isWho_v D uo po uc pc who) rfl rfl SubRC.sub) (congrArg Value.bool h1)) ?_
  refine p_q _ rfl rfl rfl (fun _ _ => v_move rfl rfl) ?_
  first | refine p_gn rfl rfl rfl rfl ?_ | refine p_g _ rfl rfl rfl rfl (fun _ _ => v_move rfl rfl) ?_
  first | refine p_gn rfl rfl rfl rfl ?_ | refine p_g _ rfl rfl rfl rfl (fun _ _ => OpQ.fn (isDay_v d) rfl rfl SubRC.sub) ?_
  first | refine p_q _ rfl rfl rfl (fun _ _ => v_pick_t rfl rfl rfl) ?_ | refine p_q _ rfl rfl rfl (fun _ _ => v_pick_f rfl rfl rfl) ?_
  refine p_deadX (look_x2 D uo po uc pc hl1 hl2 hg) rfl rfl rfl rfl rfl SubRC.sub ?_
  refine p_q _ rfl rfl rfl (fun _ _ => v_move rfl rfl) ?_
  refine p_q _ rfl rfl rfl (fun _ _ => v_move rfl rfl) ?_
  refine p_acc (by simp only [List.nil_append, List.cons_append]; rfl) ?_
  refine p_dead 8 rfl rfl rfl (fun _ h => h) (by kernel_rfl) rfl rfl rfl ?_
  refine p_alloc rfl inf29 rfl rfl rfl rfl rfl ?_
  refine p_nilX (panOf (.iface 103 (i64 2))) (by simp only [List.nil_append, List.cons_append]; rfl) rfl (by kernel_rfl) rfl ?_ ?_
  ·
    repeat (first | with_reducible refine r_then_panic ?_ | with_reducible refine r_in_panic ?_ | with_reducible refine r_sc_panic ?_)
    exact d_panv answer_ans (Rd.two rfl (RdI.tmp rfl) (RdI.cell1 Tryd.underlying30 rfl rfl rfl)) (by rw [setlB, ansD_n (chkD_2 hg (okF1 h1)) (by decide)]; try rfl) SelMC.sel SubRC.sub
  ·
    refine f_q rfl ?_
    refine f_q rfl ?_
    refine f_q rfl ?_
    refine f_q rfl ?_
    refine f_q rfl ?_
    refine f_q rfl ?_
    refine f_q rfl ?_
    refine f_q rfl ?_
    exact f_dead
set_option maxHeartbeats 4000000 in
theorem setl18_x2b (who d : Int) (hl1 : D.dues.length ≤ 40) (hl2 : D.paid.length ≤ 40) (hg : GoodD D) (h1 : isW D who = true) (h2 : isDy d = false) : FnV Tryd.prog 18 [valD D uo po uc pc, i64 who, i64 d] [rowD uo 5 encD D.dues, rowD po 4 encP D.paid, rowD (some ⟨0, 0, none⟩) 1 encE ([0, 1] : List Nat)] (.tuple #[i64 (setlB D who d).1, i64 (setlB D who d).2]) := by
  refine FnV.introD Tryd.call18 Tryd.func18 rfl Tryd.ntmps18 rfl ?_
  intro W M Rf
  refine r_seq ?_
  refine r_region ?_
  refine o_boxA rfl rfl rfl rfl rfl (fun b3 => ?_)
  refine o_q _ rfl rfl rfl (v_assign rfl rfl) ?_
  refine o_alloc rfl inf30 rfl rfl rfl rfl rfl (fun b7 => ?_)
  refine o_nil ?_
  repeat (first | with_reducible refine r_then ?_ | with_reducible refine r_in_normal ?_ | with_reducible refine r_sc_normal ?_)
  refine r_seq ?_
  refine r_region ?_
  refine o_defer rfl rfl rfl rfl ?_
  refine o_nil ?_
  repeat (first | with_reducible refine r_then ?_ | with_reducible refine r_in_normal ?_ | with_reducible refine r_sc_normal ?_)
  refine r_seq ?_
  refine r_parX 13 mixed (by kernel_rfl) (by rfl) ?_
  first | refine p_q _ rfl rfl rfl (fun _ _ => v_ldW rfl Tryd.underlying25 rfl inf25 rfl rfl) ?_ | refine p_q _ rfl rfl rfl (fun _ _ => v_lfW rfl Tryd.underlying25 rfl inf25 rfl rfl) ?_ | refine p_q _ rfl rfl rfl (fun _ _ => v_lfN rfl Tryd.underlying25 rfl inf25 rfl rfl rfl) ?_ | refine p_q _ rfl rfl rfl (fun _ _ => v_ldN rfl Tryd.underlying25 rfl inf25 rfl rfl rfl) ?_ | refine p_q _ rfl rfl rfl (fun _ _ => v_loadEN rfl Tryd.underlying25 rfl inf25 rfl (by omega) rfl rfl rfl) ?_
  first | refine p_q _ rfl rfl rfl (fun _ _ => v_ldW rfl Tryd.underlying25 rfl inf25 rfl rfl) ?_ | refine p_q _ rfl rfl rfl (fun _ _ => v_lfW rfl Tryd.underlying25 rfl inf25 rfl rfl) ?_ | refine p_q _ rfl rfl rfl (fun _ _ => v_lfN rfl Tryd.underlying25 rfl inf25 rfl rfl rfl) ?_ | refine p_q _ rfl rfl rfl (fun _ _ => v_ldN rfl Tryd.underlying25 rfl inf25 rfl rfl rfl) ?_ | refine p_q _ rfl rfl rfl (fun _ _ => v_loadEN rfl Tryd.underlying25 rfl inf25 rfl (by omega) rfl rfl rfl) ?_
  refine p_q _ rfl rfl rfl (fun _ _ => v_move rfl rfl) ?_
  refine p_q _ rfl rfl rfl (fun _ _ => v_cast (v := .bool true) (OpQ.fn (isWho_v D uo po uc pc who) rfl rfl SubRC.sub) (congrArg Value.bool h1)) ?_
  refine p_q _ rfl rfl rfl (fun _ _ => v_move rfl rfl) ?_
  first | refine p_gn rfl rfl rfl rfl ?_ | refine p_g _ rfl rfl rfl rfl (fun _ _ => v_move rfl rfl) ?_
  first | refine p_gn rfl rfl rfl rfl ?_ | refine p_g _ rfl rfl rfl rfl (fun _ _ => v_cast (v := .bool false) (OpQ.fn (isDay_v d) rfl rfl SubRC.sub) (congrArg Value.bool h2)) ?_
  first | refine p_q _ rfl rfl rfl (fun _ _ => v_pick_t rfl rfl rfl) ?_ | refine p_q _ rfl rfl rfl (fun _ _ => v_pick_f rfl rfl rfl) ?_
  refine p_deadX (look_x2 D uo po uc pc hl1 hl2 hg) rfl rfl rfl rfl rfl SubRC.sub ?_
  refine p_q _ rfl rfl rfl (fun _ _ => v_move rfl rfl) ?_
  refine p_q _ rfl rfl rfl (fun _ _ => v_move rfl rfl) ?_
  refine p_acc (by simp only [List.nil_append, List.cons_append]; rfl) ?_
  refine p_dead 8 rfl rfl rfl (fun _ h => h) (by kernel_rfl) rfl rfl rfl ?_
  refine p_alloc rfl inf29 rfl rfl rfl rfl rfl ?_
  refine p_nilX (panOf (.iface 103 (i64 2))) (by simp only [List.nil_append, List.cons_append]; rfl) rfl (by kernel_rfl) rfl ?_ ?_
  ·
    repeat (first | with_reducible refine r_then_panic ?_ | with_reducible refine r_in_panic ?_ | with_reducible refine r_sc_panic ?_)
    exact d_panv answer_ans (Rd.two rfl (RdI.tmp rfl) (RdI.cell1 Tryd.underlying30 rfl rfl rfl)) (by rw [setlB, ansD_n (chkD_2 hg (okF2 h2)) (by decide)]; try rfl) SelMC.sel SubRC.sub
  ·
    refine f_q rfl ?_
    refine f_q rfl ?_
    refine f_q rfl ?_
    refine f_q rfl ?_
    refine f_q rfl ?_
    refine f_q rfl ?_
    refine f_q rfl ?_
    refine f_q rfl ?_
    exact f_dead
set_option maxHeartbeats 4000000 in
theorem setl18_ok (who d : Int) (hl1 : D.dues.length ≤ 40) (hl2 : D.paid.length ≤ 40) (hg : GoodD D) (h1 : isW D who = true) (h2 : isDy d = true) : FnV Tryd.prog 18 [valD D uo po uc pc, i64 who, i64 d] [rowD uo 5 encD D.dues, rowD po 4 encP D.paid, rowD (some ⟨0, 0, none⟩) 1 encE ([0, 1] : List Nat)] (.tuple #[i64 (setlB D who d).1, i64 (setlB D who d).2]) := by
  obtain ⟨dn, rfl⟩ : ∃ n : Nat, d = n := ⟨d.toNat, by have := of_decide_eq_true h2; omega⟩
  have hd := of_decide_eq_true h2
  have hq1 := hg.np
  have hwr : IntKind.i64.wrap (D.people - 1) = D.people - 1 := IntWalk.i64_in _ (by omega)
  have hwh := of_decide_eq_true h1
  have hdn : dn ≤ 30 := by omega
  have hwb : -1000 ≤ who ∧ who ≤ 1000 := by omega
  refine FnV.introD Tryd.call18 Tryd.func18 rfl Tryd.ntmps18 rfl ?_
  intro W M Rf
  refine r_seq ?_
  refine r_region ?_
  refine o_boxA rfl rfl rfl rfl rfl (fun b3 => ?_)
  refine o_q _ rfl rfl rfl (v_assign rfl rfl) ?_
  refine o_alloc rfl inf30 rfl rfl rfl rfl rfl (fun b7 => ?_)
  refine o_nil ?_
  repeat (first | with_reducible refine r_then ?_ | with_reducible refine r_in_normal ?_ | with_reducible refine r_sc_normal ?_)
  refine r_seq ?_
  refine r_region ?_
  refine o_defer rfl rfl rfl rfl ?_
  refine o_nil ?_
  repeat (first | with_reducible refine r_then ?_ | with_reducible refine r_in_normal ?_ | with_reducible refine r_sc_normal ?_)
  refine r_seq ?_
  refine r_par' 13 mixed (by kernel_rfl) (by rfl) ?_
  first | refine p_q _ rfl rfl rfl (fun _ _ => v_ldW rfl Tryd.underlying25 rfl inf25 rfl rfl) ?_ | refine p_q _ rfl rfl rfl (fun _ _ => v_lfW rfl Tryd.underlying25 rfl inf25 rfl rfl) ?_ | refine p_q _ rfl rfl rfl (fun _ _ => v_lfN rfl Tryd.underlying25 rfl inf25 rfl rfl rfl) ?_ | refine p_q _ rfl rfl rfl (fun _ _ => v_ldN rfl Tryd.underlying25 rfl inf25 rfl rfl rfl) ?_ | refine p_q _ rfl rfl rfl (fun _ _ => v_loadEN rfl Tryd.underlying25 rfl inf25 rfl (by omega) rfl rfl rfl) ?_
  first | refine p_q _ rfl rfl rfl (fun _ _ => v_ldW rfl Tryd.underlying25 rfl inf25 rfl rfl) ?_ | refine p_q _ rfl rfl rfl (fun _ _ => v_lfW rfl Tryd.underlying25 rfl inf25 rfl rfl) ?_ | refine p_q _ rfl rfl rfl (fun _ _ => v_lfN rfl Tryd.underlying25 rfl inf25 rfl rfl rfl) ?_ | refine p_q _ rfl rfl rfl (fun _ _ => v_ldN rfl Tryd.underlying25 rfl inf25 rfl rfl rfl) ?_ | refine p_q _ rfl rfl rfl (fun _ _ => v_loadEN rfl Tryd.underlying25 rfl inf25 rfl (by omega) rfl rfl rfl) ?_
  refine p_q _ rfl rfl rfl (fun _ _ => v_move rfl rfl) ?_
  refine p_q _ rfl rfl rfl (fun _ _ => v_cast (v := .bool true) (OpQ.fn (isWho_v D uo po uc pc who) rfl rfl SubRC.sub) (congrArg Value.bool h1)) ?_
  refine p_q _ rfl rfl rfl (fun _ _ => v_move rfl rfl) ?_
  first | refine p_gn rfl rfl rfl rfl ?_ | refine p_g _ rfl rfl rfl rfl (fun _ _ => v_move rfl rfl) ?_
  first | refine p_gn rfl rfl rfl rfl ?_ | refine p_g _ rfl rfl rfl rfl (fun _ _ => v_cast (v := .bool true) (OpQ.fn (isDay_v _) rfl rfl SubRC.sub) (congrArg Value.bool h2)) ?_
  first | refine p_q _ rfl rfl rfl (fun _ _ => v_pick_t rfl rfl rfl) ?_ | refine p_q _ rfl rfl rfl (fun _ _ => v_pick_f rfl rfl rfl) ?_
  refine p_openL 11 (look_ok D uo po uc pc hl1 hl2 hg) rfl rfl rfl rfl rfl SubRC.sub ?_
  refine p_q _ rfl rfl rfl (fun _ _ => v_move rfl rfl) ?_
  refine p_q _ rfl rfl rfl (fun _ _ => v_move rfl rfl) ?_
  refine p_acc (by simp only [List.nil_append, List.cons_append]; rfl) ?_
  refine p_takeN 8 (led_left D uo po uc pc who dn hg hwb hdn) rfl rfl rfl (fun b => rfl) rfl (by kernel_rfl) rfl rfl rfl SubRC.sub ?_
  refine p_alloc rfl inf29 rfl rfl rfl rfl rfl ?_
  refine p_nil2 (by simp only [List.nil_append, List.cons_append]; rfl) rfl ?_ (by kernel_rfl)
  refine f_q rfl ?_
  refine f_q rfl ?_
  refine f_q rfl ?_
  refine f_q rfl ?_
  refine f_q rfl ?_
  refine f_q rfl ?_
  refine f_q rfl ?_
  refine f_q rfl ?_
  refine f_openL rfl (fun b17 => ?_)
  refine f_q rfl ?_
  refine f_q rfl ?_
  refine f_take rfl ?_
  refine f_alloc rfl (fun b8 => ?_)
  refine f_nil ?_
  refine o_st rfl inf29 rfl rfl rfl rfl rfl rfl rfl rfl ?_
  refine o_nil ?_
  repeat (first | with_reducible refine r_then ?_ | with_reducible refine r_in_normal ?_ | with_reducible refine r_sc_normal ?_)
  refine r_seq ?_
  refine r_block ?_
  refine r_seq ?_
  refine Imp.box_to b8 [i64 (leftT D who dn).lo, i64 (leftT D who dn).hi] rfl ?_
  refine r_region ?_
  first | refine o_q _ rfl rfl rfl (v_fieldAddr rfl Tryd.underlying29 inf3 rfl rfl rfl rfl) ?_ | refine o_q _ rfl rfl rfl (v_fieldAddrE rfl Tryd.underlying29 inf3 rfl rfl rfl rfl) ?_
  first | refine o_q _ rfl rfl rfl (v_ld1 rfl Tryd.underlying3 rfl rfl rfl) ?_ | refine o_q _ rfl rfl rfl (v_lf1 rfl Tryd.underlying3 rfl rfl rfl) ?_ | refine o_q _ rfl rfl rfl (v_loadE1 rfl Tryd.underlying3 rfl rfl (by omega) rfl rfl) ?_
  refine o_q _ rfl rfl rfl (v_eql rfl rfl rfl) ?_
  refine o_q _ rfl rfl rfl (v_assign rfl rfl) ?_
  refine o_nil ?_
  repeat (first | with_reducible refine r_then ?_ | with_reducible refine r_in_normal ?_ | with_reducible refine r_sc_normal ?_)
  first | refine r_condd rfl (fun hc21 => ?_) (fun hc21 => ?_) | refine r_cond rfl (fun hc21 => ?_) (fun hc21 => ?_)
  ·
    first
    | (exfalso; revert hc21; decide)
    | (exfalso; omega)
    | skip
      refine r_seq ?_
      refine r_region ?_
      refine o_q _ rfl rfl rfl (v_assign rfl rfl) ?_
      refine o_st rfl inf30 rfl rfl rfl rfl rfl rfl rfl rfl ?_
      refine o_nil ?_
      repeat (first | with_reducible refine r_then ?_ | with_reducible refine r_in_normal ?_ | with_reducible refine r_sc_normal ?_)
      refine r_ret ?_
      repeat (first | with_reducible refine r_then_ret ?_ | with_reducible refine r_in_ret ?_ | with_reducible refine r_sc_ret ?_)
      first
      | exact d_retv answer_ans (Rd.two rfl (RdI.tmp rfl) (RdI.cell1 Tryd.underlying30 rfl rfl rfl)) (by rw [setlB, ansD_0 (chkD_0 hg (okT h1 h2)), Int.toNat_natCast, grade_2 (by omega)]; try rfl) SelMC.sel SubRC.sub
      | exact d_retv answer_ans (Rd.two rfl (RdI.tmp rfl) (RdI.cell1 Tryd.underlying30 rfl rfl rfl)) (by rw [setlB, ansD_0 (chkD_0 hg (okT h1 h2)), Int.toNat_natCast, grade_1 (by omega) (by omega)]; try rfl) SelMC.sel SubRC.sub
      | exact d_retv answer_ans (Rd.two rfl (RdI.tmp rfl) (RdI.cell1 Tryd.underlying30 rfl rfl rfl)) (by rw [setlB, ansD_0 (chkD_0 hg (okT h1 h2)), Int.toNat_natCast, grade_0 (by omega) (by omega)]; try rfl) SelMC.sel SubRC.sub
  ·
    first
    | (exfalso; revert hc21; decide)
    | (exfalso; omega)
    | skip
      refine r_seq ?_
      refine r_region ?_
      first | refine o_q _ rfl rfl rfl (v_fieldAddr rfl Tryd.underlying29 inf3 rfl rfl rfl rfl) ?_ | refine o_q _ rfl rfl rfl (v_fieldAddrE rfl Tryd.underlying29 inf3 rfl rfl rfl rfl) ?_
      first | refine o_q _ rfl rfl rfl (v_ld1 rfl Tryd.underlying3 rfl rfl rfl) ?_ | refine o_q _ rfl rfl rfl (v_lf1 rfl Tryd.underlying3 rfl rfl rfl) ?_ | refine o_q _ rfl rfl rfl (v_loadE1 rfl Tryd.underlying3 rfl rfl (by omega) rfl rfl) ?_
      refine o_q _ rfl rfl rfl (v_eql rfl rfl rfl) ?_
      refine o_q _ rfl rfl rfl (v_assign rfl rfl) ?_
      refine o_nil ?_
      repeat (first | with_reducible refine r_then ?_ | with_reducible refine r_in_normal ?_ | with_reducible refine r_sc_normal ?_)
      first | refine r_condd rfl (fun hc25 => ?_) (fun hc25 => ?_) | refine r_cond rfl (fun hc25 => ?_) (fun hc25 => ?_)
      ·
        first
        | (exfalso; revert hc25; decide)
        | (exfalso; omega)
        | skip
          refine r_seq ?_
          refine r_region ?_
          refine o_q _ rfl rfl rfl (v_assign rfl rfl) ?_
          refine o_st rfl inf30 rfl rfl rfl rfl rfl rfl rfl rfl ?_
          refine o_nil ?_
          repeat (first | with_reducible refine r_then ?_ | with_reducible refine r_in_normal ?_ | with_reducible refine r_sc_normal ?_)
          refine r_ret ?_
          repeat (first | with_reducible refine r_then_ret ?_ | with_reducible refine r_in_ret ?_ | with_reducible refine r_sc_ret ?_)
          first
          | exact d_retv answer_ans (Rd.two rfl (RdI.tmp rfl) (RdI.cell1 Tryd.underlying30 rfl rfl rfl)) (by rw [setlB, ansD_0 (chkD_0 hg (okT h1 h2)), Int.toNat_natCast, grade_2 (by omega)]; try rfl) SelMC.sel SubRC.sub
          | exact d_retv answer_ans (Rd.two rfl (RdI.tmp rfl) (RdI.cell1 Tryd.underlying30 rfl rfl rfl)) (by rw [setlB, ansD_0 (chkD_0 hg (okT h1 h2)), Int.toNat_natCast, grade_1 (by omega) (by omega)]; try rfl) SelMC.sel SubRC.sub
          | exact d_retv answer_ans (Rd.two rfl (RdI.tmp rfl) (RdI.cell1 Tryd.underlying30 rfl rfl rfl)) (by rw [setlB, ansD_0 (chkD_0 hg (okT h1 h2)), Int.toNat_natCast, grade_0 (by omega) (by omega)]; try rfl) SelMC.sel SubRC.sub
      ·
        first
        | (exfalso; revert hc25; decide)
        | (exfalso; omega)
        | skip
          refine r_skip ?_
          repeat (first | with_reducible refine r_then ?_ | with_reducible refine r_in_normal ?_ | with_reducible refine r_sc_normal ?_)
          refine r_seq ?_
          refine r_region ?_
          refine o_q _ rfl rfl rfl (v_assign rfl rfl) ?_
          refine o_st rfl inf30 rfl rfl rfl rfl rfl rfl rfl rfl ?_
          refine o_nil ?_
          repeat (first | with_reducible refine r_then ?_ | with_reducible refine r_in_normal ?_ | with_reducible refine r_sc_normal ?_)
          refine r_ret ?_
          repeat (first | with_reducible refine r_then_ret ?_ | with_reducible refine r_in_ret ?_ | with_reducible refine r_sc_ret ?_)
          first
          | exact d_retv answer_ans (Rd.two rfl (RdI.tmp rfl) (RdI.cell1 Tryd.underlying30 rfl rfl rfl)) (by rw [setlB, ansD_0 (chkD_0 hg (okT h1 h2)), Int.toNat_natCast, grade_2 (by omega)]; try rfl) SelMC.sel SubRC.sub
          | exact d_retv answer_ans (Rd.two rfl (RdI.tmp rfl) (RdI.cell1 Tryd.underlying30 rfl rfl rfl)) (by rw [setlB, ansD_0 (chkD_0 hg (okT h1 h2)), Int.toNat_natCast, grade_1 (by omega) (by omega)]; try rfl) SelMC.sel SubRC.sub
          | exact d_retv answer_ans (Rd.two rfl (RdI.tmp rfl) (RdI.cell1 Tryd.underlying30 rfl rfl rfl)) (by rw [setlB, ansD_0 (chkD_0 hg (okT h1 h2)), Int.toNat_natCast, grade_0 (by omega) (by omega)]; try rfl) SelMC.sel SubRC.sub
theorem setl18_v (who d : Int) (hl1 : D.dues.length ≤ 40) (hl2 : D.paid.length ≤ 40) : FnV Tryd.prog 18 [valD D uo po uc pc, i64 who, i64 d] [rowD uo 5 encD D.dues, rowD po 4 encP D.paid, rowD (some ⟨0, 0, none⟩) 1 encE ([0, 1] : List Nat)] (.tuple #[i64 (setlB D who d).1, i64 (setlB D who d).2]) := by
  by_cases hg : GoodD D
  · cases h1 : isW D who
    · exact setl18_x2a D uo po uc pc who d hl1 hl2 hg h1
    · cases h2 : isDy d
      · exact setl18_x2b D uo po uc pc who d hl1 hl2 hg h1 h2
      · exact setl18_ok D uo po uc pc who d hl1 hl2 hg h1 h2
  · cases h1 : isW D who
    · exact setl18_x1a D uo po uc pc who d hl1 hl2 hg h1
    · exact setl18_x1b D uo po uc pc who d hl1 hl2 hg h1
theorem depF {P Q : List Opn × Int} {u : Value} (h : isAA P Q u) : isA P (fstT u) ∧ ∀ φ ∈ facA P (fstT u), φ ∈ facAA P Q u := by
  obtain ⟨x, y, hx, _, rfl⟩ := h
  exact ⟨hx, fun φ hφ => by rw [List.mem_singleton.1 hφ]; exact List.mem_cons_self ..⟩
theorem depS {P Q : List Opn × Int} {u : Value} (h : isAA P Q u) : isA Q (sndT u) ∧ ∀ φ ∈ facA Q (sndT u), φ ∈ facAA P Q u := by
  obtain ⟨x, y, _, hy, rfl⟩ := h
  exact ⟨hy, fun φ hφ => by rw [List.mem_singleton.1 hφ]; exact List.mem_cons_of_mem _ (List.mem_cons_self ..)⟩
theorem depX {P Q : List Opn × Int} {u : Value} {W : World} {n : Nat} {L : Tm} {M : List Res} {R : List Fact} {o : Oper} {x : Operand} (h : isAA P Q u) (ho : o.op = .extract x 0) (hx : ev L x = some u) : OpQ Tryd.prog W n L M R o (fstT u) := by
  obtain ⟨a, b, _, _, rfl⟩ := h
  exact v_extract ho hx rfl
theorem depY {P Q : List Opn × Int} {u : Value} {W : World} {n : Nat} {L : Tm} {M : List Res} {R : List Fact} {o : Oper} {x : Operand} (h : isAA P Q u) (ho : o.op = .extract x 1) (hx : ev L x = some u) : OpQ Tryd.prog W n L M R o (sndT u) := by
  obtain ⟨a, b, _, _, rfl⟩ := h
  exact v_extract ho hx rfl
theorem float_ext {n : Nat} {L : Tm} {o : Oper} {x : Operand} {j : Nat} {vs : List Value} {v : Value} (ho : o.op = .extract x j) (hx : ev L x = some (.tuple vs.toArray)) (hv : vs[j]? = some v) : ∀ a, FSat n L a → ∀ w, True → (execOp a.eval o).run Tryd.prog w = .ok (.value v) w := fun g h1 w _ => by simp [execOp, ho, h1.ev hx, Instr.extract, hv]
theorem floatS {P Q : List Opn × Int} {u : Value} {n : Nat} {L : Tm} {o : Oper} {x : Operand} (h : isAA P Q u) (ho : o.op = .extract x 1) (hx : ev L x = some u) : ∀ a, FSat n L a → ∀ w, True → (execOp a.eval o).run Tryd.prog w = .ok (.value (sndT u)) w := by
  obtain ⟨a, b, _, _, rfl⟩ := h
  exact float_ext (vs := [a, b]) ho hx rfl
set_option maxHeartbeats 4000000 in
theorem ahead16_x1a (who d : Int) (hl1 : D.dues.length ≤ 40) (hl2 : D.paid.length ≤ 40) (hng : ¬ GoodD D) (h1 : isW D who = false) : FnV Tryd.prog 16 [valD D uo po uc pc, i64 who, i64 d] [rowD uo 5 encD D.dues, rowD po 4 encP D.paid, rowD (some ⟨0, 0, none⟩) 1 encE ([0, 1] : List Nat)] (.tuple #[vS (aheadB D who d).1, i64 (aheadB D who d).2]) := by
  refine FnV.introD Tryd.call16 Tryd.func16 rfl Tryd.ntmps16 rfl ?_
  intro W M Rf
  refine r_seq ?_
  refine r_region ?_
  refine o_boxA rfl rfl rfl rfl rfl (fun b3 => ?_)
  refine o_alloc rfl inf29 rfl rfl rfl rfl rfl (fun b6 => ?_)
  refine o_alloc rfl inf30 rfl rfl rfl rfl rfl (fun b7 => ?_)
  refine o_nil ?_
  repeat (first | with_reducible refine r_then ?_ | with_reducible refine r_in_normal ?_ | with_reducible refine r_sc_normal ?_)
  refine r_seq ?_
  refine r_region ?_
  refine o_defer rfl rfl rfl rfl ?_
  refine o_nil ?_
  repeat (first | with_reducible refine r_then ?_ | with_reducible refine r_in_normal ?_ | with_reducible refine r_sc_normal ?_)
  refine r_seq ?_
  refine r_parX 19 mixed (by kernel_rfl) (by rfl) ?_
  first | refine p_q _ rfl rfl rfl (fun _ _ => v_ldW rfl Tryd.underlying25 rfl inf25 rfl rfl) ?_ | refine p_q _ rfl rfl rfl (fun _ _ => v_lfW rfl Tryd.underlying25 rfl inf25 rfl rfl) ?_ | refine p_q _ rfl rfl rfl (fun _ _ => v_lfN rfl Tryd.underlying25 rfl inf25 rfl rfl rfl) ?_ | refine p_q _ rfl rfl rfl (fun _ _ => v_ldN rfl Tryd.underlying25 rfl inf25 rfl rfl rfl) ?_ | refine p_q _ rfl rfl rfl (fun _ _ => v_loadEN rfl Tryd.underlying25 rfl inf25 rfl (by omega) rfl rfl rfl) ?_
  first | refine p_q _ rfl rfl rfl (fun _ _ => v_ldW rfl Tryd.underlying25 rfl inf25 rfl rfl) ?_ | refine p_q _ rfl rfl rfl (fun _ _ => v_lfW rfl Tryd.underlying25 rfl inf25 rfl rfl) ?_ | refine p_q _ rfl rfl rfl (fun _ _ => v_lfN rfl Tryd.underlying25 rfl inf25 rfl rfl rfl) ?_ | refine p_q _ rfl rfl rfl (fun _ _ => v_ldN rfl Tryd.underlying25 rfl inf25 rfl rfl rfl) ?_ | refine p_q _ rfl rfl rfl (fun _ _ => v_loadEN rfl Tryd.underlying25 rfl inf25 rfl (by omega) rfl rfl rfl) ?_
  refine p_q _ rfl rfl rfl (fun _ _ => v_move rfl rfl) ?_
  refine p_q _ rfl rfl rfl (fun _ _ => v_cast (v := .bool false) (OpQ.fn (isWho_v D uo po uc pc who) rfl rfl SubRC.sub) (congrArg Value.bool h1)) ?_
  refine p_q _ rfl rfl rfl (fun _ _ => v_move rfl rfl) ?_
  first | refine p_gn rfl rfl rfl rfl ?_ | refine p_g _ rfl rfl rfl rfl (fun _ _ => v_move rfl rfl) ?_
  first | refine p_gn rfl rfl rfl rfl ?_ | refine p_g _ rfl rfl rfl rfl (fun _ _ => OpQ.fn (isDay_v d) rfl rfl SubRC.sub) ?_
  first | refine p_q _ rfl rfl rfl (fun _ _ => v_pick_t rfl rfl rfl) ?_ | refine p_q _ rfl rfl rfl (fun _ _ => v_pick_f rfl rfl rfl) ?_
  refine p_deadX (look_x1 D uo po uc pc _ hl1 hl2 hng) rfl rfl rfl rfl rfl SubRC.sub ?_
  refine p_q _ rfl rfl rfl (fun _ _ => v_move rfl rfl) ?_
  refine p_q _ rfl rfl rfl (fun _ _ => v_move rfl rfl) ?_
  refine p_acc (by simp only [List.nil_append, List.cons_append]; rfl) ?_
  refine p_dead 8 rfl rfl rfl (fun _ h => h) (by kernel_rfl) rfl rfl rfl ?_
  refine p_acc (by simp only [List.nil_append, List.cons_append]; rfl) ?_
  refine p_dead 11 rfl rfl rfl (fun _ h => h) (by kernel_rfl) rfl rfl rfl ?_
  refine p_acc (by simp only [List.nil_append, List.cons_append]; rfl) ?_
  refine p_dead 12 rfl rfl rfl (fun _ h => h) (by kernel_rfl) rfl rfl rfl ?_
  refine p_acc (by simp only [List.nil_append, List.cons_append]; rfl) ?_
  refine p_dead 12 rfl rfl rfl (fun _ h => h) (by kernel_rfl) rfl rfl rfl ?_
  refine p_alloc rfl inf77 rfl rfl rfl rfl rfl ?_
  refine p_alloc rfl inf77 rfl rfl rfl rfl rfl ?_
  refine p_acc (by simp only [List.nil_append, List.cons_append]; rfl) ?_
  refine p_deadS 13 rfl rfl rfl (fun _ h => h) (by kernel_rfl) rfl rfl ?_
  refine p_acc (by simp only [List.nil_append, List.cons_append]; rfl) ?_
  refine p_deadS 14 rfl rfl rfl (fun _ h => h) (by kernel_rfl) rfl rfl ?_
  refine p_nilX (panOf (.iface 103 (i64 1))) (by simp only [List.nil_append, List.cons_append]; rfl) rfl (by kernel_rfl) rfl ?_ ?_
  ·
    repeat (first | with_reducible refine r_then_panic ?_ | with_reducible refine r_in_panic ?_ | with_reducible refine r_sc_panic ?_)
    exact d_panv answer_ans (Rd.two rfl (RdI.cellW Tryd.underlying29 rfl inf29 rfl rfl) (RdI.cell1 Tryd.underlying30 rfl rfl rfl)) (by rw [aheadB, ansD_n (chkD_1 hng) (by decide)]; try rfl) SelMC.sel SubRC.sub
  ·
    refine f_q rfl ?_
    refine f_q rfl ?_
    refine f_q rfl ?_
    refine f_q rfl ?_
    refine f_q rfl ?_
    refine f_q rfl ?_
    refine f_q rfl ?_
    refine f_q rfl ?_
    exact f_dead
set_option maxHeartbeats 4000000 in
theorem ahead16_x1b (who d : Int) (hl1 : D.dues.length ≤ 40) (hl2 : D.paid.length ≤ 40) (hng : ¬ GoodD D) (h1 : isW D who = true) : FnV Tryd.prog 16 [valD D uo po uc pc, i64 who, i64 d] [rowD uo 5 encD D.dues, rowD po 4 encP D.paid, rowD (some ⟨0, 0, none⟩) 1 encE ([0, 1] : List Nat)] (.tuple #[vS (aheadB D who d).1, i64 (aheadB D who d).2]) := by
  refine FnV.introD Tryd.call16 Tryd.func16 rfl Tryd.ntmps16 rfl ?_
  intro W M Rf
  refine r_seq ?_
  refine r_region ?_
  refine o_boxA rfl rfl rfl rfl rfl (fun b3 => ?_)
  refine o_alloc rfl inf29 rfl rfl rfl rfl rfl (fun b6 => ?_)
  refine o_alloc rfl inf30 rfl rfl rfl rfl rfl (fun b7 => ?_)
  refine o_nil ?_
  repeat (first | with_reducible refine r_then ?_ | with_reducible refine r_in_normal ?_ | with_reducible refine r_sc_normal ?_)
  refine r_seq ?_
  refine r_region ?_
  refine o_defer rfl rfl rfl rfl ?_
  refine o_nil ?_
  repeat (first | with_reducible refine r_then ?_ | with_reducible refine r_in_normal ?_ | with_reducible refine r_sc_normal ?_)
  refine r_seq ?_
  refine r_parX 19 mixed (by kernel_rfl) (by rfl) ?_
  first | refine p_q _ rfl rfl rfl (fun _ _ => v_ldW rfl Tryd.underlying25 rfl inf25 rfl rfl) ?_ | refine p_q _ rfl rfl rfl (fun _ _ => v_lfW rfl Tryd.underlying25 rfl inf25 rfl rfl) ?_ | refine p_q _ rfl rfl rfl (fun _ _ => v_lfN rfl Tryd.underlying25 rfl inf25 rfl rfl rfl) ?_ | refine p_q _ rfl rfl rfl (fun _ _ => v_ldN rfl Tryd.underlying25 rfl inf25 rfl rfl rfl) ?_ | refine p_q _ rfl rfl rfl (fun _ _ => v_loadEN rfl Tryd.underlying25 rfl inf25 rfl (by omega) rfl rfl rfl) ?_
  first | refine p_q _ rfl rfl rfl (fun _ _ => v_ldW rfl Tryd.underlying25 rfl inf25 rfl rfl) ?_ | refine p_q _ rfl rfl rfl (fun _ _ => v_lfW rfl Tryd.underlying25 rfl inf25 rfl rfl) ?_ | refine p_q _ rfl rfl rfl (fun _ _ => v_lfN rfl Tryd.underlying25 rfl inf25 rfl rfl rfl) ?_ | refine p_q _ rfl rfl rfl (fun _ _ => v_ldN rfl Tryd.underlying25 rfl inf25 rfl rfl rfl) ?_ | refine p_q _ rfl rfl rfl (fun _ _ => v_loadEN rfl Tryd.underlying25 rfl inf25 rfl (by omega) rfl rfl rfl) ?_
  refine p_q _ rfl rfl rfl (fun _ _ => v_move rfl rfl) ?_
  refine p_q _ rfl rfl rfl (fun _ _ => v_cast (v := .bool true) (OpQ.fn (isWho_v D uo po uc pc who) rfl rfl SubRC.sub) (congrArg Value.bool h1)) ?_
  refine p_q _ rfl rfl rfl (fun _ _ => v_move rfl rfl) ?_
  first | refine p_gn rfl rfl rfl rfl ?_ | refine p_g _ rfl rfl rfl rfl (fun _ _ => v_move rfl rfl) ?_
  first | refine p_gn rfl rfl rfl rfl ?_ | refine p_g _ rfl rfl rfl rfl (fun _ _ => OpQ.fn (isDay_v d) rfl rfl SubRC.sub) ?_
  first | refine p_q _ rfl rfl rfl (fun _ _ => v_pick_t rfl rfl rfl) ?_ | refine p_q _ rfl rfl rfl (fun _ _ => v_pick_f rfl rfl rfl) ?_
  refine p_deadX (look_x1 D uo po uc pc _ hl1 hl2 hng) rfl rfl rfl rfl rfl SubRC.sub ?_
  refine p_q _ rfl rfl rfl (fun _ _ => v_move rfl rfl) ?_
  refine p_q _ rfl rfl rfl (fun _ _ => v_move rfl rfl) ?_
  refine p_acc (by simp only [List.nil_append, List.cons_append]; rfl) ?_
  refine p_dead 8 rfl rfl rfl (fun _ h => h) (by kernel_rfl) rfl rfl rfl ?_
  refine p_acc (by simp only [List.nil_append, List.cons_append]; rfl) ?_
  refine p_dead 11 rfl rfl rfl (fun _ h => h) (by kernel_rfl) rfl rfl rfl ?_
  refine p_acc (by simp only [List.nil_append, List.cons_append]; rfl) ?_
  refine p_dead 12 rfl rfl rfl (fun _ h => h) (by kernel_rfl) rfl rfl rfl ?_
  refine p_acc (by simp only [List.nil_append, List.cons_append]; rfl) ?_
  refine p_dead 12 rfl rfl rfl (fun _ h => h) (by kernel_rfl) rfl rfl rfl ?_
  refine p_alloc rfl inf77 rfl rfl rfl rfl rfl ?_
  refine p_alloc rfl inf77 rfl rfl rfl rfl rfl ?_
  refine p_acc (by simp only [List.nil_append, List.cons_append]; rfl) ?_
  refine p_deadS 13 rfl rfl rfl (fun _ h => h) (by kernel_rfl) rfl rfl ?_
  refine p_acc (by simp only [List.nil_append, List.cons_append]; rfl) ?_
  refine p_deadS 14 rfl rfl rfl (fun _ h => h) (by kernel_rfl) rfl rfl ?_
  refine p_nilX (panOf (.iface 103 (i64 1))) (by simp only [List.nil_append, List.cons_append]; rfl) rfl (by kernel_rfl) rfl ?_ ?_
  ·
    repeat (first | with_reducible refine r_then_panic ?_ | with_reducible refine r_in_panic ?_ | with_reducible refine r_sc_panic ?_)
    exact d_panv answer_ans (Rd.two rfl (RdI.cellW Tryd.underlying29 rfl inf29 rfl rfl) (RdI.cell1 Tryd.underlying30 rfl rfl rfl)) (by rw [aheadB, ansD_n (chkD_1 hng) (by decide)]; try rfl) SelMC.sel SubRC.sub
  ·
    refine f_q rfl ?_
    refine f_q rfl ?_
    refine f_q rfl ?_
    refine f_q rfl ?_
    refine f_q rfl ?_
    refine f_q rfl ?_
    refine f_q rfl ?_
    refine f_q rfl ?_
    exact f_dead
set_option maxHeartbeats 4000000 in
theorem ahead16_x2a (who d : Int) (hl1 : D.dues.length ≤ 40) (hl2 : D.paid.length ≤ 40) (hg : GoodD D) (h1 : isW D who = false) : FnV Tryd.prog 16 [valD D uo po uc pc, i64 who, i64 d] [rowD uo 5 encD D.dues, rowD po 4 encP D.paid, rowD (some ⟨0, 0, none⟩) 1 encE ([0, 1] : List Nat)] (.tuple #[vS (aheadB D who d).1, i64 (aheadB D who d).2]) := by
  refine FnV.introD Tryd.call16 Tryd.func16 rfl Tryd.ntmps16 rfl ?_
  intro W M Rf
  refine r_seq ?_
  refine r_region ?_
  refine o_boxA rfl rfl rfl rfl rfl (fun b3 => ?_)
  refine o_alloc rfl inf29 rfl rfl rfl rfl rfl (fun b6 => ?_)
  refine o_alloc rfl inf30 rfl rfl rfl rfl rfl (fun b7 => ?_)
  refine o_nil ?_
  repeat (first | with_reducible refine r_then ?_ | with_reducible refine r_in_normal ?_ | with_reducible refine r_sc_normal ?_)
  refine r_seq ?_
  refine r_region ?_
  refine o_defer rfl rfl rfl rfl ?_
  refine o_nil ?_
  repeat (first | with_reducible refine r_then ?_ | with_reducible refine r_in_normal ?_ | with_reducible refine r_sc_normal ?_)
  refine r_seq ?_
  refine r_parX 19 mixed (by kernel_rfl) (by rfl) ?_
  first | refine p_q _ rfl rfl rfl (fun _ _ => v_ldW rfl Tryd.underlying25 rfl inf25 rfl rfl) ?_ | refine p_q _ rfl rfl rfl (fun _ _ => v_lfW rfl Tryd.underlying25 rfl inf25 rfl rfl) ?_ | refine p_q _ rfl rfl rfl (fun _ _ => v_lfN rfl Tryd.underlying25 rfl inf25 rfl rfl rfl) ?_ | refine p_q _ rfl rfl rfl (fun _ _ => v_ldN rfl Tryd.underlying25 rfl inf25 rfl rfl rfl) ?_ | refine p_q _ rfl rfl rfl (fun _ _ => v_loadEN rfl Tryd.underlying25 rfl inf25 rfl (by omega) rfl rfl rfl) ?_
  first | refine p_q _ rfl rfl rfl (fun _ _ => v_ldW rfl Tryd.underlying25 rfl inf25 rfl rfl) ?_ | refine p_q _ rfl rfl rfl (fun _ _ => v_lfW rfl Tryd.underlying25 rfl inf25 rfl rfl) ?_ | refine p_q _ rfl rfl rfl (fun _ _ => v_lfN rfl Tryd.underlying25 rfl inf25 rfl rfl rfl) ?_ | refine p_q _ rfl rfl rfl (fun _ _ => v_ldN rfl Tryd.underlying25 rfl inf25 rfl rfl rfl) ?_ | refine p_q _ rfl rfl rfl (fun _ _ => v_loadEN rfl Tryd.underlying25 rfl inf25 rfl (by omega) rfl rfl rfl) ?_
  refine p_q _ rfl rfl rfl (fun _ _ => v_move rfl rfl) ?_
  refine p_q _ rfl rfl rfl (fun _ _ => v_cast (v := .bool false) (OpQ.fn (isWho_v D uo po uc pc who) rfl rfl SubRC.sub) (congrArg Value.bool h1)) ?_
  refine p_q _ rfl rfl rfl (fun _ _ => v_move rfl rfl) ?_
  first | refine p_gn rfl rfl rfl rfl ?_ | refine p_g _ rfl rfl rfl rfl (fun _ _ => v_move rfl rfl) ?_
  first | refine p_gn rfl rfl rfl rfl ?_ | refine p_g _ rfl rfl rfl rfl (fun _ _ => OpQ.fn (isDay_v d) rfl rfl SubRC.sub) ?_
  first | refine p_q _ rfl rfl rfl (fun _ _ => v_pick_t rfl rfl rfl) ?_ | refine p_q _ rfl rfl rfl (fun _ _ => v_pick_f rfl rfl rfl) ?_
  refine p_deadX (look_x2 D uo po uc pc hl1 hl2 hg) rfl rfl rfl rfl rfl SubRC.sub ?_
  refine p_q _ rfl rfl rfl (fun _ _ => v_move rfl rfl) ?_
  refine p_q _ rfl rfl rfl (fun _ _ => v_move rfl rfl) ?_
  refine p_acc (by simp only [List.nil_append, List.cons_append]; rfl) ?_
  refine p_dead 8 rfl rfl rfl (fun _ h => h) (by kernel_rfl) rfl rfl rfl ?_
  refine p_acc (by simp only [List.nil_append, List.cons_append]; rfl) ?_
  refine p_dead 11 rfl rfl rfl (fun _ h => h) (by kernel_rfl) rfl rfl rfl ?_
  refine p_acc (by simp only [List.nil_append, List.cons_append]; rfl) ?_
  refine p_dead 12 rfl rfl rfl (fun _ h => h) (by kernel_rfl) rfl rfl rfl ?_
  refine p_acc (by simp only [List.nil_append, List.cons_append]; rfl) ?_
  refine p_dead 12 rfl rfl rfl (fun _ h => h) (by kernel_rfl) rfl rfl rfl ?_
  refine p_alloc rfl inf77 rfl rfl rfl rfl rfl ?_
  refine p_alloc rfl inf77 rfl rfl rfl rfl rfl ?_
  refine p_acc (by simp only [List.nil_append, List.cons_append]; rfl) ?_
  refine p_deadS 13 rfl rfl rfl (fun _ h => h) (by kernel_rfl) rfl rfl ?_
  refine p_acc (by simp only [List.nil_append, List.cons_append]; rfl) ?_
  refine p_deadS 14 rfl rfl rfl (fun _ h => h) (by kernel_rfl) rfl rfl ?_
  refine p_nilX (panOf (.iface 103 (i64 2))) (by simp only [List.nil_append, List.cons_append]; rfl) rfl (by kernel_rfl) rfl ?_ ?_
  ·
    repeat (first | with_reducible refine r_then_panic ?_ | with_reducible refine r_in_panic ?_ | with_reducible refine r_sc_panic ?_)
    exact d_panv answer_ans (Rd.two rfl (RdI.cellW Tryd.underlying29 rfl inf29 rfl rfl) (RdI.cell1 Tryd.underlying30 rfl rfl rfl)) (by rw [aheadB, ansD_n (chkD_2 hg (okF1 h1)) (by decide)]; try rfl) SelMC.sel SubRC.sub
  ·
    refine f_q rfl ?_
    refine f_q rfl ?_
    refine f_q rfl ?_
    refine f_q rfl ?_
    refine f_q rfl ?_
    refine f_q rfl ?_
    refine f_q rfl ?_
    refine f_q rfl ?_
    exact f_dead
set_option maxHeartbeats 4000000 in
theorem ahead16_x2b (who d : Int) (hl1 : D.dues.length ≤ 40) (hl2 : D.paid.length ≤ 40) (hg : GoodD D) (h1 : isW D who = true) (h2 : isDy d = false) : FnV Tryd.prog 16 [valD D uo po uc pc, i64 who, i64 d] [rowD uo 5 encD D.dues, rowD po 4 encP D.paid, rowD (some ⟨0, 0, none⟩) 1 encE ([0, 1] : List Nat)] (.tuple #[vS (aheadB D who d).1, i64 (aheadB D who d).2]) := by
  refine FnV.introD Tryd.call16 Tryd.func16 rfl Tryd.ntmps16 rfl ?_
  intro W M Rf
  refine r_seq ?_
  refine r_region ?_
  refine o_boxA rfl rfl rfl rfl rfl (fun b3 => ?_)
  refine o_alloc rfl inf29 rfl rfl rfl rfl rfl (fun b6 => ?_)
  refine o_alloc rfl inf30 rfl rfl rfl rfl rfl (fun b7 => ?_)
  refine o_nil ?_
  repeat (first | with_reducible refine r_then ?_ | with_reducible refine r_in_normal ?_ | with_reducible refine r_sc_normal ?_)
  refine r_seq ?_
  refine r_region ?_
  refine o_defer rfl rfl rfl rfl ?_
  refine o_nil ?_
  repeat (first | with_reducible refine r_then ?_ | with_reducible refine r_in_normal ?_ | with_reducible refine r_sc_normal ?_)
  refine r_seq ?_
  refine r_parX 19 mixed (by kernel_rfl) (by rfl) ?_
  first | refine p_q _ rfl rfl rfl (fun _ _ => v_ldW rfl Tryd.underlying25 rfl inf25 rfl rfl) ?_ | refine p_q _ rfl rfl rfl (fun _ _ => v_lfW rfl Tryd.underlying25 rfl inf25 rfl rfl) ?_ | refine p_q _ rfl rfl rfl (fun _ _ => v_lfN rfl Tryd.underlying25 rfl inf25 rfl rfl rfl) ?_ | refine p_q _ rfl rfl rfl (fun _ _ => v_ldN rfl Tryd.underlying25 rfl inf25 rfl rfl rfl) ?_ | refine p_q _ rfl rfl rfl (fun _ _ => v_loadEN rfl Tryd.underlying25 rfl inf25 rfl (by omega) rfl rfl rfl) ?_
  first | refine p_q _ rfl rfl rfl (fun _ _ => v_ldW rfl Tryd.underlying25 rfl inf25 rfl rfl) ?_ | refine p_q _ rfl rfl rfl (fun _ _ => v_lfW rfl Tryd.underlying25 rfl inf25 rfl rfl) ?_ | refine p_q _ rfl rfl rfl (fun _ _ => v_lfN rfl Tryd.underlying25 rfl inf25 rfl rfl rfl) ?_ | refine p_q _ rfl rfl rfl (fun _ _ => v_ldN rfl Tryd.underlying25 rfl inf25 rfl rfl rfl) ?_ | refine p_q _ rfl rfl rfl (fun _ _ => v_loadEN rfl Tryd.underlying25 rfl inf25 rfl (by omega) rfl rfl rfl) ?_
  refine p_q _ rfl rfl rfl (fun _ _ => v_move rfl rfl) ?_
  refine p_q _ rfl rfl rfl (fun _ _ => v_cast (v := .bool true) (OpQ.fn (isWho_v D uo po uc pc who) rfl rfl SubRC.sub) (congrArg Value.bool h1)) ?_
  refine p_q _ rfl rfl rfl (fun _ _ => v_move rfl rfl) ?_
  first | refine p_gn rfl rfl rfl rfl ?_ | refine p_g _ rfl rfl rfl rfl (fun _ _ => v_move rfl rfl) ?_
  first | refine p_gn rfl rfl rfl rfl ?_ | refine p_g _ rfl rfl rfl rfl (fun _ _ => v_cast (v := .bool false) (OpQ.fn (isDay_v d) rfl rfl SubRC.sub) (congrArg Value.bool h2)) ?_
  first | refine p_q _ rfl rfl rfl (fun _ _ => v_pick_t rfl rfl rfl) ?_ | refine p_q _ rfl rfl rfl (fun _ _ => v_pick_f rfl rfl rfl) ?_
  refine p_deadX (look_x2 D uo po uc pc hl1 hl2 hg) rfl rfl rfl rfl rfl SubRC.sub ?_
  refine p_q _ rfl rfl rfl (fun _ _ => v_move rfl rfl) ?_
  refine p_q _ rfl rfl rfl (fun _ _ => v_move rfl rfl) ?_
  refine p_acc (by simp only [List.nil_append, List.cons_append]; rfl) ?_
  refine p_dead 8 rfl rfl rfl (fun _ h => h) (by kernel_rfl) rfl rfl rfl ?_
  refine p_acc (by simp only [List.nil_append, List.cons_append]; rfl) ?_
  refine p_dead 11 rfl rfl rfl (fun _ h => h) (by kernel_rfl) rfl rfl rfl ?_
  refine p_acc (by simp only [List.nil_append, List.cons_append]; rfl) ?_
  refine p_dead 12 rfl rfl rfl (fun _ h => h) (by kernel_rfl) rfl rfl rfl ?_
  refine p_acc (by simp only [List.nil_append, List.cons_append]; rfl) ?_
  refine p_dead 12 rfl rfl rfl (fun _ h => h) (by kernel_rfl) rfl rfl rfl ?_
  refine p_alloc rfl inf77 rfl rfl rfl rfl rfl ?_
  refine p_alloc rfl inf77 rfl rfl rfl rfl rfl ?_
  refine p_acc (by simp only [List.nil_append, List.cons_append]; rfl) ?_
  refine p_deadS 13 rfl rfl rfl (fun _ h => h) (by kernel_rfl) rfl rfl ?_
  refine p_acc (by simp only [List.nil_append, List.cons_append]; rfl) ?_
  refine p_deadS 14 rfl rfl rfl (fun _ h => h) (by kernel_rfl) rfl rfl ?_
  refine p_nilX (panOf (.iface 103 (i64 2))) (by simp only [List.nil_append, List.cons_append]; rfl) rfl (by kernel_rfl) rfl ?_ ?_
  ·
    repeat (first | with_reducible refine r_then_panic ?_ | with_reducible refine r_in_panic ?_ | with_reducible refine r_sc_panic ?_)
    exact d_panv answer_ans (Rd.two rfl (RdI.cellW Tryd.underlying29 rfl inf29 rfl rfl) (RdI.cell1 Tryd.underlying30 rfl rfl rfl)) (by rw [aheadB, ansD_n (chkD_2 hg (okF2 h2)) (by decide)]; try rfl) SelMC.sel SubRC.sub
  ·
    refine f_q rfl ?_
    refine f_q rfl ?_
    refine f_q rfl ?_
    refine f_q rfl ?_
    refine f_q rfl ?_
    refine f_q rfl ?_
    refine f_q rfl ?_
    refine f_q rfl ?_
    exact f_dead
set_option maxHeartbeats 4000000 in
theorem ahead16_ok (who d : Int) (hl1 : D.dues.length ≤ 40) (hl2 : D.paid.length ≤ 40) (hg : GoodD D) (h1 : isW D who = true) (h2 : isDy d = true) : FnV Tryd.prog 16 [valD D uo po uc pc, i64 who, i64 d] [rowD uo 5 encD D.dues, rowD po 4 encP D.paid, rowD (some ⟨0, 0, none⟩) 1 encE ([0, 1] : List Nat)] (.tuple #[vS (aheadB D who d).1, i64 (aheadB D who d).2]) := by
  obtain ⟨dn, rfl⟩ : ∃ n : Nat, d = n := ⟨d.toNat, by have := of_decide_eq_true h2; omega⟩
  have hd := of_decide_eq_true h2
  have hq1 := hg.np
  have hwr : IntKind.i64.wrap (D.people - 1) = D.people - 1 := IntWalk.i64_in _ (by omega)
  have hwh := of_decide_eq_true h1
  have hdn : dn ≤ 30 := by omega
  have hwb : -1000 ≤ who ∧ who ≤ 1000 := by omega
  refine FnV.introD Tryd.call16 Tryd.func16 rfl Tryd.ntmps16 rfl ?_
  intro W M Rf
  refine r_seq ?_
  refine r_region ?_
  refine o_boxA rfl rfl rfl rfl rfl (fun b3 => ?_)
  refine o_alloc rfl inf29 rfl rfl rfl rfl rfl (fun b6 => ?_)
  refine o_alloc rfl inf30 rfl rfl rfl rfl rfl (fun b7 => ?_)
  refine o_nil ?_
  repeat (first | with_reducible refine r_then ?_ | with_reducible refine r_in_normal ?_ | with_reducible refine r_sc_normal ?_)
  refine r_seq ?_
  refine r_region ?_
  refine o_defer rfl rfl rfl rfl ?_
  refine o_nil ?_
  repeat (first | with_reducible refine r_then ?_ | with_reducible refine r_in_normal ?_ | with_reducible refine r_sc_normal ?_)
  refine r_seq ?_
  refine r_parY (fun _ => True) (fun _ _ _ _ => trivial) [14] 17 (by kernel_rfl) (by kernel_rfl) (by kernel_rfl) (by kernel_rfl) (by kernel_rfl) mixed (by kernel_rfl) (by rfl) ?_
  first | refine p_q _ rfl rfl rfl (fun _ _ => v_ldW rfl Tryd.underlying25 rfl inf25 rfl rfl) ?_ | refine p_q _ rfl rfl rfl (fun _ _ => v_lfW rfl Tryd.underlying25 rfl inf25 rfl rfl) ?_ | refine p_q _ rfl rfl rfl (fun _ _ => v_lfN rfl Tryd.underlying25 rfl inf25 rfl rfl rfl) ?_ | refine p_q _ rfl rfl rfl (fun _ _ => v_ldN rfl Tryd.underlying25 rfl inf25 rfl rfl rfl) ?_ | refine p_q _ rfl rfl rfl (fun _ _ => v_loadEN rfl Tryd.underlying25 rfl inf25 rfl (by omega) rfl rfl rfl) ?_
  first | refine p_q _ rfl rfl rfl (fun _ _ => v_ldW rfl Tryd.underlying25 rfl inf25 rfl rfl) ?_ | refine p_q _ rfl rfl rfl (fun _ _ => v_lfW rfl Tryd.underlying25 rfl inf25 rfl rfl) ?_ | refine p_q _ rfl rfl rfl (fun _ _ => v_lfN rfl Tryd.underlying25 rfl inf25 rfl rfl rfl) ?_ | refine p_q _ rfl rfl rfl (fun _ _ => v_ldN rfl Tryd.underlying25 rfl inf25 rfl rfl rfl) ?_ | refine p_q _ rfl rfl rfl (fun _ _ => v_loadEN rfl Tryd.underlying25 rfl inf25 rfl (by omega) rfl rfl rfl) ?_
  refine p_q _ rfl rfl rfl (fun _ _ => v_move rfl rfl) ?_
  refine p_q _ rfl rfl rfl (fun _ _ => v_cast (v := .bool true) (OpQ.fn (isWho_v D uo po uc pc who) rfl rfl SubRC.sub) (congrArg Value.bool h1)) ?_
  refine p_q _ rfl rfl rfl (fun _ _ => v_move rfl rfl) ?_
  first | refine p_gn rfl rfl rfl rfl ?_ | refine p_g _ rfl rfl rfl rfl (fun _ _ => v_move rfl rfl) ?_
  first | refine p_gn rfl rfl rfl rfl ?_ | refine p_g _ rfl rfl rfl rfl (fun _ _ => v_cast (v := .bool true) (OpQ.fn (isDay_v _) rfl rfl SubRC.sub) (congrArg Value.bool h2)) ?_
  first | refine p_q _ rfl rfl rfl (fun _ _ => v_pick_t rfl rfl rfl) ?_ | refine p_q _ rfl rfl rfl (fun _ _ => v_pick_f rfl rfl rfl) ?_
  refine p_openL 11 (look_ok D uo po uc pc hl1 hl2 hg) rfl rfl rfl rfl rfl SubRC.sub ?_
  refine p_q _ rfl rfl rfl (fun _ _ => v_move rfl rfl) ?_
  refine p_q _ rfl rfl rfl (fun _ _ => v_move rfl rfl) ?_
  refine p_acc (by simp only [List.nil_append, List.cons_append]; rfl) ?_
  refine p_takeG 8 (led_both D uo po uc pc who dn hg hwb hdn) rfl rfl rfl (fun b => rfl) rfl (by kernel_rfl) rfl rfl rfl SubRC.sub ?_
  refine p_acc (by simp only [List.nil_append, List.cons_append]; rfl) ?_
  refine p_depU (pv := isAA (progA D 0 who (dn + 1)) (progA D 1 who (dn + 1))) (fc := facAA (progA D 0 who (dn + 1)) (progA D 1 who (dn + 1))) 11 (fun u => u) rfl rfl rfl rfl (by kernel_rfl) rfl rfl rfl (fun u h => ⟨h, fun _ h => h⟩) (fun u _ _ _ => v_move rfl rfl) ?_
  refine p_acc (by simp only [List.nil_append, List.cons_append]; rfl) ?_
  refine p_depU (pv := isA (progA D 0 who (dn + 1))) (fc := facA (progA D 0 who (dn + 1))) 12 (fstT) rfl rfl rfl rfl (by kernel_rfl) rfl rfl rfl (fun u h => depF h) (fun u h _ _ => depX h rfl rfl) ?_
  refine p_acc (by simp only [List.nil_append, List.cons_append]; rfl) ?_
  refine p_depU (pv := isA (progA D 1 who (dn + 1))) (fc := facA (progA D 1 who (dn + 1))) 12 (sndT) rfl rfl rfl rfl (by kernel_rfl) rfl rfl rfl (fun u h => depS h) (fun u h _ _ => depY h rfl rfl) ?_
  refine p_alloc rfl inf77 rfl rfl rfl rfl rfl ?_
  refine p_alloc rfl inf77 rfl rfl rfl rfl rfl ?_
  refine p_nilF (by simp only [List.nil_append, List.cons_append]; rfl) rfl ⟨⟨_, _, _, rfl, rfl, rfl, rfl, rfl, rfl, rfl, fun _ => rfl, .inr ⟨rfl, 12, _, _, sndT, rfl, rfl, rfl, (by kernel_rfl), rfl, fun u h => ⟨(depS h).1, (depS h).2, floatS h rfl rfl⟩⟩⟩, trivial⟩ ?_ (by kernel_rfl)
  refine f_q rfl ?_
  refine f_q rfl ?_
  refine f_q rfl ?_
  refine f_q rfl ?_
  refine f_q rfl ?_
  refine f_q rfl ?_
  refine f_q rfl ?_
  refine f_q rfl ?_
  refine f_openL rfl (fun b19 => ?_)
  refine f_q rfl ?_
  refine f_q rfl ?_
  refine f_takeG rfl (fun v22 hv22 => ?_)
  refine f_gf rfl (fun v12 hv12 => ?_)
  refine f_gf rfl (fun v13 hv13 => ?_)
  refine f_gf rfl (fun v14 hv14 => ?_)
  refine f_alloc rfl (fun b8 => ?_)
  refine f_alloc rfl (fun b9 => ?_)
  refine f_nil ?_
  obtain ⟨oa, ca, rfl⟩ := hv13
  obtain ⟨ob, cb, rfl⟩ := hv14
  refine Imp.derive (ψ := rowD ob 4 encO (progA D 1 who (dn + 1)).1) ?_ (fun V hV => hV _ (List.mem_append_left _ (List.mem_singleton.2 rfl)))
  refine Imp.derive (ψ := rowD oa 4 encO (progA D 0 who (dn + 1)).1) ?_ (fun V hV => hV _ (List.mem_cons_of_mem _ (List.mem_append_right _ (List.mem_append_left _ (List.mem_singleton.2 rfl)))))
  refine oz_lift (fun _ _ => trivial) ?_
  refine o_st rfl inf77 rfl rfl rfl rfl rfl rfl rfl rfl ?_
  refine o_nil ?_
  refine r_then ?_
  refine oz_lift (fun _ _ => trivial) ?_
  refine o_st rfl inf77 rfl rfl rfl rfl rfl rfl rfl rfl ?_
  refine o_nil ?_
  refine r_then ?_
  refine oz_nil (fun _ _ => trivial) ?_
  refine r_nop ?_
  repeat (first | with_reducible refine r_then ?_ | with_reducible refine r_in_normal ?_ | with_reducible refine r_sc_normal ?_)
  refine r_seq ?_
  refine Imp.box_to b8 [.slice oa (progA D 0 who (dn + 1)).1.length ca, i64 (progA D 0 who (dn + 1)).2] rfl ?_
  refine Imp.box_to b9 [.slice ob (progA D 1 who (dn + 1)).1.length cb, i64 (progA D 1 who (dn + 1)).2] rfl ?_
  refine r_region ?_
  first | refine o_q _ rfl rfl rfl (v_fieldAddr rfl Tryd.underlying77 inf75 rfl rfl rfl rfl) ?_ | refine o_q _ rfl rfl rfl (v_fieldAddrE rfl Tryd.underlying77 inf75 rfl rfl rfl rfl) ?_
  first | refine o_q _ rfl rfl rfl (v_ld1 rfl Tryd.underlying75 rfl rfl rfl) ?_ | refine o_q _ rfl rfl rfl (v_lf1 rfl Tryd.underlying75 rfl rfl rfl) ?_ | refine o_q _ rfl rfl rfl (v_loadE1 rfl Tryd.underlying75 rfl rfl (by omega) rfl rfl) ?_
  first | refine o_q _ rfl rfl rfl (v_fieldAddr rfl Tryd.underlying77 inf75 rfl rfl rfl rfl) ?_ | refine o_q _ rfl rfl rfl (v_fieldAddrE rfl Tryd.underlying77 inf75 rfl rfl rfl rfl) ?_
  first | refine o_q _ rfl rfl rfl (v_ld1 rfl Tryd.underlying75 rfl rfl rfl) ?_ | refine o_q _ rfl rfl rfl (v_lf1 rfl Tryd.underlying75 rfl rfl rfl) ?_ | refine o_q _ rfl rfl rfl (v_loadE1 rfl Tryd.underlying75 rfl rfl (by omega) rfl rfl) ?_
  refine o_q _ rfl rfl rfl (v_bS rfl Tryd.underlying29 inf29 plt29 rfl rfl rfl (by repeat (first | exact trivial | refine ⟨rfl, ?_⟩)) (by rfl)) ?_
  refine o_st rfl inf29 rfl rfl rfl rfl rfl rfl rfl rfl ?_
  refine o_st rfl inf30 rfl rfl rfl rfl rfl rfl rfl rfl ?_
  refine o_nil ?_
  repeat (first | with_reducible refine r_then ?_ | with_reducible refine r_in_normal ?_ | with_reducible refine r_sc_normal ?_)
  refine r_ret ?_
  repeat (first | with_reducible refine r_then_ret ?_ | with_reducible refine r_in_ret ?_ | with_reducible refine r_sc_ret ?_)
  exact d_retv answer_ans (Rd.two rfl (RdI.cellW Tryd.underlying29 rfl inf29 rfl rfl) (RdI.cell1 Tryd.underlying30 rfl rfl rfl)) (by rw [aheadB, ansD_0 (chkD_0 hg (okT h1 h2)), Int.toNat_natCast]; try rfl) SelMC.sel SubRC.sub
theorem ahead16_v (who d : Int) (hl1 : D.dues.length ≤ 40) (hl2 : D.paid.length ≤ 40) : FnV Tryd.prog 16 [valD D uo po uc pc, i64 who, i64 d] [rowD uo 5 encD D.dues, rowD po 4 encP D.paid, rowD (some ⟨0, 0, none⟩) 1 encE ([0, 1] : List Nat)] (.tuple #[vS (aheadB D who d).1, i64 (aheadB D who d).2]) := by
  by_cases hg : GoodD D
  · cases h1 : isW D who
    · exact ahead16_x2a D uo po uc pc who d hl1 hl2 hg h1
    · cases h2 : isDy d
      · exact ahead16_x2b D uo po uc pc who d hl1 hl2 hg h1 h2
      · exact ahead16_ok D uo po uc pc who d hl1 hl2 hg h1 h2
  · cases h1 : isW D who
    · exact ahead16_x1a D uo po uc pc who d hl1 hl2 hg h1
    · exact ahead16_x1b D uo po uc pc who d hl1 hl2 hg h1
set_option maxHeartbeats 4000000 in
theorem open20_x1a (who d : Int) (hl1 : D.dues.length ≤ 40) (hl2 : D.paid.length ≤ 40) (hng : ¬ GoodD D) (h1 : isW D who = false) : FnV Tryd.prog 20 [valD D uo po uc pc, i64 who, i64 d] [rowD uo 5 encD D.dues, rowD po 4 encP D.paid, rowD (some ⟨0, 0, none⟩) 1 encE ([0, 1] : List Nat)] (.tuple #[i64 ((openB D who d).1.1 : Nat), i64 ((openB D who d).1.2 : Nat), i64 (openB D who d).2]) := by
  refine FnV.introD Tryd.call20 Tryd.func20 rfl Tryd.ntmps20 rfl ?_
  intro W M Rf
  refine r_seq ?_
  refine r_region ?_
  refine o_boxA rfl rfl rfl rfl rfl (fun b3 => ?_)
  refine o_q _ rfl rfl rfl (v_assign rfl rfl) ?_
  refine o_q _ rfl rfl rfl (v_assign rfl rfl) ?_
  refine o_alloc rfl inf30 rfl rfl rfl rfl rfl (fun b8 => ?_)
  refine o_nil ?_
  repeat (first | with_reducible refine r_then ?_ | with_reducible refine r_in_normal ?_ | with_reducible refine r_sc_normal ?_)
  refine r_seq ?_
  refine r_region ?_
  refine o_defer rfl rfl rfl rfl ?_
  refine o_nil ?_
  repeat (first | with_reducible refine r_then ?_ | with_reducible refine r_in_normal ?_ | with_reducible refine r_sc_normal ?_)
  refine r_seq ?_
  refine r_parX 19 mixed (by kernel_rfl) (by rfl) ?_
  first | refine p_q _ rfl rfl rfl (fun _ _ => v_ldW rfl Tryd.underlying25 rfl inf25 rfl rfl) ?_ | refine p_q _ rfl rfl rfl (fun _ _ => v_lfW rfl Tryd.underlying25 rfl inf25 rfl rfl) ?_ | refine p_q _ rfl rfl rfl (fun _ _ => v_lfN rfl Tryd.underlying25 rfl inf25 rfl rfl rfl) ?_ | refine p_q _ rfl rfl rfl (fun _ _ => v_ldN rfl Tryd.underlying25 rfl inf25 rfl rfl rfl) ?_ | refine p_q _ rfl rfl rfl (fun _ _ => v_loadEN rfl Tryd.underlying25 rfl inf25 rfl (by omega) rfl rfl rfl) ?_
  first | refine p_q _ rfl rfl rfl (fun _ _ => v_ldW rfl Tryd.underlying25 rfl inf25 rfl rfl) ?_ | refine p_q _ rfl rfl rfl (fun _ _ => v_lfW rfl Tryd.underlying25 rfl inf25 rfl rfl) ?_ | refine p_q _ rfl rfl rfl (fun _ _ => v_lfN rfl Tryd.underlying25 rfl inf25 rfl rfl rfl) ?_ | refine p_q _ rfl rfl rfl (fun _ _ => v_ldN rfl Tryd.underlying25 rfl inf25 rfl rfl rfl) ?_ | refine p_q _ rfl rfl rfl (fun _ _ => v_loadEN rfl Tryd.underlying25 rfl inf25 rfl (by omega) rfl rfl rfl) ?_
  refine p_q _ rfl rfl rfl (fun _ _ => v_move rfl rfl) ?_
  refine p_q _ rfl rfl rfl (fun _ _ => v_cast (v := .bool false) (OpQ.fn (isWho_v D uo po uc pc who) rfl rfl SubRC.sub) (congrArg Value.bool h1)) ?_
  refine p_q _ rfl rfl rfl (fun _ _ => v_move rfl rfl) ?_
  first | refine p_gn rfl rfl rfl rfl ?_ | refine p_g _ rfl rfl rfl rfl (fun _ _ => v_move rfl rfl) ?_
  first | refine p_gn rfl rfl rfl rfl ?_ | refine p_g _ rfl rfl rfl rfl (fun _ _ => OpQ.fn (isDay_v d) rfl rfl SubRC.sub) ?_
  first | refine p_q _ rfl rfl rfl (fun _ _ => v_pick_t rfl rfl rfl) ?_ | refine p_q _ rfl rfl rfl (fun _ _ => v_pick_f rfl rfl rfl) ?_
  refine p_deadX (look_x1 D uo po uc pc _ hl1 hl2 hng) rfl rfl rfl rfl rfl SubRC.sub ?_
  refine p_q _ rfl rfl rfl (fun _ _ => v_move rfl rfl) ?_
  refine p_q _ rfl rfl rfl (fun _ _ => v_move rfl rfl) ?_
  refine p_acc (by simp only [List.nil_append, List.cons_append]; rfl) ?_
  refine p_dead 8 rfl rfl rfl (fun _ h => h) (by kernel_rfl) rfl rfl rfl ?_
  refine p_acc (by simp only [List.nil_append, List.cons_append]; rfl) ?_
  refine p_dead 11 rfl rfl rfl (fun _ h => h) (by kernel_rfl) rfl rfl rfl ?_
  refine p_acc (by simp only [List.nil_append, List.cons_append]; rfl) ?_
  refine p_dead 12 rfl rfl rfl (fun _ h => h) (by kernel_rfl) rfl rfl rfl ?_
  refine p_acc (by simp only [List.nil_append, List.cons_append]; rfl) ?_
  refine p_dead 12 rfl rfl rfl (fun _ h => h) (by kernel_rfl) rfl rfl rfl ?_
  refine p_alloc rfl inf77 rfl rfl rfl rfl rfl ?_
  refine p_alloc rfl inf77 rfl rfl rfl rfl rfl ?_
  refine p_acc (by simp only [List.nil_append, List.cons_append]; rfl) ?_
  refine p_deadS 13 rfl rfl rfl (fun _ h => h) (by kernel_rfl) rfl rfl ?_
  refine p_acc (by simp only [List.nil_append, List.cons_append]; rfl) ?_
  refine p_deadS 14 rfl rfl rfl (fun _ h => h) (by kernel_rfl) rfl rfl ?_
  refine p_nilX (panOf (.iface 103 (i64 1))) (by simp only [List.nil_append, List.cons_append]; rfl) rfl (by kernel_rfl) rfl ?_ ?_
  ·
    repeat (first | with_reducible refine r_then_panic ?_ | with_reducible refine r_in_panic ?_ | with_reducible refine r_sc_panic ?_)
    exact d_panv answer_ans (Rd.three rfl (RdI.tmp rfl) (RdI.tmp rfl) (RdI.cell1 Tryd.underlying30 rfl rfl rfl)) (by rw [openB, ansD_n (chkD_1 hng) (by decide)]; try rfl) SelMC.sel SubRC.sub
  ·
    refine f_q rfl ?_
    refine f_q rfl ?_
    refine f_q rfl ?_
    refine f_q rfl ?_
    refine f_q rfl ?_
    refine f_q rfl ?_
    refine f_q rfl ?_
    refine f_q rfl ?_
    exact f_dead
set_option maxHeartbeats 4000000 in
theorem open20_x1b (who d : Int) (hl1 : D.dues.length ≤ 40) (hl2 : D.paid.length ≤ 40) (hng : ¬ GoodD D) (h1 : isW D who = true) : FnV Tryd.prog 20 [valD D uo po uc pc, i64 who, i64 d] [rowD uo 5 encD D.dues, rowD po 4 encP D.paid, rowD (some ⟨0, 0, none⟩) 1 encE ([0, 1] : List Nat)] (.tuple #[i64 ((openB D who d).1.1 : Nat), i64 ((openB D who d).1.2 : Nat), i64 (openB D who d).2]) := by
  refine FnV.introD Tryd.call20 Tryd.func20 rfl Tryd.ntmps20 rfl ?_
  intro W M Rf
  refine r_seq ?_
  refine r_region ?_
  refine o_boxA rfl rfl rfl rfl rfl (fun b3 => ?_)
  refine o_q _ rfl rfl rfl (v_assign rfl rfl) ?_
  refine o_q _ rfl rfl rfl (v_assign rfl rfl) ?_
  refine o_alloc rfl inf30 rfl rfl rfl rfl rfl (fun b8 => ?_)
  refine o_nil ?_
  repeat (first | with_reducible refine r_then ?_ | with_reducible refine r_in_normal ?_ | with_reducible refine r_sc_normal ?_)
  refine r_seq ?_
  refine r_region ?_
  refine o_defer rfl rfl rfl rfl ?_
  refine o_nil ?_
  repeat (first | with_reducible refine r_then ?_ | with_reducible refine r_in_normal ?_ | with_reducible refine r_sc_normal ?_)
  refine r_seq ?_
  refine r_parX 19 mixed (by kernel_rfl) (by rfl) ?_
  first | refine p_q _ rfl rfl rfl (fun _ _ => v_ldW rfl Tryd.underlying25 rfl inf25 rfl rfl) ?_ | refine p_q _ rfl rfl rfl (fun _ _ => v_lfW rfl Tryd.underlying25 rfl inf25 rfl rfl) ?_ | refine p_q _ rfl rfl rfl (fun _ _ => v_lfN rfl Tryd.underlying25 rfl inf25 rfl rfl rfl) ?_ | refine p_q _ rfl rfl rfl (fun _ _ => v_ldN rfl Tryd.underlying25 rfl inf25 rfl rfl rfl) ?_ | refine p_q _ rfl rfl rfl (fun _ _ => v_loadEN rfl Tryd.underlying25 rfl inf25 rfl (by omega) rfl rfl rfl) ?_
  first | refine p_q _ rfl rfl rfl (fun _ _ => v_ldW rfl Tryd.underlying25 rfl inf25 rfl rfl) ?_ | refine p_q _ rfl rfl rfl (fun _ _ => v_lfW rfl Tryd.underlying25 rfl inf25 rfl rfl) ?_ | refine p_q _ rfl rfl rfl (fun _ _ => v_lfN rfl Tryd.underlying25 rfl inf25 rfl rfl rfl) ?_ | refine p_q _ rfl rfl rfl (fun _ _ => v_ldN rfl Tryd.underlying25 rfl inf25 rfl rfl rfl) ?_ | refine p_q _ rfl rfl rfl (fun _ _ => v_loadEN rfl Tryd.underlying25 rfl inf25 rfl (by omega) rfl rfl rfl) ?_
  refine p_q _ rfl rfl rfl (fun _ _ => v_move rfl rfl) ?_
  refine p_q _ rfl rfl rfl (fun _ _ => v_cast (v := .bool true) (OpQ.fn (isWho_v D uo po uc pc who) rfl rfl SubRC.sub) (congrArg Value.bool h1)) ?_
  refine p_q _ rfl rfl rfl (fun _ _ => v_move rfl rfl) ?_
  first | refine p_gn rfl rfl rfl rfl ?_ | refine p_g _ rfl rfl rfl rfl (fun _ _ => v_move rfl rfl) ?_
  first | refine p_gn rfl rfl rfl rfl ?_ | refine p_g _ rfl rfl rfl rfl (fun _ _ => OpQ.fn (isDay_v d) rfl rfl SubRC.sub) ?_
  first | refine p_q _ rfl rfl rfl (fun _ _ => v_pick_t rfl rfl rfl) ?_ | refine p_q _ rfl rfl rfl (fun _ _ => v_pick_f rfl rfl rfl) ?_
  refine p_deadX (look_x1 D uo po uc pc _ hl1 hl2 hng) rfl rfl rfl rfl rfl SubRC.sub ?_
  refine p_q _ rfl rfl rfl (fun _ _ => v_move rfl rfl) ?_
  refine p_q _ rfl rfl rfl (fun _ _ => v_move rfl rfl) ?_
  refine p_acc (by simp only [List.nil_append, List.cons_append]; rfl) ?_
  refine p_dead 8 rfl rfl rfl (fun _ h => h) (by kernel_rfl) rfl rfl rfl ?_
  refine p_acc (by simp only [List.nil_append, List.cons_append]; rfl) ?_
  refine p_dead 11 rfl rfl rfl (fun _ h => h) (by kernel_rfl) rfl rfl rfl ?_
  refine p_acc (by simp only [List.nil_append, List.cons_append]; rfl) ?_
  refine p_dead 12 rfl rfl rfl (fun _ h => h) (by kernel_rfl) rfl rfl rfl ?_
  refine p_acc (by simp only [List.nil_append, List.cons_append]; rfl) ?_
  refine p_dead 12 rfl rfl rfl (fun _ h => h) (by kernel_rfl) rfl rfl rfl ?_
  refine p_alloc rfl inf77 rfl rfl rfl rfl rfl ?_
  refine p_alloc rfl inf77 rfl rfl rfl rfl rfl ?_
  refine p_acc (by simp only [List.nil_append, List.cons_append]; rfl) ?_
  refine p_deadS 13 rfl rfl rfl (fun _ h => h) (by kernel_rfl) rfl rfl ?_
  refine p_acc (by simp only [List.nil_append, List.cons_append]; rfl) ?_
  refine p_deadS 14 rfl rfl rfl (fun _ h => h) (by kernel_rfl) rfl rfl ?_
  refine p_nilX (panOf (.iface 103 (i64 1))) (by simp only [List.nil_append, List.cons_append]; rfl) rfl (by kernel_rfl) rfl ?_ ?_
  ·
    repeat (first | with_reducible refine r_then_panic ?_ | with_reducible refine r_in_panic ?_ | with_reducible refine r_sc_panic ?_)
    exact d_panv answer_ans (Rd.three rfl (RdI.tmp rfl) (RdI.tmp rfl) (RdI.cell1 Tryd.underlying30 rfl rfl rfl)) (by rw [openB, ansD_n (chkD_1 hng) (by decide)]; try rfl) SelMC.sel SubRC.sub
  ·
    refine f_q rfl ?_
    refine f_q rfl ?_
    refine f_q rfl ?_
    refine f_q rfl ?_
    refine f_q rfl ?_
    refine f_q rfl ?_
    refine f_q rfl ?_
    refine f_q rfl ?_
    exact f_dead
set_option maxHeartbeats 4000000 in
theorem open20_x2a (who d : Int) (hl1 : D.dues.length ≤ 40) (hl2 : D.paid.length ≤ 40) (hg : GoodD D) (h1 : isW D who = false) : FnV Tryd.prog 20 [valD D uo po uc pc, i64 who, i64 d] [rowD uo 5 encD D.dues, rowD po 4 encP D.paid, rowD (some ⟨0, 0, none⟩) 1 encE ([0, 1] : List Nat)] (.tuple #[i64 ((openB D who d).1.1 : Nat), i64 ((openB D who d).1.2 : Nat), i64 (openB D who d).2]) := by
  refine FnV.introD Tryd.call20 Tryd.func20 rfl Tryd.ntmps20 rfl ?_
  intro W M Rf
  refine r_seq ?_
  refine r_region ?_
  refine o_boxA rfl rfl rfl rfl rfl (fun b3 => ?_)
  refine o_q _ rfl rfl rfl (v_assign rfl rfl) ?_
  refine o_q _ rfl rfl rfl (v_assign rfl rfl) ?_
  refine o_alloc rfl inf30 rfl rfl rfl rfl rfl (fun b8 => ?_)
  refine o_nil ?_
  repeat (first | with_reducible refine r_then ?_ | with_reducible refine r_in_normal ?_ | with_reducible refine r_sc_normal ?_)
  refine r_seq ?_
  refine r_region ?_
  refine o_defer rfl rfl rfl rfl ?_
  refine o_nil ?_
  repeat (first | with_reducible refine r_then ?_ | with_reducible refine r_in_normal ?_ | with_reducible refine r_sc_normal ?_)
  refine r_seq ?_
  refine r_parX 19 mixed (by kernel_rfl) (by rfl) ?_
  first | refine p_q _ rfl rfl rfl (fun _ _ => v_ldW rfl Tryd.underlying25 rfl inf25 rfl rfl) ?_ | refine p_q _ rfl rfl rfl (fun _ _ => v_lfW rfl Tryd.underlying25 rfl inf25 rfl rfl) ?_ | refine p_q _ rfl rfl rfl (fun _ _ => v_lfN rfl Tryd.underlying25 rfl inf25 rfl rfl rfl) ?_ | refine p_q _ rfl rfl rfl (fun _ _ => v_ldN rfl Tryd.underlying25 rfl inf25 rfl rfl rfl) ?_ | refine p_q _ rfl rfl rfl (fun _ _ => v_loadEN rfl Tryd.underlying25 rfl inf25 rfl (by omega) rfl rfl rfl) ?_
  first | refine p_q _ rfl rfl rfl (fun _ _ => v_ldW rfl Tryd.underlying25 rfl inf25 rfl rfl) ?_ | refine p_q _ rfl rfl rfl (fun _ _ => v_lfW rfl Tryd.underlying25 rfl inf25 rfl rfl) ?_ | refine p_q _ rfl rfl rfl (fun _ _ => v_lfN rfl Tryd.underlying25 rfl inf25 rfl rfl rfl) ?_ | refine p_q _ rfl rfl rfl (fun _ _ => v_ldN rfl Tryd.underlying25 rfl inf25 rfl rfl rfl) ?_ | refine p_q _ rfl rfl rfl (fun _ _ => v_loadEN rfl Tryd.underlying25 rfl inf25 rfl (by omega) rfl rfl rfl) ?_
  refine p_q _ rfl rfl rfl (fun _ _ => v_move rfl rfl) ?_
  refine p_q _ rfl rfl rfl (fun _ _ => v_cast (v := .bool false) (OpQ.fn (isWho_v D uo po uc pc who) rfl rfl SubRC.sub) (congrArg Value.bool h1)) ?_
  refine p_q _ rfl rfl rfl (fun _ _ => v_move rfl rfl) ?_
  first | refine p_gn rfl rfl rfl rfl ?_ | refine p_g _ rfl rfl rfl rfl (fun _ _ => v_move rfl rfl) ?_
  first | refine p_gn rfl rfl rfl rfl ?_ | refine p_g _ rfl rfl rfl rfl (fun _ _ => OpQ.fn (isDay_v d) rfl rfl SubRC.sub) ?_
  first | refine p_q _ rfl rfl rfl (fun _ _ => v_pick_t rfl rfl rfl) ?_ | refine p_q _ rfl rfl rfl (fun _ _ => v_pick_f rfl rfl rfl) ?_
  refine p_deadX (look_x2 D uo po uc pc hl1 hl2 hg) rfl rfl rfl rfl rfl SubRC.sub ?_
  refine p_q _ rfl rfl rfl (fun _ _ => v_move rfl rfl) ?_
  refine p_q _ rfl rfl rfl (fun _ _ => v_move rfl rfl) ?_
  refine p_acc (by simp only [List.nil_append, List.cons_append]; rfl) ?_
  refine p_dead 8 rfl rfl rfl (fun _ h => h) (by kernel_rfl) rfl rfl rfl ?_
  refine p_acc (by simp only [List.nil_append, List.cons_append]; rfl) ?_
  refine p_dead 11 rfl rfl rfl (fun _ h => h) (by kernel_rfl) rfl rfl rfl ?_
  refine p_acc (by simp only [List.nil_append, List.cons_append]; rfl) ?_
  refine p_dead 12 rfl rfl rfl (fun _ h => h) (by kernel_rfl) rfl rfl rfl ?_
  refine p_acc (by simp only [List.nil_append, List.cons_append]; rfl) ?_
  refine p_dead 12 rfl rfl rfl (fun _ h => h) (by kernel_rfl) rfl rfl rfl ?_
  refine p_alloc rfl inf77 rfl rfl rfl rfl rfl ?_
  refine p_alloc rfl inf77 rfl rfl rfl rfl rfl ?_
  refine p_acc (by simp only [List.nil_append, List.cons_append]; rfl) ?_
  refine p_deadS 13 rfl rfl rfl (fun _ h => h) (by kernel_rfl) rfl rfl ?_
  refine p_acc (by simp only [List.nil_append, List.cons_append]; rfl) ?_
  refine p_deadS 14 rfl rfl rfl (fun _ h => h) (by kernel_rfl) rfl rfl ?_
  refine p_nilX (panOf (.iface 103 (i64 2))) (by simp only [List.nil_append, List.cons_append]; rfl) rfl (by kernel_rfl) rfl ?_ ?_
  ·
    repeat (first | with_reducible refine r_then_panic ?_ | with_reducible refine r_in_panic ?_ | with_reducible refine r_sc_panic ?_)
    exact d_panv answer_ans (Rd.three rfl (RdI.tmp rfl) (RdI.tmp rfl) (RdI.cell1 Tryd.underlying30 rfl rfl rfl)) (by rw [openB, ansD_n (chkD_2 hg (okF1 h1)) (by decide)]; try rfl) SelMC.sel SubRC.sub
  ·
    refine f_q rfl ?_
    refine f_q rfl ?_
    refine f_q rfl ?_
    refine f_q rfl ?_
    refine f_q rfl ?_
    refine f_q rfl ?_
    refine f_q rfl ?_
    refine f_q rfl ?_
    exact f_dead
set_option maxHeartbeats 4000000 in
theorem open20_x2b (who d : Int) (hl1 : D.dues.length ≤ 40) (hl2 : D.paid.length ≤ 40) (hg : GoodD D) (h1 : isW D who = true) (h2 : isDy d = false) : FnV Tryd.prog 20 [valD D uo po uc pc, i64 who, i64 d] [rowD uo 5 encD D.dues, rowD po 4 encP D.paid, rowD (some ⟨0, 0, none⟩) 1 encE ([0, 1] : List Nat)] (.tuple #[i64 ((openB D who d).1.1 : Nat), i64 ((openB D who d).1.2 : Nat), i64 (openB D who d).2]) := by
  refine FnV.introD Tryd.call20 Tryd.func20 rfl Tryd.ntmps20 rfl ?_
  intro W M Rf
  refine r_seq ?_
  refine r_region ?_
  refine o_boxA rfl rfl rfl rfl rfl (fun b3 => ?_)
  refine o_q _ rfl rfl rfl (v_assign rfl rfl) ?_
  refine o_q _ rfl rfl rfl (v_assign rfl rfl) ?_
  refine o_alloc rfl inf30 rfl rfl rfl rfl rfl (fun b8 => ?_)
  refine o_nil ?_
  repeat (first | with_reducible refine r_then ?_ | with_reducible refine r_in_normal ?_ | with_reducible refine r_sc_normal ?_)
  refine r_seq ?_
  refine r_region ?_
  refine o_defer rfl rfl rfl rfl ?_
  refine o_nil ?_
  repeat (first | with_reducible refine r_then ?_ | with_reducible refine r_in_normal ?_ | with_reducible refine r_sc_normal ?_)
  refine r_seq ?_
  refine r_parX 19 mixed (by kernel_rfl) (by rfl) ?_
  first | refine p_q _ rfl rfl rfl (fun _ _ => v_ldW rfl Tryd.underlying25 rfl inf25 rfl rfl) ?_ | refine p_q _ rfl rfl rfl (fun _ _ => v_lfW rfl Tryd.underlying25 rfl inf25 rfl rfl) ?_ | refine p_q _ rfl rfl rfl (fun _ _ => v_lfN rfl Tryd.underlying25 rfl inf25 rfl rfl rfl) ?_ | refine p_q _ rfl rfl rfl (fun _ _ => v_ldN rfl Tryd.underlying25 rfl inf25 rfl rfl rfl) ?_ | refine p_q _ rfl rfl rfl (fun _ _ => v_loadEN rfl Tryd.underlying25 rfl inf25 rfl (by omega) rfl rfl rfl) ?_
  first | refine p_q _ rfl rfl rfl (fun _ _ => v_ldW rfl Tryd.underlying25 rfl inf25 rfl rfl) ?_ | refine p_q _ rfl rfl rfl (fun _ _ => v_lfW rfl Tryd.underlying25 rfl inf25 rfl rfl) ?_ | refine p_q _ rfl rfl rfl (fun _ _ => v_lfN rfl Tryd.underlying25 rfl inf25 rfl rfl rfl) ?_ | refine p_q _ rfl rfl rfl (fun _ _ => v_ldN rfl Tryd.underlying25 rfl inf25 rfl rfl rfl) ?_ | refine p_q _ rfl rfl rfl (fun _ _ => v_loadEN rfl Tryd.underlying25 rfl inf25 rfl (by omega) rfl rfl rfl) ?_
  refine p_q _ rfl rfl rfl (fun _ _ => v_move rfl rfl) ?_
  refine p_q _ rfl rfl rfl (fun _ _ => v_cast (v := .bool true) (OpQ.fn (isWho_v D uo po uc pc who) rfl rfl SubRC.sub) (congrArg Value.bool h1)) ?_
  refine p_q _ rfl rfl rfl (fun _ _ => v_move rfl rfl) ?_
  first | refine p_gn rfl rfl rfl rfl ?_ | refine p_g _ rfl rfl rfl rfl (fun _ _ => v_move rfl rfl) ?_
  first | refine p_gn rfl rfl rfl rfl ?_ | refine p_g _ rfl rfl rfl rfl (fun _ _ => v_cast (v := .bool false) (OpQ.fn (isDay_v d) rfl rfl SubRC.sub) (congrArg Value.bool h2)) ?_
  first | refine p_q _ rfl rfl rfl (fun _ _ => v_pick_t rfl rfl rfl) ?_ | refine p_q _ rfl rfl rfl (fun _ _ => v_pick_f rfl rfl rfl) ?_
  refine p_deadX (look_x2 D uo po uc pc hl1 hl2 hg) rfl rfl rfl rfl rfl SubRC.sub ?_
  refine p_q _ rfl rfl rfl (fun _ _ => v_move rfl rfl) ?_
  refine p_q _ rfl rfl rfl (fun _ _ => v_move rfl rfl) ?_
  refine p_acc (by simp only [List.nil_append, List.cons_append]; rfl) ?_
  refine p_dead 8 rfl rfl rfl (fun _ h => h) (by kernel_rfl) rfl rfl rfl ?_
  refine p_acc (by simp only [List.nil_append, List.cons_append]; rfl) ?_
  refine p_dead 11 rfl rfl rfl (fun _ h => h) (by kernel_rfl) rfl rfl rfl ?_
  refine p_acc (by simp only [List.nil_append, List.cons_append]; rfl) ?_
  refine p_dead 12 rfl rfl rfl (fun _ h => h) (by kernel_rfl) rfl rfl rfl ?_
  refine p_acc (by simp only [List.nil_append, List.cons_append]; rfl) ?_
  refine p_dead 12 rfl rfl rfl (fun _ h => h) (by kernel_rfl) rfl rfl rfl ?_
  refine p_alloc rfl inf77 rfl rfl rfl rfl rfl ?_
  refine p_alloc rfl inf77 rfl rfl rfl rfl rfl ?_
  refine p_acc (by simp only [List.nil_append, List.cons_append]; rfl) ?_
  refine p_deadS 13 rfl rfl rfl (fun _ h => h) (by kernel_rfl) rfl rfl ?_
  refine p_acc (by simp only [List.nil_append, List.cons_append]; rfl) ?_
  refine p_deadS 14 rfl rfl rfl (fun _ h => h) (by kernel_rfl) rfl rfl ?_
  refine p_nilX (panOf (.iface 103 (i64 2))) (by simp only [List.nil_append, List.cons_append]; rfl) rfl (by kernel_rfl) rfl ?_ ?_
  ·
    repeat (first | with_reducible refine r_then_panic ?_ | with_reducible refine r_in_panic ?_ | with_reducible refine r_sc_panic ?_)
    exact d_panv answer_ans (Rd.three rfl (RdI.tmp rfl) (RdI.tmp rfl) (RdI.cell1 Tryd.underlying30 rfl rfl rfl)) (by rw [openB, ansD_n (chkD_2 hg (okF2 h2)) (by decide)]; try rfl) SelMC.sel SubRC.sub
  ·
    refine f_q rfl ?_
    refine f_q rfl ?_
    refine f_q rfl ?_
    refine f_q rfl ?_
    refine f_q rfl ?_
    refine f_q rfl ?_
    refine f_q rfl ?_
    refine f_q rfl ?_
    exact f_dead
set_option maxHeartbeats 4000000 in
theorem open20_ok (who d : Int) (hl1 : D.dues.length ≤ 40) (hl2 : D.paid.length ≤ 40) (hg : GoodD D) (h1 : isW D who = true) (h2 : isDy d = true) : FnV Tryd.prog 20 [valD D uo po uc pc, i64 who, i64 d] [rowD uo 5 encD D.dues, rowD po 4 encP D.paid, rowD (some ⟨0, 0, none⟩) 1 encE ([0, 1] : List Nat)] (.tuple #[i64 ((openB D who d).1.1 : Nat), i64 ((openB D who d).1.2 : Nat), i64 (openB D who d).2]) := by
  obtain ⟨dn, rfl⟩ : ∃ n : Nat, d = n := ⟨d.toNat, by have := of_decide_eq_true h2; omega⟩
  have hd := of_decide_eq_true h2
  have hq1 := hg.np
  have hwr : IntKind.i64.wrap (D.people - 1) = D.people - 1 := IntWalk.i64_in _ (by omega)
  have hwh := of_decide_eq_true h1
  have hdn : dn ≤ 30 := by omega
  have hwb : -1000 ≤ who ∧ who ≤ 1000 := by omega
  refine FnV.introD Tryd.call20 Tryd.func20 rfl Tryd.ntmps20 rfl ?_
  intro W M Rf
  refine r_seq ?_
  refine r_region ?_
  refine o_boxA rfl rfl rfl rfl rfl (fun b3 => ?_)
  refine o_q _ rfl rfl rfl (v_assign rfl rfl) ?_
  refine o_q _ rfl rfl rfl (v_assign rfl rfl) ?_
  refine o_alloc rfl inf30 rfl rfl rfl rfl rfl (fun b8 => ?_)
  refine o_nil ?_
  repeat (first | with_reducible refine r_then ?_ | with_reducible refine r_in_normal ?_ | with_reducible refine r_sc_normal ?_)
  refine r_seq ?_
  refine r_region ?_
  refine o_defer rfl rfl rfl rfl ?_
  refine o_nil ?_
  repeat (first | with_reducible refine r_then ?_ | with_reducible refine r_in_normal ?_ | with_reducible refine r_sc_normal ?_)
  refine r_seq ?_
  refine r_parY (fun _ => True) (fun _ _ _ _ => trivial) [14] 17 (by kernel_rfl) (by kernel_rfl) (by kernel_rfl) (by kernel_rfl) (by kernel_rfl) mixed (by kernel_rfl) (by rfl) ?_
  first | refine p_q _ rfl rfl rfl (fun _ _ => v_ldW rfl Tryd.underlying25 rfl inf25 rfl rfl) ?_ | refine p_q _ rfl rfl rfl (fun _ _ => v_lfW rfl Tryd.underlying25 rfl inf25 rfl rfl) ?_ | refine p_q _ rfl rfl rfl (fun _ _ => v_lfN rfl Tryd.underlying25 rfl inf25 rfl rfl rfl) ?_ | refine p_q _ rfl rfl rfl (fun _ _ => v_ldN rfl Tryd.underlying25 rfl inf25 rfl rfl rfl) ?_ | refine p_q _ rfl rfl rfl (fun _ _ => v_loadEN rfl Tryd.underlying25 rfl inf25 rfl (by omega) rfl rfl rfl) ?_
  first | refine p_q _ rfl rfl rfl (fun _ _ => v_ldW rfl Tryd.underlying25 rfl inf25 rfl rfl) ?_ | refine p_q _ rfl rfl rfl (fun _ _ => v_lfW rfl Tryd.underlying25 rfl inf25 rfl rfl) ?_ | refine p_q _ rfl rfl rfl (fun _ _ => v_lfN rfl Tryd.underlying25 rfl inf25 rfl rfl rfl) ?_ | refine p_q _ rfl rfl rfl (fun _ _ => v_ldN rfl Tryd.underlying25 rfl inf25 rfl rfl rfl) ?_ | refine p_q _ rfl rfl rfl (fun _ _ => v_loadEN rfl Tryd.underlying25 rfl inf25 rfl (by omega) rfl rfl rfl) ?_
  refine p_q _ rfl rfl rfl (fun _ _ => v_move rfl rfl) ?_
  refine p_q _ rfl rfl rfl (fun _ _ => v_cast (v := .bool true) (OpQ.fn (isWho_v D uo po uc pc who) rfl rfl SubRC.sub) (congrArg Value.bool h1)) ?_
  refine p_q _ rfl rfl rfl (fun _ _ => v_move rfl rfl) ?_
  first | refine p_gn rfl rfl rfl rfl ?_ | refine p_g _ rfl rfl rfl rfl (fun _ _ => v_move rfl rfl) ?_
  first | refine p_gn rfl rfl rfl rfl ?_ | refine p_g _ rfl rfl rfl rfl (fun _ _ => v_cast (v := .bool true) (OpQ.fn (isDay_v _) rfl rfl SubRC.sub) (congrArg Value.bool h2)) ?_
  first | refine p_q _ rfl rfl rfl (fun _ _ => v_pick_t rfl rfl rfl) ?_ | refine p_q _ rfl rfl rfl (fun _ _ => v_pick_f rfl rfl rfl) ?_
  refine p_openL 11 (look_ok D uo po uc pc hl1 hl2 hg) rfl rfl rfl rfl rfl SubRC.sub ?_
  refine p_q _ rfl rfl rfl (fun _ _ => v_move rfl rfl) ?_
  refine p_q _ rfl rfl rfl (fun _ _ => v_move rfl rfl) ?_
  refine p_acc (by simp only [List.nil_append, List.cons_append]; rfl) ?_
  refine p_takeG 8 (led_both D uo po uc pc who dn hg hwb hdn) rfl rfl rfl (fun b => rfl) rfl (by kernel_rfl) rfl rfl rfl SubRC.sub ?_
  refine p_acc (by simp only [List.nil_append, List.cons_append]; rfl) ?_
  refine p_depU (pv := isAA (progA D 0 who (dn + 1)) (progA D 1 who (dn + 1))) (fc := facAA (progA D 0 who (dn + 1)) (progA D 1 who (dn + 1))) 11 (fun u => u) rfl rfl rfl rfl (by kernel_rfl) rfl rfl rfl (fun u h => ⟨h, fun _ h => h⟩) (fun u _ _ _ => v_move rfl rfl) ?_
  refine p_acc (by simp only [List.nil_append, List.cons_append]; rfl) ?_
  refine p_depU (pv := isA (progA D 0 who (dn + 1))) (fc := facA (progA D 0 who (dn + 1))) 12 (fstT) rfl rfl rfl rfl (by kernel_rfl) rfl rfl rfl (fun u h => depF h) (fun u h _ _ => depX h rfl rfl) ?_
  refine p_acc (by simp only [List.nil_append, List.cons_append]; rfl) ?_
  refine p_depU (pv := isA (progA D 1 who (dn + 1))) (fc := facA (progA D 1 who (dn + 1))) 12 (sndT) rfl rfl rfl rfl (by kernel_rfl) rfl rfl rfl (fun u h => depS h) (fun u h _ _ => depY h rfl rfl) ?_
  refine p_alloc rfl inf77 rfl rfl rfl rfl rfl ?_
  refine p_alloc rfl inf77 rfl rfl rfl rfl rfl ?_
  refine p_nilF (by simp only [List.nil_append, List.cons_append]; rfl) rfl ⟨⟨_, _, _, rfl, rfl, rfl, rfl, rfl, rfl, rfl, fun _ => rfl, .inr ⟨rfl, 12, _, _, sndT, rfl, rfl, rfl, (by kernel_rfl), rfl, fun u h => ⟨(depS h).1, (depS h).2, floatS h rfl rfl⟩⟩⟩, trivial⟩ ?_ (by kernel_rfl)
  refine f_q rfl ?_
  refine f_q rfl ?_
  refine f_q rfl ?_
  refine f_q rfl ?_
  refine f_q rfl ?_
  refine f_q rfl ?_
  refine f_q rfl ?_
  refine f_q rfl ?_
  refine f_openL rfl (fun b20 => ?_)
  refine f_q rfl ?_
  refine f_q rfl ?_
  refine f_takeG rfl (fun v23 hv23 => ?_)
  refine f_gf rfl (fun v12 hv12 => ?_)
  refine f_gf rfl (fun v13 hv13 => ?_)
  refine f_gf rfl (fun v14 hv14 => ?_)
  refine f_alloc rfl (fun b9 => ?_)
  refine f_alloc rfl (fun b10 => ?_)
  refine f_nil ?_
  obtain ⟨oa, ca, rfl⟩ := hv13
  obtain ⟨ob, cb, rfl⟩ := hv14
  refine Imp.derive (ψ := rowD ob 4 encO (progA D 1 who (dn + 1)).1) ?_ (fun V hV => hV _ (List.mem_append_left _ (List.mem_singleton.2 rfl)))
  refine Imp.derive (ψ := rowD oa 4 encO (progA D 0 who (dn + 1)).1) ?_ (fun V hV => hV _ (List.mem_cons_of_mem _ (List.mem_append_right _ (List.mem_append_left _ (List.mem_singleton.2 rfl)))))
  refine oz_lift (fun _ _ => trivial) ?_
  refine o_st rfl inf77 rfl rfl rfl rfl rfl rfl rfl rfl ?_
  refine o_nil ?_
  refine r_then ?_
  refine oz_lift (fun _ _ => trivial) ?_
  refine o_st rfl inf77 rfl rfl rfl rfl rfl rfl rfl rfl ?_
  refine o_nil ?_
  refine r_then ?_
  refine oz_nil (fun _ _ => trivial) ?_
  refine r_nop ?_
  repeat (first | with_reducible refine r_then ?_ | with_reducible refine r_in_normal ?_ | with_reducible refine r_sc_normal ?_)
  refine r_seq ?_
  refine Imp.box_to b9 [.slice oa (progA D 0 who (dn + 1)).1.length ca, i64 (progA D 0 who (dn + 1)).2] rfl ?_
  refine Imp.box_to b10 [.slice ob (progA D 1 who (dn + 1)).1.length cb, i64 (progA D 1 who (dn + 1)).2] rfl ?_
  refine r_par' 3 mixed (by kernel_rfl) (by rfl) ?_
  first | refine p_q _ rfl rfl rfl (fun _ _ => v_ldW rfl Tryd.underlying77 rfl inf77 rfl rfl) ?_ | refine p_q _ rfl rfl rfl (fun _ _ => v_lfW rfl Tryd.underlying77 rfl inf77 rfl rfl) ?_ | refine p_q _ rfl rfl rfl (fun _ _ => v_lfN rfl Tryd.underlying77 rfl inf77 rfl rfl rfl) ?_ | refine p_q _ rfl rfl rfl (fun _ _ => v_ldN rfl Tryd.underlying77 rfl inf77 rfl rfl rfl) ?_ | refine p_q _ rfl rfl rfl (fun _ _ => v_loadEN rfl Tryd.underlying77 rfl inf77 rfl (by omega) rfl rfl rfl) ?_
  refine p_q _ rfl rfl rfl (fun _ _ => OpQ.fn (set_v (progA D 0 who (dn + 1)).1 oa ca (progA D 0 who (dn + 1)).2 (by have := prog_lenA hg 0 who (dn + 1); omega) (fun y hy => ((prog_bd hg 0 who (dn + 1) (by omega)).1 y hy).2.2)) rfl rfl SubRC.sub) ?_
  first | refine p_q _ rfl rfl rfl (fun _ _ => v_ldW rfl Tryd.underlying77 rfl inf77 rfl rfl) ?_ | refine p_q _ rfl rfl rfl (fun _ _ => v_lfW rfl Tryd.underlying77 rfl inf77 rfl rfl) ?_ | refine p_q _ rfl rfl rfl (fun _ _ => v_lfN rfl Tryd.underlying77 rfl inf77 rfl rfl rfl) ?_ | refine p_q _ rfl rfl rfl (fun _ _ => v_ldN rfl Tryd.underlying77 rfl inf77 rfl rfl rfl) ?_ | refine p_q _ rfl rfl rfl (fun _ _ => v_loadEN rfl Tryd.underlying77 rfl inf77 rfl (by omega) rfl rfl rfl) ?_
  refine p_nil2 (by simp only [List.nil_append, List.cons_append]; rfl) rfl ?_
  refine f_q rfl ?_
  refine f_q rfl ?_
  refine f_q rfl ?_
  refine f_nil ?_
  refine o_q _ rfl rfl rfl (OpQ.fn (set_v (progA D 1 who (dn + 1)).1 ob cb (progA D 1 who (dn + 1)).2 (by have := prog_lenA hg 1 who (dn + 1); omega) (fun y hy => ((prog_bd hg 1 who (dn + 1) (by omega)).1 y hy).2.2)) rfl rfl SubRC.sub) ?_
  refine o_q _ rfl rfl rfl (v_assign rfl rfl) ?_
  refine o_q _ rfl rfl rfl (v_assign rfl rfl) ?_
  refine o_st rfl inf30 rfl rfl rfl rfl rfl rfl rfl rfl ?_
  refine o_nil ?_
  repeat (first | with_reducible refine r_then ?_ | with_reducible refine r_in_normal ?_ | with_reducible refine r_sc_normal ?_)
  refine r_ret ?_
  repeat (first | with_reducible refine r_then_ret ?_ | with_reducible refine r_in_ret ?_ | with_reducible refine r_sc_ret ?_)
  exact d_retv answer_ans (Rd.three rfl (RdI.tmp rfl) (RdI.tmp rfl) (RdI.cell1 Tryd.underlying30 rfl rfl rfl)) (by rw [openB, ansD_0 (chkD_0 hg (okT h1 h2)), Int.toNat_natCast]; try rfl) SelMC.sel SubRC.sub
theorem open20_v (who d : Int) (hl1 : D.dues.length ≤ 40) (hl2 : D.paid.length ≤ 40) : FnV Tryd.prog 20 [valD D uo po uc pc, i64 who, i64 d] [rowD uo 5 encD D.dues, rowD po 4 encP D.paid, rowD (some ⟨0, 0, none⟩) 1 encE ([0, 1] : List Nat)] (.tuple #[i64 ((openB D who d).1.1 : Nat), i64 ((openB D who d).1.2 : Nat), i64 (openB D who d).2]) := by
  by_cases hg : GoodD D
  · cases h1 : isW D who
    · exact open20_x2a D uo po uc pc who d hl1 hl2 hg h1
    · cases h2 : isDy d
      · exact open20_x2b D uo po uc pc who d hl1 hl2 hg h1 h2
      · exact open20_ok D uo po uc pc who d hl1 hl2 hg h1 h2
  · cases h1 : isW D who
    · exact open20_x1a D uo po uc pc who d hl1 hl2 hg h1
    · exact open20_x1b D uo po uc pc who d hl1 hl2 hg h1
end Go.Proofs.YtpfgiednfjfdmaaDoor


namespace Go.G
variable {P : Program} {W : World} {n : Nat} {D : List Deferred} {L : Tm} {M : List Res} {R : List Fact} {Q : Exit → Act → World → Prop} {o : Oper} {Z : World → Prop}
/-- The operation, with its waits told anew. -/
def ren (τ : Nat → Nat) (o : Oper) : Oper := { o with after := o.after.map fun e => { e with on := τ e.on }, guard := o.guard.map fun p => (τ p.1, p.2) }
/-- In the order of a list of their numbers. -/
def permL (σ : List Nat) (l : List Oper) : List Oper := σ.map fun i => match l[i]? with | some o => ren (fun j => σ.idxOf j) o | none => { dst := none, op := .move (.tmp 0), type := 0, pos := "", after := #[], guard := none }
def permB (σ : List Nat) (l : List Oper) : Bool := nodupB σ && Nat.beq σ.length l.length && (List.range l.length).all (fun j => Nat.blt (σ.idxOf j) σ.length) && σ.all (fun i => Nat.blt i l.length) &&
  l.all (fun o => o.after.all (fun e => Nat.blt e.on l.length) && match o.guard with | some (g, _) => Nat.blt g l.length | none => true)
structure PermOK (σ : List Nat) (l : List Oper) : Prop where
  len : σ.length = l.length
  at_ : ∀ j, j < l.length → σ.idxOf j < σ.length ∧ σ[σ.idxOf j]? = some j
  inv : ∀ k (i : Nat), σ[k]? = some i → i < l.length ∧ σ.idxOf i = k
  edge : ∀ o ∈ l, ∀ e ∈ o.after, e.on < l.length
  gd : ∀ o ∈ l, ∀ g b, o.guard = some (g, b) → g < l.length
theorem permOK_of {σ : List Nat} {l : List Oper} (h : permB σ l = true) : PermOK σ l := by
  simp only [permB, Bool.and_eq_true] at h
  obtain ⟨⟨⟨⟨h0, h1⟩, h2⟩, h3⟩, h4⟩ := h
  have hlen : σ.length = l.length := by simpa using h1
  have hat : ∀ j, j < l.length → σ.idxOf j < σ.length ∧ σ[σ.idxOf j]? = some j := fun j hj => by
    have := List.all_eq_true.1 h2 j (List.mem_range.2 hj)
    have hlt : σ.idxOf j < σ.length := by simpa using this
    exact ⟨hlt, by rw [List.getElem?_eq_getElem hlt, List.getElem_idxOf hlt]⟩
  have hmem : ∀ i ∈ σ, i < l.length := fun i hi => by simpa using List.all_eq_true.1 h3 i hi
  have hnd : σ.Nodup := nodupB_sound h0
  refine ⟨hlen, hat, fun k i hk => ?_, fun o ho e he => ?_, fun o ho g b hg => ?_⟩
  · have hi := hmem i (List.mem_of_getElem? hk)
    refine ⟨hi, ?_⟩
    obtain ⟨g1, g2⟩ := hat i hi
    have hk2 := List.getElem?_eq_some_iff.1 hk
    have g3 := List.getElem?_eq_some_iff.1 g2
    exact (List.getElem_inj hnd).1 (g3.2.trans hk2.2.symm)
  · have := List.all_eq_true.1 h4 o ho
    simp only [Bool.and_eq_true] at this
    simpa using Array.all_eq_true_iff_forall_mem.1 this.1 e he
  · have := List.all_eq_true.1 h4 o ho
    simp only [Bool.and_eq_true, hg] at this
    simpa using this.2
section
variable {σ : List Nat} {l : List Oper}
theorem permL_at (h : PermOK σ l) {k i : Nat} (hk : σ[k]? = some i) : ∃ o, l[i]? = some o ∧ (permL σ l)[k]? = some (ren (fun j => σ.idxOf j) o) := by
  obtain ⟨hi, _⟩ := h.inv k i hk
  refine ⟨l[i], List.getElem?_eq_getElem hi, ?_⟩
  unfold permL
  rw [List.getElem?_map, hk, Option.map_some, List.getElem?_eq_getElem hi]
theorem permL_len (σ : List Nat) (l : List Oper) : (permL σ l).length = σ.length := by unfold permL; rw [List.length_map]
/-- What has been carried out, told anew. -/
def SameL (σ : List Nat) (listed listed' : Array Bool) : Prop := listed.size = σ.length ∧ listed'.size = σ.length ∧ ∀ k (i : Nat), σ[k]? = some i → ∀ d, listed'.getD k d = listed.getD i d
theorem perm_ready (h : PermOK σ l) {listed listed' : Array Bool} (hs : SameL σ listed listed') {k i : Nat} (hk : σ[k]? = some i) : k ∈ Region.ready .any (permL σ l).toArray listed' ↔ i ∈ Region.ready .any l.toArray listed := by
  obtain ⟨o, ho, hp⟩ := permL_at h hk
  have hom : o ∈ l := List.mem_of_getElem? ho
  have hedge : ∀ e ∈ o.after, listed'.getD (σ.idxOf e.on) false = listed.getD e.on false := fun e he => by
    have := h.edge o hom e he
    exact hs.2.2 _ _ (h.at_ e.on this).2 false
  constructor
  · intro hr
    obtain ⟨h0, o', ho', hall⟩ := mem_ready.1 hr
    have : o' = ren (fun j => σ.idxOf j) o := Option.some.inj (ho'.symm.trans (by simpa using hp))
    subst this
    refine mem_ready.2 ⟨by rw [← hs.2.2 k i hk true]; exact h0, o, by simpa using ho, fun e he hb => ?_⟩
    have := hall { e with on := σ.idxOf e.on } (Array.mem_map.2 ⟨e, he, rfl⟩) hb
    rw [← hedge e he]; exact this
  · intro hr
    obtain ⟨h0, o', ho', hall⟩ := mem_ready.1 hr
    have : o' = o := Option.some.inj (ho'.symm.trans (by simpa using ho))
    subst this
    refine mem_ready.2 ⟨by rw [hs.2.2 k i hk true]; exact h0, _, by simpa using hp, fun e he hb => ?_⟩
    obtain ⟨e0, he0, rfl⟩ := Array.mem_map.1 he
    show listed'.getD (σ.idxOf e0.on) false = true
    rw [hedge e0 he0]; exact hall e0 he0 hb
theorem perm_yielded (h : PermOK σ l) (tmps : Array Value) {g : Nat} (hg : g < l.length) : yielded (permL σ l).toArray tmps (σ.idxOf g) = yielded l.toArray tmps g := by
  obtain ⟨_, h2⟩ := h.at_ g hg
  obtain ⟨o, ho, hp⟩ := permL_at h h2
  unfold yielded
  rw [List.getElem?_toArray, List.getElem?_toArray, ho, hp]
  rfl
theorem perm_op (h : PermOK σ l) {k i : Nat} (hk : σ[k]? = some i) {K : Act → World → Prop} {a : Act} {w : World} (hw : wpOp P (permL σ l).toArray Q k K a w) : wpOp P l.toArray Q i K a w := by
  obtain ⟨o, ho, hp⟩ := permL_at h hk
  have hom : o ∈ l := List.mem_of_getElem? ho
  unfold wpOp at *
  rw [List.getElem?_toArray] at hw ⊢
  rw [hp] at hw
  rw [ho]
  have hwant : Region.wanted (ren (fun j => σ.idxOf j) o) (yielded (permL σ l).toArray a.tmps) = Region.wanted o (yielded l.toArray a.tmps) := by
    unfold Region.wanted ren
    cases hgd : o.guard with
    | none => rfl
    | some p =>
      obtain ⟨g, b⟩ := p
      dsimp only [Option.map]
      rw [perm_yielded h a.tmps (h.gd o hom g b hgd)]
  dsimp only at hw ⊢
  rw [hwant] at hw
  exact hw
theorem same_set (h : PermOK σ l) {listed listed' : Array Bool} (hs : SameL σ listed listed') {k i : Nat} (hk : σ[k]? = some i) : SameL σ (listed.setIfInBounds i true) (listed'.setIfInBounds k true) := by
  refine ⟨by simp [hs.1], by simp [hs.2.1], fun k' i' hk' d => ?_⟩
  by_cases e : k = k'
  · subst e
    have : i = i' := Option.some.inj (hk.symm.trans hk')
    subst this
    have h1 : k < listed'.size := by rw [hs.2.1]; exact (List.getElem?_eq_some_iff.1 hk).1
    have h2 : i < listed.size := by rw [hs.1, h.len]; exact (h.inv k i hk).1
    simp [h1, h2]
  · have hne : i ≠ i' := fun e2 => by
      subst e2
      exact e ((h.inv k i hk).2.symm.trans (h.inv k' i hk').2)
    rw [getD_set_ne d e, getD_set_ne d hne]
    exact hs.2.2 k' i' hk' d
theorem perm_any (h : PermOK σ l) : ∀ (fuel : Nat) (listed listed' : Array Bool) (a : Act) (w : World), SameL σ listed listed' → wpAny P .any (permL σ l).toArray Q fuel listed' a w → wpAny P .any l.toArray Q fuel listed a w := by
  have nil : ∀ {listed listed' : Array Bool}, SameL σ listed listed' → Region.ready .any l.toArray listed = [] → Region.ready .any (permL σ l).toArray listed' = [] := fun {listed listed'} hs hr => by
    apply List.eq_nil_iff_forall_not_mem.2
    intro k hk
    have hlt : k < σ.length := by
      obtain ⟨_, o, ho, _⟩ := mem_ready.1 hk
      have := (Array.getElem?_eq_some_iff.1 ho).1
      simpa [permL_len] using this
    have := (perm_ready h hs (List.getElem?_eq_getElem hlt)).1 hk
    rw [hr] at this; cases this
  have nil' : ∀ {listed listed' : Array Bool}, SameL σ listed listed' → Region.ready .any (permL σ l).toArray listed' = [] → Region.ready .any l.toArray listed = [] := fun {listed listed'} hs hr => by
    apply List.eq_nil_iff_forall_not_mem.2
    intro i hi
    have hlt : i < l.length := by
      obtain ⟨_, o, ho, _⟩ := mem_ready.1 hi
      simpa using (Array.getElem?_eq_some_iff.1 ho).1
    have := (perm_ready h hs (h.at_ i hlt).2).2 hi
    rw [hr] at this; cases this
  intro fuel
  induction fuel with
  | zero => intro listed listed' a w hs hw; exact ⟨nil' hs hw.1, hw.2⟩
  | succ fuel ih =>
    intro listed listed' a w hs hw
    refine ⟨fun hr => hw.1 (nil hs hr), fun i hi => ?_⟩
    have hlt : i < l.length := by
      obtain ⟨_, o, ho, _⟩ := mem_ready.1 hi
      simpa using (Array.getElem?_eq_some_iff.1 ho).1
    have hk := (h.at_ i hlt).2
    exact wpOp_mono (fun a' w' h' => ih _ _ a' w' (same_set h hs hk) h') (perm_op h hk (hw.2 _ ((perm_ready h hs hk).2 hi)))
end
end Go.G


namespace Go.Proofs.YtpfgiednfjfdmaaDoor
open Go.G Debt10
set_option maxRecDepth 1000000
attribute [local irreducible] G.ParO G.Fin
theorem total_bd {c : Int} (hc : 0 ≤ c) : ∀ {l : List Opn}, (∀ x ∈ l, 0 ≤ x.left ∧ x.left ≤ c) → 0 ≤ total l ∧ total l ≤ c * (l.length : Int)
  | [], _ => by show (0 : Int) ≤ 0 ∧ (0 : Int) ≤ c * 0; omega
  | x :: r, h => by
    have h1 := h x (List.mem_cons_self ..)
    have h2 := total_bd hc (l := r) fun y hy => h y (List.mem_cons_of_mem _ hy)
    have e : c * ((x :: r).length : Int) = c * (r.length : Int) + c := by rw [List.length_cons]; push_cast; rw [Int.mul_add, Int.mul_one]
    rw [e]
    show 0 ≤ x.left + total r ∧ x.left + total r ≤ _
    omega
theorem left_bd {D : Debt} (hg : GoodD D) (who : Int) {d : Nat} (hd : d ≤ 30) : (0 ≤ (leftT D who d).lo ∧ (leftT D who d).lo ≤ 6000) ∧ 0 ≤ (leftT D who d).hi ∧ (leftT D who d).hi ≤ 6000 := by
  have h0 := total_bd (c := 1000) (by omega) fun x hx => ((prog_bd hg 0 who (d + 1) (by omega)).1 x hx).1
  have h1 := total_bd (c := 1000) (by omega) fun x hx => ((prog_bd hg 1 who (d + 1) (by omega)).1 x hx).1
  have g0 := prog_lenA hg 0 who (d + 1)
  have g1 := prog_lenA hg 1 who (d + 1)
  unfold leftT
  dsimp only
  omega
theorem need_bd {D : Debt} (hg : GoodD D) (who : Int) {d : Nat} (hd : d ≤ 30) : 0 ≤ needT D who d ∧ needT D who d ≤ 6000 := by
  have h1 := total_bd (c := 1000) (by omega) fun x hx => ((prog_bdB hg 1 who d (by omega)).1 x hx).1
  have g1 := prog_lenB hg 1 who d
  unfold needT
  omega
/-- What is left of all people before the k-th. -/
def sumT (D : Debt) (d : Nat) : Nat → Debt10.Span
  | 0 => ⟨0, 0⟩
  | k + 1 => ⟨(sumT D d k).lo + (leftT D k d).lo, (sumT D d k).hi + (leftT D k d).hi⟩
theorem sum_bd {D : Debt} (hg : GoodD D) {d : Nat} (hd : d ≤ 30) : ∀ k : Nat, (0 ≤ (sumT D d k).lo ∧ (sumT D d k).lo ≤ 6000 * (k : Int)) ∧ 0 ≤ (sumT D d k).hi ∧ (sumT D d k).hi ≤ 6000 * (k : Int)
  | 0 => by simp [sumT]
  | k + 1 => by
    have h1 := sum_bd hg hd k
    have h2 := left_bd hg k hd
    show (0 ≤ (sumT D d k).lo + (leftT D k d).lo ∧ (sumT D d k).lo + (leftT D k d).lo ≤ 6000 * ((k + 1 : Nat) : Int)) ∧ 0 ≤ (sumT D d k).hi + (leftT D k d).hi ∧ (sumT D d k).hi + (leftT D k d).hi ≤ 6000 * ((k + 1 : Nat) : Int)
    push_cast
    omega
def sumB (D : Debt) (d : Int) : Debt10.Span × Int := ansD D (isDy d) ⟨0, 0⟩ (sumT D d.toNat D.people.toNat)
variable (D : Debt) (uo po : Option Addr) (uc pc : Nat)
set_option maxHeartbeats 4000000 in
theorem sum24_x1 (d : Int) (hl1 : D.dues.length ≤ 40) (hl2 : D.paid.length ≤ 40) (hng : ¬ GoodD D) : FnV Tryd.prog 24 [valD D uo po uc pc, i64 d] [rowD uo 5 encD D.dues, rowD po 4 encP D.paid, rowD (some ⟨0, 0, none⟩) 1 encE ([0, 1] : List Nat)] (.tuple #[vS (sumB D d).1, i64 (sumB D d).2]) := by
  refine FnV.introD Tryd.call24 Tryd.func24 rfl Tryd.ntmps24 rfl ?_
  intro W M Rf
  refine r_seq ?_
  refine r_region ?_
  refine o_boxA rfl rfl rfl rfl rfl (fun b2 => ?_)
  refine o_alloc rfl inf29 rfl rfl rfl rfl rfl (fun b4 => ?_)
  refine o_alloc rfl inf30 rfl rfl rfl rfl rfl (fun b5 => ?_)
  refine o_nil ?_
  repeat (first | with_reducible refine r_then ?_ | with_reducible refine r_in_normal ?_ | with_reducible refine r_sc_normal ?_)
  refine r_seq ?_
  refine r_region ?_
  refine o_defer rfl rfl rfl rfl ?_
  refine o_nil ?_
  repeat (first | with_reducible refine r_then ?_ | with_reducible refine r_in_normal ?_ | with_reducible refine r_sc_normal ?_)
  refine r_seq ?_
  refine r_parX 4 mixed (by kernel_rfl) (by rfl) ?_
  first | refine p_q _ rfl rfl rfl (fun _ _ => v_ldW rfl Tryd.underlying25 rfl inf25 rfl rfl) ?_ | refine p_q _ rfl rfl rfl (fun _ _ => v_lfW rfl Tryd.underlying25 rfl inf25 rfl rfl) ?_ | refine p_q _ rfl rfl rfl (fun _ _ => v_lfN rfl Tryd.underlying25 rfl inf25 rfl rfl rfl) ?_ | refine p_q _ rfl rfl rfl (fun _ _ => v_ldN rfl Tryd.underlying25 rfl inf25 rfl rfl rfl) ?_ | refine p_q _ rfl rfl rfl (fun _ _ => v_loadEN rfl Tryd.underlying25 rfl inf25 rfl (by omega) rfl rfl rfl) ?_
  refine p_q _ rfl rfl rfl (fun _ _ => v_move rfl rfl) ?_
  refine p_q _ rfl rfl rfl (fun _ _ => OpQ.fn (isDay_v d) rfl rfl SubRC.sub) ?_
  refine p_deadX (look_x1 D uo po uc pc _ hl1 hl2 hng) rfl rfl rfl rfl rfl SubRC.sub ?_
  refine p_nilX (panOf (.iface 103 (i64 1))) (by simp only [List.nil_append, List.cons_append]; rfl) rfl (by kernel_rfl) rfl ?_ ?_
  ·
    repeat (first | with_reducible refine r_then_panic ?_ | with_reducible refine r_in_panic ?_ | with_reducible refine r_sc_panic ?_)
    exact d_panv answer_ans (Rd.two rfl (RdI.cellW Tryd.underlying29 rfl inf29 rfl rfl) (RdI.cell1 Tryd.underlying30 rfl rfl rfl)) (by rw [sumB, ansD_n (chkD_1 hng) (by decide)]; try rfl) SelMC.sel SubRC.sub
  ·
    refine f_q rfl ?_
    refine f_q rfl ?_
    refine f_q rfl ?_
    exact f_dead
set_option maxHeartbeats 4000000 in
theorem sum24_x2 (d : Int) (hl1 : D.dues.length ≤ 40) (hl2 : D.paid.length ≤ 40) (hg : GoodD D) (h2 : isDy d = false) : FnV Tryd.prog 24 [valD D uo po uc pc, i64 d] [rowD uo 5 encD D.dues, rowD po 4 encP D.paid, rowD (some ⟨0, 0, none⟩) 1 encE ([0, 1] : List Nat)] (.tuple #[vS (sumB D d).1, i64 (sumB D d).2]) := by
  refine FnV.introD Tryd.call24 Tryd.func24 rfl Tryd.ntmps24 rfl ?_
  intro W M Rf
  refine r_seq ?_
  refine r_region ?_
  refine o_boxA rfl rfl rfl rfl rfl (fun b2 => ?_)
  refine o_alloc rfl inf29 rfl rfl rfl rfl rfl (fun b4 => ?_)
  refine o_alloc rfl inf30 rfl rfl rfl rfl rfl (fun b5 => ?_)
  refine o_nil ?_
  repeat (first | with_reducible refine r_then ?_ | with_reducible refine r_in_normal ?_ | with_reducible refine r_sc_normal ?_)
  refine r_seq ?_
  refine r_region ?_
  refine o_defer rfl rfl rfl rfl ?_
  refine o_nil ?_
  repeat (first | with_reducible refine r_then ?_ | with_reducible refine r_in_normal ?_ | with_reducible refine r_sc_normal ?_)
  refine r_seq ?_
  refine r_parX 4 mixed (by kernel_rfl) (by rfl) ?_
  first | refine p_q _ rfl rfl rfl (fun _ _ => v_ldW rfl Tryd.underlying25 rfl inf25 rfl rfl) ?_ | refine p_q _ rfl rfl rfl (fun _ _ => v_lfW rfl Tryd.underlying25 rfl inf25 rfl rfl) ?_ | refine p_q _ rfl rfl rfl (fun _ _ => v_lfN rfl Tryd.underlying25 rfl inf25 rfl rfl rfl) ?_ | refine p_q _ rfl rfl rfl (fun _ _ => v_ldN rfl Tryd.underlying25 rfl inf25 rfl rfl rfl) ?_ | refine p_q _ rfl rfl rfl (fun _ _ => v_loadEN rfl Tryd.underlying25 rfl inf25 rfl (by omega) rfl rfl rfl) ?_
  refine p_q _ rfl rfl rfl (fun _ _ => v_move rfl rfl) ?_
  refine p_q _ rfl rfl rfl (fun _ _ => v_cast (v := .bool false) (OpQ.fn (isDay_v d) rfl rfl SubRC.sub) (congrArg Value.bool h2)) ?_
  refine p_deadX (look_x2 D uo po uc pc hl1 hl2 hg) rfl rfl rfl rfl rfl SubRC.sub ?_
  refine p_nilX (panOf (.iface 103 (i64 2))) (by simp only [List.nil_append, List.cons_append]; rfl) rfl (by kernel_rfl) rfl ?_ ?_
  ·
    repeat (first | with_reducible refine r_then_panic ?_ | with_reducible refine r_in_panic ?_ | with_reducible refine r_sc_panic ?_)
    exact d_panv answer_ans (Rd.two rfl (RdI.cellW Tryd.underlying29 rfl inf29 rfl rfl) (RdI.cell1 Tryd.underlying30 rfl rfl rfl)) (by rw [sumB, ansD_n (chkD_2 hg h2) (by decide)]; try rfl) SelMC.sel SubRC.sub
  ·
    refine f_q rfl ?_
    refine f_q rfl ?_
    refine f_q rfl ?_
    exact f_dead
set_option maxHeartbeats 4000000 in
theorem sum24_ok (d : Int) (hl1 : D.dues.length ≤ 40) (hl2 : D.paid.length ≤ 40) (hg : GoodD D) (h2 : isDy d = true) : FnV Tryd.prog 24 [valD D uo po uc pc, i64 d] [rowD uo 5 encD D.dues, rowD po 4 encP D.paid, rowD (some ⟨0, 0, none⟩) 1 encE ([0, 1] : List Nat)] (.tuple #[vS (sumB D d).1, i64 (sumB D d).2]) := by
  obtain ⟨dn, rfl⟩ : ∃ n : Nat, d = n := ⟨d.toNat, by have := of_decide_eq_true h2; omega⟩
  have hd := of_decide_eq_true h2
  have hq1 := hg.np
  have hdn : dn ≤ 30 := by omega
  refine FnV.introD Tryd.call24 Tryd.func24 rfl Tryd.ntmps24 rfl ?_
  intro W M Rf
  refine r_seq ?_
  refine r_region ?_
  refine o_boxA rfl rfl rfl rfl rfl (fun b2 => ?_)
  refine o_alloc rfl inf29 rfl rfl rfl rfl rfl (fun b4 => ?_)
  refine o_alloc rfl inf30 rfl rfl rfl rfl rfl (fun b5 => ?_)
  refine o_nil ?_
  repeat (first | with_reducible refine r_then ?_ | with_reducible refine r_in_normal ?_ | with_reducible refine r_sc_normal ?_)
  refine r_seq ?_
  refine r_region ?_
  refine o_defer rfl rfl rfl rfl ?_
  refine o_nil ?_
  repeat (first | with_reducible refine r_then ?_ | with_reducible refine r_in_normal ?_ | with_reducible refine r_sc_normal ?_)
  refine r_seq ?_
  refine r_par' 3 mixed (by kernel_rfl) (by rfl) ?_
  first | refine p_q _ rfl rfl rfl (fun _ _ => v_ldW rfl Tryd.underlying25 rfl inf25 rfl rfl) ?_ | refine p_q _ rfl rfl rfl (fun _ _ => v_lfW rfl Tryd.underlying25 rfl inf25 rfl rfl) ?_ | refine p_q _ rfl rfl rfl (fun _ _ => v_lfN rfl Tryd.underlying25 rfl inf25 rfl rfl rfl) ?_ | refine p_q _ rfl rfl rfl (fun _ _ => v_ldN rfl Tryd.underlying25 rfl inf25 rfl rfl rfl) ?_ | refine p_q _ rfl rfl rfl (fun _ _ => v_loadEN rfl Tryd.underlying25 rfl inf25 rfl (by omega) rfl rfl rfl) ?_
  refine p_q _ rfl rfl rfl (fun _ _ => v_move rfl rfl) ?_
  refine p_q _ rfl rfl rfl (fun _ _ => v_cast (v := .bool true) (OpQ.fn (isDay_v _) rfl rfl SubRC.sub) (congrArg Value.bool h2)) ?_
  refine p_nil2 (by simp only [List.nil_append, List.cons_append]; rfl) rfl ?_
  refine f_q rfl ?_
  refine f_q rfl ?_
  refine f_q rfl ?_
  refine f_nil ?_
  refine o_fnR (look_ok D uo po uc pc hl1 hl2 hg) rfl rfl rfl rfl rfl SubRC.sub (fun lb => ?_)
  refine o_q _ rfl rfl rfl (v_assign rfl rfl) ?_
  refine o_nil ?_
  repeat (first | with_reducible refine r_then ?_ | with_reducible refine r_in_normal ?_ | with_reducible refine r_sc_normal ?_)
  refine r_seq ?_
  refine opened D uo po uc pc lb (fun mb => ?_)
  refine r_region ?_
  refine o_alloc rfl inf29 rfl rfl rfl rfl rfl (fun b7 => ?_)
  refine o_nil ?_
  repeat (first | with_reducible refine r_then ?_ | with_reducible refine r_in_normal ?_ | with_reducible refine r_sc_normal ?_)
  refine r_seq ?_
  refine r_seq ?_
  refine Imp.box_to b7 [i64 (sumT D dn (0)).lo, i64 (sumT D dn (0)).hi] rfl ?_
  refine r_region ?_
  first | refine o_q _ rfl rfl rfl (v_fieldAddr rfl Tryd.underlying25 inf3 rfl rfl rfl rfl) ?_ | refine o_q _ rfl rfl rfl (v_fieldAddrE rfl Tryd.underlying25 inf3 rfl rfl rfl rfl) ?_
  first | refine o_q _ rfl rfl rfl (v_ld1 rfl Tryd.underlying3 rfl rfl rfl) ?_ | refine o_q _ rfl rfl rfl (v_lf1 rfl Tryd.underlying3 rfl rfl rfl) ?_ | refine o_q _ rfl rfl rfl (v_loadE1 rfl Tryd.underlying3 rfl rfl (by omega) rfl rfl) ?_
  refine o_q _ rfl rfl rfl (v_move rfl rfl) ?_
  refine o_nil ?_
  repeat (first | with_reducible refine r_then ?_ | with_reducible refine r_in_normal ?_ | with_reducible refine r_sc_normal ?_)
  refine r_block ?_
  refine r_loop (ι := Nat × Cont) (fun gh => (gh.1 : Int) ≤ D.people) (fun gh => [(1, i64 (dn : Int)), (2, pt b2 0), (4, pt b4 0), (5, pt b5 0), (6, pt lb 0), (7, pt b7 0), (15, i64 D.people), (16, i64 (gh.1 : Int))]) (fun gh => mapG Tryd.prog 113 mb gh.2 :: bx b7 29 [i64 (sumT D dn (gh.1)).lo, i64 (sumT D dn (gh.1)).hi] :: bx b5 30 [i64 0] :: bx b4 29 [i64 0, i64 0] :: M) (fun gh => entF D gh.2 :: boxF lb 108 [i64 D.people, .slice uo D.dues.length uc, .slice po D.paid.length pc, .map (some mb)] :: ([rowD uo 5 encD D.dues, rowD po 4 encP D.paid, rowD (some ⟨0, 0, none⟩) 1 encE ([0, 1] : List Nat)] ++ Rf)) (fun gh => D.people.toNat - gh.1) (0, fun _ => none) ?_ ?_ ?_
  ·
    refine Imp.box_to b5 [i64 0] rfl ?_
    refine Imp.box_to b4 [i64 0, i64 0] rfl ?_
    exact r_here (by repeat (first | exact FSub.nil | refine FSub.cons rfl ?_)) SelMC.sel SubRC.sub
  ·
    show (0 : Int) ≤ D.people; omega
  ·
    rintro ⟨k, G⟩ hI0
    dsimp only at hI0
    dsimp only
    have hI : (k : Int) ≤ D.people := hI0
    refine r_seq ?_
    refine r_region ?_
    refine o_q _ rfl rfl rfl (v_lss rfl rfl rfl) ?_
    refine o_nil ?_
    repeat (first | with_reducible refine r_then ?_ | with_reducible refine r_in_normal ?_ | with_reducible refine r_sc_normal ?_)
    refine r_seq ?_
    first | refine r_condd rfl (fun hc17 => ?_) (fun hc17 => ?_) | refine r_cond rfl (fun hc17 => ?_) (fun hc17 => ?_)
    ·
      first
      | (exfalso; revert hc17; decide)
      | (exfalso; omega)
      | skip
        refine r_skip ?_
        repeat (first | with_reducible refine r_then ?_ | with_reducible refine r_in_normal ?_ | with_reducible refine r_sc_normal ?_)
        refine r_seq ?_
        refine r_block ?_
        refine r_seq ?_
        refine r_region ?_
        refine o_q _ rfl rfl rfl (v_move rfl rfl) ?_
        refine o_q _ rfl rfl rfl (v_assign rfl rfl) ?_
        refine o_nil ?_
        repeat (first | with_reducible refine r_then ?_ | with_reducible refine r_in_normal ?_ | with_reducible refine r_sc_normal ?_)
        refine r_seq ?_
        refine r_region ?_
        refine o_q _ rfl rfl rfl (v_move rfl rfl) ?_
        refine o_q _ rfl rfl rfl (v_move rfl rfl) ?_
        refine o_q _ rfl rfl rfl (v_move rfl rfl) ?_
        refine o_fnX (left_s D uo po uc pc lb mb G (k : Int) dn hg (by omega) hdn) rfl rfl rfl rfl rfl SubRC.sub (fun x22 _ => ?_)
        refine o_alloc rfl inf29 rfl rfl rfl rfl rfl (fun b9 => ?_)
        refine o_st rfl inf29 rfl rfl rfl rfl rfl rfl rfl rfl ?_
        refine o_nil ?_
        repeat (first | with_reducible refine r_then ?_ | with_reducible refine r_in_normal ?_ | with_reducible refine r_sc_normal ?_)
        have hb1 := sum_bd hg hdn k
        have hb2 := left_bd hg (k : Int) hdn
        refine Imp.box_to b9 [i64 (leftT D (k : Int) dn).lo, i64 (leftT D (k : Int) dn).hi] rfl ?_
        refine r_region ?_
        first | refine o_q _ rfl rfl rfl (v_fieldAddr rfl Tryd.underlying29 inf3 rfl rfl rfl rfl) ?_ | refine o_q _ rfl rfl rfl (v_fieldAddrE rfl Tryd.underlying29 inf3 rfl rfl rfl rfl) ?_
        first | refine o_q _ rfl rfl rfl (v_ld1 rfl Tryd.underlying3 rfl rfl rfl) ?_ | refine o_q _ rfl rfl rfl (v_lf1 rfl Tryd.underlying3 rfl rfl rfl) ?_ | refine o_q _ rfl rfl rfl (v_loadE1 rfl Tryd.underlying3 rfl rfl (by omega) rfl rfl) ?_
        first | refine o_q _ rfl rfl rfl (v_fieldAddr rfl Tryd.underlying29 inf3 rfl rfl rfl rfl) ?_ | refine o_q _ rfl rfl rfl (v_fieldAddrE rfl Tryd.underlying29 inf3 rfl rfl rfl rfl) ?_
        first | refine o_q _ rfl rfl rfl (v_ld1 rfl Tryd.underlying3 rfl rfl rfl) ?_ | refine o_q _ rfl rfl rfl (v_lf1 rfl Tryd.underlying3 rfl rfl rfl) ?_ | refine o_q _ rfl rfl rfl (v_loadE1 rfl Tryd.underlying3 rfl rfl (by omega) rfl rfl) ?_
        refine o_q _ rfl rfl rfl (v_add rfl rfl rfl (by omega)) ?_
        first | refine o_q _ rfl rfl rfl (v_fieldAddr rfl Tryd.underlying29 inf3 rfl rfl rfl rfl) ?_ | refine o_q _ rfl rfl rfl (v_fieldAddrE rfl Tryd.underlying29 inf3 rfl rfl rfl rfl) ?_
        first | refine o_q _ rfl rfl rfl (v_ld1 rfl Tryd.underlying3 rfl rfl rfl) ?_ | refine o_q _ rfl rfl rfl (v_lf1 rfl Tryd.underlying3 rfl rfl rfl) ?_ | refine o_q _ rfl rfl rfl (v_loadE1 rfl Tryd.underlying3 rfl rfl (by omega) rfl rfl) ?_
        first | refine o_q _ rfl rfl rfl (v_fieldAddr rfl Tryd.underlying29 inf3 rfl rfl rfl rfl) ?_ | refine o_q _ rfl rfl rfl (v_fieldAddrE rfl Tryd.underlying29 inf3 rfl rfl rfl rfl) ?_
        first | refine o_q _ rfl rfl rfl (v_ld1 rfl Tryd.underlying3 rfl rfl rfl) ?_ | refine o_q _ rfl rfl rfl (v_lf1 rfl Tryd.underlying3 rfl rfl rfl) ?_ | refine o_q _ rfl rfl rfl (v_loadE1 rfl Tryd.underlying3 rfl rfl (by omega) rfl rfl) ?_
        refine o_q _ rfl rfl rfl (v_add rfl rfl rfl (by omega)) ?_
        refine o_q _ rfl rfl rfl (v_bS rfl Tryd.underlying29 inf29 plt29 rfl rfl rfl (by repeat (first | exact trivial | refine ⟨rfl, ?_⟩)) (by rfl)) ?_
        refine o_st rfl inf29 rfl rfl rfl rfl rfl rfl rfl rfl ?_
        refine o_nil ?_
        repeat (first | with_reducible refine r_then ?_ | with_reducible refine r_in_normal ?_ | with_reducible refine r_sc_normal ?_)
        refine r_region ?_
        refine o_q _ rfl rfl rfl (v_add rfl rfl rfl (by omega)) ?_
        refine o_q _ rfl rfl rfl (v_move rfl rfl) ?_
        refine o_nil ?_
        repeat (first | with_reducible refine r_then ?_ | with_reducible refine r_in_normal ?_ | with_reducible refine r_sc_normal ?_)
        first
        | exact r_next ((k + 1, x22)) (by refine Imp.box_to b7 [i64 (sumT D dn (k + 1)).lo, i64 (sumT D dn (k + 1)).hi] rfl ?_; exact r_here (by repeat (first | exact FSub.nil | refine FSub.cons rfl ?_)) SelMC.sel SubRC.sub) (by (show ((k + 1 : Nat) : Int) ≤ D.people; omega)) (by (show D.people.toNat - (k + 1) < D.people.toNat - k; omega))
    ·
      first
      | (exfalso; revert hc17; decide)
      | (exfalso; omega)
      | skip
        refine r_exit ?_
        repeat (first | with_reducible refine r_then_exit ?_ | with_reducible refine r_sc_exit ?_ | with_reducible refine r_in_here ?_ | (with_reducible refine r_in_past (by decide) ?_) | with_reducible refine r_then ?_ | with_reducible refine r_in_normal ?_ | with_reducible refine r_sc_normal ?_)
        refine r_seq ?_
        obtain rfl : k = D.people.toNat := by omega
        refine r_region ?_
        first | refine o_q _ rfl rfl rfl (v_ldW rfl Tryd.underlying29 rfl inf29 rfl rfl) ?_ | refine o_q _ rfl rfl rfl (v_lfW rfl Tryd.underlying29 rfl inf29 rfl rfl) ?_ | refine o_q _ rfl rfl rfl (v_lfN rfl Tryd.underlying29 rfl inf29 rfl rfl rfl) ?_ | refine o_q _ rfl rfl rfl (v_ldN rfl Tryd.underlying29 rfl inf29 rfl rfl rfl) ?_ | refine o_q _ rfl rfl rfl (v_loadEN rfl Tryd.underlying29 rfl inf29 rfl (by omega) rfl rfl rfl) ?_
        refine o_st rfl inf29 rfl rfl rfl rfl rfl rfl rfl rfl ?_
        refine o_st rfl inf30 rfl rfl rfl rfl rfl rfl rfl rfl ?_
        refine o_nil ?_
        repeat (first | with_reducible refine r_then ?_ | with_reducible refine r_in_normal ?_ | with_reducible refine r_sc_normal ?_)
        refine r_ret ?_
        repeat (first | with_reducible refine r_then_ret ?_ | with_reducible refine r_in_ret ?_ | with_reducible refine r_sc_ret ?_)
        refine Imp.box_to b4 [i64 (sumT D dn D.people.toNat).lo, i64 (sumT D dn D.people.toNat).hi] rfl ?_
        exact d_retv answer_ans (Rd.two rfl (RdI.cellW Tryd.underlying29 rfl inf29 rfl rfl) (RdI.cell1 Tryd.underlying30 rfl rfl rfl)) (by rw [sumB, ansD_0 (chkD_0 hg h2), Int.toNat_natCast]; try rfl) SelMC.sel SubRC.sub
theorem sum24_v (d : Int) (hl1 : D.dues.length ≤ 40) (hl2 : D.paid.length ≤ 40) : FnV Tryd.prog 24 [valD D uo po uc pc, i64 d] [rowD uo 5 encD D.dues, rowD po 4 encP D.paid, rowD (some ⟨0, 0, none⟩) 1 encE ([0, 1] : List Nat)] (.tuple #[vS (sumB D d).1, i64 (sumB D d).2]) := by
  by_cases hg : GoodD D
  · cases h2 : isDy d
    · exact sum24_x2 D uo po uc pc d hl1 hl2 hg h2
    · exact sum24_ok D uo po uc pc d hl1 hl2 hg h2
  · exact sum24_x1 D uo po uc pc d hl1 hl2 hg
/-- Whether a payment is one of the same person and day as one before; which rule a payment breaks. -/
def TwiceP (D : Debt) (k : Nat) : Prop := ∃ j, j < k ∧ (D.paid.getD j default).who = (D.paid.getD k default).who ∧ (D.paid.getD j default).day = (D.paid.getD k default).day
instance (D : Debt) (k : Nat) : Decidable (TwiceP D k) := decidable_of_iff ((List.range k).any (fun j => decide ((D.paid.getD j default).who = (D.paid.getD k default).who ∧ (D.paid.getD j default).day = (D.paid.getD k default).day)) = true) (by
  rw [List.any_eq_true]
  constructor
  · rintro ⟨j, hj, h⟩; exact ⟨j, List.mem_range.1 hj, of_decide_eq_true h⟩
  · rintro ⟨j, hj, h⟩; exact ⟨j, List.mem_range.2 hj, decide_eq_true h⟩)
def worstA (D : Debt) (k : Nat) : Int := (progA D 1 (D.paid.getD k default).who ((D.paid.getD k default).day.toNat + 1)).2
def ruleP (D : Debt) (k : Nat) : Int := if TwiceP D k then 1 else if worstA D k > 0 then 2 else 0
/-- The first of the payments before the n-th that breaks a rule. -/
def firstR (D : Debt) : Nat → Option Nat
  | 0 => none
  | n + 1 => match firstR D n with
    | some i => some i
    | none => if ruleP D n ≠ 0 then some n else none
def checkT (D : Debt) : (Int × Int) × Int := match firstR D D.paid.length with
  | some i => (((i : Int), ruleP D i), 0)
  | none => ((0, 0), 4)
def checkB (D : Debt) : (Int × Int) × Int := if GoodD D then checkT D else ((0, 0), 1)
theorem firstR_y {D : Debt} {k : Nat} (h : firstR D k = none) (hr : ruleP D k ≠ 0) : firstR D (k + 1) = some k := by unfold firstR; rw [h]; exact if_pos hr
theorem firstR_n {D : Debt} {k : Nat} (h : firstR D k = none) (hr : ruleP D k = 0) : firstR D (k + 1) = none := by unfold firstR; rw [h]; exact if_neg (fun h => h hr)
theorem firstR_up {D : Debt} {k i : Nat} (h : firstR D k = some i) : ∀ {n : Nat}, k ≤ n → firstR D n = some i
  | 0, hn => by obtain rfl : k = 0 := by omega
                exact h
  | n + 1, hn => by
    by_cases e : k = n + 1
    · subst e; exact h
    · unfold firstR; rw [firstR_up h (by omega)]
theorem check_hit {D : Debt} {k : Nat} (hg : GoodD D) (h : firstR D k = none) (hk : k < D.paid.length) (hr : ruleP D k ≠ 0) : checkB D = (((k : Int), ruleP D k), 0) := by
  unfold checkB checkT; rw [if_pos hg, firstR_up (firstR_y h hr) (by omega)]
theorem check_none {D : Debt} (hg : GoodD D) (h : firstR D D.paid.length = none) : checkB D = ((0, 0), 4) := by unfold checkB checkT; rw [if_pos hg, h]
theorem rule_1 {D : Debt} {k : Nat} (h : TwiceP D k) : ruleP D k = 1 := if_pos h
theorem rule_2 {D : Debt} {k : Nat} (h : ¬ TwiceP D k) (h2 : 0 < worstA D k) : ruleP D k = 2 := by unfold ruleP; rw [if_neg h, if_pos h2]
theorem rule_0 {D : Debt} {k : Nat} (h : ¬ TwiceP D k) (h2 : ¬ 0 < worstA D k) : ruleP D k = 0 := by unfold ruleP; rw [if_neg h, if_neg h2]
@[reducible] def bkV (who day : Int) : Value := .agg #[i64 who, i64 day]
theorem bkV_inj {a b a' b' : Int} (h : bkV a b = bkV a' b') : a = a' ∧ b = b' := by
  have h2 : [i64 a, i64 b] = [i64 a', i64 b'] := congrArg Array.toList (Value.agg.inj h)
  simp only [List.cons.injEq, Value.int.injEq, true_and, and_true] at h2
  exact h2
/-- The bookings that were seen. -/
noncomputable def seenC (D : Debt) : Nat → Cont
  | 0 => fun _ => none
  | k + 1 => (seenC D k).put (bkV (D.paid.getD k default).who (D.paid.getD k default).day) (.bool true)
theorem seen_y {D : Debt} {a b : Int} : ∀ {k : Nat}, (∃ j, j < k ∧ (D.paid.getD j default).who = a ∧ (D.paid.getD j default).day = b) → seenC D k (bkV a b) = some (.bool true)
  | 0, ⟨j, hj, _⟩ => by omega
  | k + 1, ⟨j, hj, h1, h2⟩ => by
    unfold seenC
    by_cases e : bkV a b = bkV (D.paid.getD k default).who (D.paid.getD k default).day
    · rw [e, Cont.put_eq]
    · rw [Cont.put_ne _ _ e]
      refine seen_y ⟨j, ?_, h1, h2⟩
      rcases Nat.lt_succ_iff_lt_or_eq.1 hj with h | rfl
      · exact h
      · exact absurd (by rw [h1, h2]) e
theorem seen_n {D : Debt} {a b : Int} : ∀ {k : Nat}, (¬ ∃ j, j < k ∧ (D.paid.getD j default).who = a ∧ (D.paid.getD j default).day = b) → seenC D k (bkV a b) = none
  | 0, _ => rfl
  | k + 1, h => by
    unfold seenC
    rw [Cont.put_ne _ _ (fun e => by
      obtain ⟨h1, h2⟩ := bkV_inj e
      exact h ⟨k, by omega, h1.symm, h2.symm⟩)]
    exact seen_n fun ⟨j, hj, h1, h2⟩ => h ⟨j, by omega, h1, h2⟩
theorem keyLaw98 : WideMaps.KeyLaw Tryd.prog 98 := deep_law_gate laid0 (by decide +kernel) (by decide +kernel) (by kernel_rfl) (by kernel_rfl)
theorem key98_of {a b : Int} (ha : -1000 ≤ a ∧ a ≤ 1000) (hb : -1000 ≤ b ∧ b ≤ 1000) : ∃ l, keyOf Tryd.prog 98 (bkV a b) = some l := by
  have h1 := Tryd.underlying98
  unfold keyOf
  rw [h1]
  have h2 : Tryd.prog.keyType 98 = true := by kernel_rfl
  have h3 : (bkV a b).formed Tryd.prog 98 = true := by kernel_rfl
  have c98 : Tryd.prog.cellsOf 98 = 2 := by kernel_rfl
  have c3 : Tryd.prog.cellsOf 3 = 1 := by kernel_rfl
  have kl3 : ∀ (s : Int), (-1000 ≤ s ∧ s ≤ 1000) → ∀ d, Tryd.prog.keyLits (d + 1) 3 [i64 s] = some [.int .i64 s] := fun s hs d => by
    have hw : (Lit.int .i64 s).wf = true := by
      have m1 : IntKind.i64.min = -9223372036854775808 := rfl
      have m2 : IntKind.i64.max = 9223372036854775807 := rfl
      simp only [Lit.wf]
      simp
      omega
    unfold Program.keyLits
    rw [Tryd.underlying3]
    simp [hw]
  have k1 := kl3 a ha
  have k2 := kl3 b hb
  have e98 : Tryd.prog.keyLits (Tryd.prog.types.size + 1) 98 (bkV a b).cells.toList = some [.int .i64 a, .int .i64 b] := by
    have hsz : Tryd.prog.types.size + 1 = 184 + 2 := by kernel_rfl
    rw [hsz]
    unfold Program.keyLits
    rw [Tryd.underlying98]
    simp [c98, c3, Value.cells, k1, k2]
  rw [e98, h2, h3]
  exact ⟨_, rfl⟩
set_option maxHeartbeats 4000000 in
theorem check28_x (hl1 : D.dues.length ≤ 40) (hl2 : D.paid.length ≤ 40) (hng : ¬ GoodD D) : FnV Tryd.prog 28 [valD D uo po uc pc] [rowD uo 5 encD D.dues, rowD po 4 encP D.paid, rowD (some ⟨0, 0, none⟩) 1 encE ([0, 1] : List Nat)] (.tuple #[i64 (checkB D).1.1, i64 (checkB D).1.2, i64 (checkB D).2]) := by
  refine FnV.introD Tryd.call28 Tryd.func28 rfl Tryd.ntmps28 rfl ?_
  intro W M Rf
  refine r_seq ?_
  refine r_region ?_
  refine o_boxA rfl rfl rfl rfl rfl (fun b1 => ?_)
  refine o_q _ rfl rfl rfl (v_assign rfl rfl) ?_
  refine o_q _ rfl rfl rfl (v_assign rfl rfl) ?_
  refine o_alloc rfl inf30 rfl rfl rfl rfl rfl (fun b4 => ?_)
  refine o_nil ?_
  repeat (first | with_reducible refine r_then ?_ | with_reducible refine r_in_normal ?_ | with_reducible refine r_sc_normal ?_)
  refine r_seq ?_
  refine r_region ?_
  refine o_defer rfl rfl rfl rfl ?_
  refine o_nil ?_
  repeat (first | with_reducible refine r_then ?_ | with_reducible refine r_in_normal ?_ | with_reducible refine r_sc_normal ?_)
  refine r_seq ?_
  refine r_region ?_
  first | refine o_q _ rfl rfl rfl (v_ldW rfl Tryd.underlying25 rfl inf25 rfl rfl) ?_ | refine o_q _ rfl rfl rfl (v_lfW rfl Tryd.underlying25 rfl inf25 rfl rfl) ?_ | refine o_q _ rfl rfl rfl (v_lfN rfl Tryd.underlying25 rfl inf25 rfl rfl rfl) ?_ | refine o_q _ rfl rfl rfl (v_ldN rfl Tryd.underlying25 rfl inf25 rfl rfl rfl) ?_ | refine o_q _ rfl rfl rfl (v_loadEN rfl Tryd.underlying25 rfl inf25 rfl (by omega) rfl rfl rfl) ?_
  refine o_fnx (look_x1 D uo po uc pc true hl1 hl2 hng) rfl rfl rfl SubRC.sub ?_
  repeat (first | with_reducible refine r_then_panic ?_ | with_reducible refine r_in_panic ?_ | with_reducible refine r_sc_panic ?_)
  exact d_panv answer_ans (Rd.three rfl (RdI.tmp rfl) (RdI.tmp rfl) (RdI.cell1 Tryd.underlying30 rfl rfl rfl)) (by rw [show checkB D = ((0, 0), 1) from if_neg hng]; try rfl) SelMC.sel SubRC.sub
theorem Imp.seen_0 {D : Debt} (sb : Nat) {W : World} {n : Nat} {Df : List Deferred} {L : Tm} {M M' : List Res} {R : List Fact} {X : Act → World → Prop} [hd : DelC M (mapG Tryd.prog 98 sb (fun _ => none)) M'] (h : Imp W n Df L (mapG Tryd.prog 98 sb (seenC D 0) :: M') R X) : Imp W n Df L M R X := fun a w h1 h2 h3 => h a w h1 h2 (h3.perm hd.del.perm)
theorem Imp.seen_s {D : Debt} {k : Nat} (sb : Nat) {W : World} {n : Nat} {Df : List Deferred} {L : Tm} {M M' : List Res} {R : List Fact} {X : Act → World → Prop} [hd : DelC M (mapG Tryd.prog 98 sb ((seenC D k).put (bkV (D.paid.getD k default).who (D.paid.getD k default).day) (.bool true))) M'] (h : Imp W n Df L (mapG Tryd.prog 98 sb (seenC D (k + 1)) :: M') R X) : Imp W n Df L M R X := fun a w h1 h2 h3 => h a w h1 h2 (h3.perm hd.del.perm)
set_option maxHeartbeats 4000000 in
theorem check28_ok (hl1 : D.dues.length ≤ 40) (hl2 : D.paid.length ≤ 40) (hg : GoodD D) : FnV Tryd.prog 28 [valD D uo po uc pc] [rowD uo 5 encD D.dues, rowD po 4 encP D.paid, rowD (some ⟨0, 0, none⟩) 1 encE ([0, 1] : List Nat)] (.tuple #[i64 (checkB D).1.1, i64 (checkB D).1.2, i64 (checkB D).2]) := by
  refine FnV.introD Tryd.call28 Tryd.func28 rfl Tryd.ntmps28 rfl ?_
  intro W M Rf
  refine r_seq ?_
  refine r_region ?_
  refine o_boxA rfl rfl rfl rfl rfl (fun b1 => ?_)
  refine o_q _ rfl rfl rfl (v_assign rfl rfl) ?_
  refine o_q _ rfl rfl rfl (v_assign rfl rfl) ?_
  refine o_alloc rfl inf30 rfl rfl rfl rfl rfl (fun b4 => ?_)
  refine o_nil ?_
  repeat (first | with_reducible refine r_then ?_ | with_reducible refine r_in_normal ?_ | with_reducible refine r_sc_normal ?_)
  refine r_seq ?_
  refine r_region ?_
  refine o_defer rfl rfl rfl rfl ?_
  refine o_nil ?_
  repeat (first | with_reducible refine r_then ?_ | with_reducible refine r_in_normal ?_ | with_reducible refine r_sc_normal ?_)
  refine r_seq ?_
  refine r_region ?_
  first | refine o_q _ rfl rfl rfl (v_ldW rfl Tryd.underlying25 rfl inf25 rfl rfl) ?_ | refine o_q _ rfl rfl rfl (v_lfW rfl Tryd.underlying25 rfl inf25 rfl rfl) ?_ | refine o_q _ rfl rfl rfl (v_lfN rfl Tryd.underlying25 rfl inf25 rfl rfl rfl) ?_ | refine o_q _ rfl rfl rfl (v_ldN rfl Tryd.underlying25 rfl inf25 rfl rfl rfl) ?_ | refine o_q _ rfl rfl rfl (v_loadEN rfl Tryd.underlying25 rfl inf25 rfl (by omega) rfl rfl rfl) ?_
  refine o_fnR (look_ok D uo po uc pc hl1 hl2 hg) rfl rfl rfl rfl rfl SubRC.sub (fun lb => ?_)
  refine o_q _ rfl rfl rfl (v_assign rfl rfl) ?_
  refine o_nil ?_
  repeat (first | with_reducible refine r_then ?_ | with_reducible refine r_in_normal ?_ | with_reducible refine r_sc_normal ?_)
  refine r_seq ?_
  refine opened D uo po uc pc lb (fun mb => ?_)
  refine r_region ?_
  refine o_makeMapG (P := Tryd.prog) (k := 98) rfl rfl rfl rfl (fun sb => ?_)
  refine o_q _ rfl rfl rfl (v_assign rfl rfl) ?_
  refine o_nil ?_
  repeat (first | with_reducible refine r_then ?_ | with_reducible refine r_in_normal ?_ | with_reducible refine r_sc_normal ?_)
  refine r_seq ?_
  refine r_seq ?_
  refine r_region ?_
  first | refine o_q _ rfl rfl rfl (v_fieldAddr rfl Tryd.underlying25 inf23 rfl rfl rfl rfl) ?_ | refine o_q _ rfl rfl rfl (v_fieldAddrE rfl Tryd.underlying25 inf23 rfl rfl rfl rfl) ?_
  first | refine o_q _ rfl rfl rfl (v_ld1 rfl Tryd.underlying23 rfl rfl rfl) ?_ | refine o_q _ rfl rfl rfl (v_lf1 rfl Tryd.underlying23 rfl rfl rfl) ?_ | refine o_q _ rfl rfl rfl (v_loadE1 rfl Tryd.underlying23 rfl rfl (by omega) rfl rfl) ?_
  refine o_q _ rfl rfl rfl (v_len rfl rfl Tryd.underlying23 rfl) ?_
  refine o_q _ rfl rfl rfl (v_move rfl rfl) ?_
  refine o_nil ?_
  repeat (first | with_reducible refine r_then ?_ | with_reducible refine r_in_normal ?_ | with_reducible refine r_sc_normal ?_)
  refine r_block ?_
  refine r_loop (ι := Nat × Cont) (fun gh => gh.1 ≤ D.paid.length ∧ firstR D gh.1 = none) (fun gh => [(1, pt b1 0), (2, i64 0), (3, i64 0), (4, pt b4 0), (5, pt lb 0), (6, .map (some sb)), (16, .slice po D.paid.length pc), (17, i64 D.paid.length), (18, i64 gh.1)]) (fun gh => mapG Tryd.prog 113 mb gh.2 :: mapG Tryd.prog 98 sb (seenC D (gh.1)) :: bx b4 30 [i64 0] :: M) (fun gh => entF D gh.2 :: boxF lb 108 [i64 D.people, .slice uo D.dues.length uc, .slice po D.paid.length pc, .map (some mb)] :: ([rowD uo 5 encD D.dues, rowD po 4 encP D.paid, rowD (some ⟨0, 0, none⟩) 1 encE ([0, 1] : List Nat)] ++ Rf)) (fun gh => D.paid.length - gh.1) (0, fun _ => none) ?_ ?_ ?_
  ·
    refine Imp.box_to b4 [i64 0] rfl ?_
    refine Imp.seen_0 (D := D) sb ?_
    exact r_here (by repeat (first | exact FSub.nil | refine FSub.cons rfl ?_)) SelMC.sel SubRC.sub
  ·
    exact ⟨Nat.zero_le _, rfl⟩
  ·
    rintro ⟨k, G⟩ hI0
    dsimp only at hI0
    dsimp only
    have hI : k ≤ D.paid.length := hI0.1
    have hfr : firstR D k = none := hI0.2
    refine r_seq ?_
    refine r_region ?_
    refine o_q _ rfl rfl rfl (v_lss rfl rfl rfl) ?_
    refine o_nil ?_
    repeat (first | with_reducible refine r_then ?_ | with_reducible refine r_in_normal ?_ | with_reducible refine r_sc_normal ?_)
    refine r_seq ?_
    first | refine r_condd rfl (fun hc19 => ?_) (fun hc19 => ?_) | refine r_cond rfl (fun hc19 => ?_) (fun hc19 => ?_)
    ·
      first
      | (exfalso; revert hc19; decide)
      | (exfalso; omega)
      | skip
        refine r_skip ?_
        repeat (first | with_reducible refine r_then ?_ | with_reducible refine r_in_normal ?_ | with_reducible refine r_sc_normal ?_)
        refine r_seq ?_
        refine r_block ?_
        refine r_seq ?_
        refine r_region ?_
        refine o_q _ rfl rfl rfl (v_move rfl rfl) ?_
        first | refine o_q _ rfl rfl rfl (v_indexAddrSn rfl Tryd.underlying23 inf54 rfl rfl rfl (by omega) rfl) ?_ | refine o_q _ rfl rfl rfl (v_indexAddrS rfl Tryd.underlying23 inf54 rfl rfl rfl (by omega) (by omega) rfl) ?_
        refine o_q _ rfl rfl rfl (v_loadEN (us := encP (D.paid.getD k default)) rfl Tryd.underlying54 rfl inf54 rfl (by omega) rfl rfl rfl) ?_
        refine o_alloc rfl inf54 rfl rfl rfl rfl rfl (fun b8 => ?_)
        refine o_q _ rfl rfl rfl (v_assign rfl rfl) ?_
        refine o_st rfl inf54 rfl rfl rfl rfl rfl rfl rfl rfl ?_
        refine o_nil ?_
        repeat (first | with_reducible refine r_then ?_ | with_reducible refine r_in_normal ?_ | with_reducible refine r_sc_normal ?_)
        refine r_seq ?_
        refine Imp.box_to b8 (encP (D.paid.getD k default)) rfl ?_
        have hok := hg.paid k (by omega)
        unfold PaidOk at hok
        have hq1 := hg.np
        obtain ⟨dk, hdk⟩ : ∃ n : Nat, (D.paid.getD k default).day = n := ⟨(D.paid.getD k default).day.toNat, by omega⟩
        obtain ⟨kl, hkl⟩ := key98_of (a := (D.paid.getD k default).who) (b := (D.paid.getD k default).day) (by omega) (by omega)
        refine r_region ?_
        first | refine o_q _ rfl rfl rfl (v_fieldAddr rfl Tryd.underlying54 inf3 rfl rfl rfl rfl) ?_ | refine o_q _ rfl rfl rfl (v_fieldAddrE rfl Tryd.underlying54 inf3 rfl rfl rfl rfl) ?_
        first | refine o_q _ rfl rfl rfl (v_ld1 rfl Tryd.underlying3 rfl rfl rfl) ?_ | refine o_q _ rfl rfl rfl (v_lf1 rfl Tryd.underlying3 rfl rfl rfl) ?_ | refine o_q _ rfl rfl rfl (v_loadE1 rfl Tryd.underlying3 rfl rfl (by omega) rfl rfl) ?_
        first | refine o_q _ rfl rfl rfl (v_fieldAddr rfl Tryd.underlying54 inf3 rfl rfl rfl rfl) ?_ | refine o_q _ rfl rfl rfl (v_fieldAddrE rfl Tryd.underlying54 inf3 rfl rfl rfl rfl) ?_
        first | refine o_q _ rfl rfl rfl (v_ld1 rfl Tryd.underlying3 rfl rfl rfl) ?_ | refine o_q _ rfl rfl rfl (v_lf1 rfl Tryd.underlying3 rfl rfl rfl) ?_ | refine o_q _ rfl rfl rfl (v_loadE1 rfl Tryd.underlying3 rfl rfl (by omega) rfl rfl) ?_
        refine o_q _ rfl rfl rfl (v_bS rfl Tryd.underlying98 inf98 plt98 rfl rfl rfl (by repeat (first | exact trivial | refine ⟨rfl, ?_⟩)) (by rfl)) ?_
        refine o_alloc rfl inf98 rfl rfl rfl rfl rfl (fun b9 => ?_)
        refine o_st rfl inf98 rfl rfl rfl rfl rfl rfl rfl rfl ?_
        refine o_nil ?_
        repeat (first | with_reducible refine r_then ?_ | with_reducible refine r_in_normal ?_ | with_reducible refine r_sc_normal ?_)
        refine r_seq ?_
        refine r_seq ?_
        obtain ⟨tw, hse, htw⟩ : ∃ r : Option Value, seenC D k (bkV (D.paid.getD k default).who (D.paid.getD k default).day) = r ∧ ((TwiceP D k ∧ r = some (.bool true)) ∨ (¬ TwiceP D k ∧ r = none)) := by
          by_cases h : TwiceP D k
          · exact ⟨_, seen_y h, .inl ⟨h, rfl⟩⟩
          · exact ⟨_, seen_n h, .inr ⟨h, rfl⟩⟩
        rcases htw with ⟨htw, rfl⟩ | ⟨htw, rfl⟩
        all_goals
        refine r_region ?_
        refine o_q _ rfl rfl rfl (v_move rfl rfl) ?_
        first | refine o_q _ rfl rfl rfl (v_ldW rfl Tryd.underlying98 rfl inf98 rfl rfl) ?_ | refine o_q _ rfl rfl rfl (v_lfW rfl Tryd.underlying98 rfl inf98 rfl rfl) ?_ | refine o_q _ rfl rfl rfl (v_lfN rfl Tryd.underlying98 rfl inf98 rfl rfl rfl) ?_ | refine o_q _ rfl rfl rfl (v_ldN rfl Tryd.underlying98 rfl inf98 rfl rfl rfl) ?_ | refine o_q _ rfl rfl rfl (v_loadEN rfl Tryd.underlying98 rfl inf98 rfl (by omega) rfl rfl rfl) ?_
        first | refine o_q _ rfl rfl rfl (v_cast (v := .bool true) (v_lookG (seenC D k) (some (.bool true)) keyLaw98 hkl rfl Tryd.underlying96 inf4 (z := .bool false) rfl hse rfl rfl) rfl) ?_ | refine o_q _ rfl rfl rfl (v_cast (v := .bool false) (v_lookG (seenC D k) none keyLaw98 hkl rfl Tryd.underlying96 inf4 (z := .bool false) rfl hse rfl rfl) rfl) ?_
        refine o_nil ?_
        repeat (first | with_reducible refine r_then ?_ | with_reducible refine r_in_normal ?_ | with_reducible refine r_sc_normal ?_)
        first | refine r_condd rfl (fun hc30 => ?_) (fun hc30 => ?_) | refine r_cond rfl (fun hc30 => ?_) (fun hc30 => ?_)
        ·
          first
          | (exfalso; revert hc30; decide)
          | (exfalso; omega)
          | skip
            refine r_seq ?_
            refine r_region ?_
            refine o_q _ rfl rfl rfl (v_move rfl rfl) ?_
            refine o_q _ rfl rfl rfl (v_assign rfl rfl) ?_
            refine o_q _ rfl rfl rfl (v_assign rfl rfl) ?_
            refine o_st rfl inf30 rfl rfl rfl rfl rfl rfl rfl rfl ?_
            refine o_nil ?_
            repeat (first | with_reducible refine r_then ?_ | with_reducible refine r_in_normal ?_ | with_reducible refine r_sc_normal ?_)
            refine r_ret ?_
            repeat (first | with_reducible refine r_then_ret ?_ | with_reducible refine r_in_ret ?_ | with_reducible refine r_sc_ret ?_)
            first
            | exact d_retv answer_ans (Rd.three rfl (RdI.tmp rfl) (RdI.tmp rfl) (RdI.cell1 Tryd.underlying30 rfl rfl rfl)) (by rw [check_hit hg hfr (by omega) (by rw [rule_1 (by assumption)]; decide), rule_1 (by assumption)]; try rfl) SelMC.sel SubRC.sub
            | exact d_retv answer_ans (Rd.three rfl (RdI.tmp rfl) (RdI.tmp rfl) (RdI.cell1 Tryd.underlying30 rfl rfl rfl)) (by rw [check_hit hg hfr (by omega) (by rw [rule_2 (by assumption) (by omega)]; decide), rule_2 (by assumption) (by omega)]; try rfl) SelMC.sel SubRC.sub
            | exact d_retv answer_ans (Rd.three rfl (RdI.tmp rfl) (RdI.tmp rfl) (RdI.cell1 Tryd.underlying30 rfl rfl rfl)) (by rw [check_none hg (by rw [show D.paid.length = k by omega]; exact hfr)]; try rfl) SelMC.sel SubRC.sub
        ·
          first
          | (exfalso; revert hc30; decide)
          | (exfalso; omega)
          | skip
            refine r_skip ?_
            repeat (first | with_reducible refine r_then ?_ | with_reducible refine r_in_normal ?_ | with_reducible refine r_sc_normal ?_)
            refine r_seq ?_
            refine r_region ?_
            refine o_q _ rfl rfl rfl (v_move rfl rfl) ?_
            first | refine o_q _ rfl rfl rfl (v_ldW rfl Tryd.underlying98 rfl inf98 rfl rfl) ?_ | refine o_q _ rfl rfl rfl (v_lfW rfl Tryd.underlying98 rfl inf98 rfl rfl) ?_ | refine o_q _ rfl rfl rfl (v_lfN rfl Tryd.underlying98 rfl inf98 rfl rfl rfl) ?_ | refine o_q _ rfl rfl rfl (v_ldN rfl Tryd.underlying98 rfl inf98 rfl rfl rfl) ?_ | refine o_q _ rfl rfl rfl (v_loadEN rfl Tryd.underlying98 rfl inf98 rfl (by omega) rfl rfl rfl) ?_
            refine o_mapUpdG (G := seenC D k) keyLaw98 hkl rfl Tryd.underlying96 rfl rfl rfl rfl rfl ?_
            refine o_nil ?_
            repeat (first | with_reducible refine r_then ?_ | with_reducible refine r_in_normal ?_ | with_reducible refine r_sc_normal ?_)
            refine r_seq ?_
            refine r_region ?_
            refine o_q _ rfl rfl rfl (v_move rfl rfl) ?_
            first | refine o_q _ rfl rfl rfl (v_fieldAddr rfl Tryd.underlying54 inf3 rfl rfl rfl rfl) ?_ | refine o_q _ rfl rfl rfl (v_fieldAddrE rfl Tryd.underlying54 inf3 rfl rfl rfl rfl) ?_
            first | refine o_q _ rfl rfl rfl (v_ld1 rfl Tryd.underlying3 rfl rfl rfl) ?_ | refine o_q _ rfl rfl rfl (v_lf1 rfl Tryd.underlying3 rfl rfl rfl) ?_ | refine o_q _ rfl rfl rfl (v_loadE1 rfl Tryd.underlying3 rfl rfl (by omega) rfl rfl) ?_
            first | refine o_q _ rfl rfl rfl (v_fieldAddr rfl Tryd.underlying54 inf3 rfl rfl rfl rfl) ?_ | refine o_q _ rfl rfl rfl (v_fieldAddrE rfl Tryd.underlying54 inf3 rfl rfl rfl rfl) ?_
            first | refine o_q _ rfl rfl rfl (v_ld1 rfl Tryd.underlying3 rfl rfl rfl) ?_ | refine o_q _ rfl rfl rfl (v_lf1 rfl Tryd.underlying3 rfl rfl rfl) ?_ | refine o_q _ rfl rfl rfl (v_loadE1 rfl Tryd.underlying3 rfl rfl (by omega) rfl rfl) ?_
            refine o_fnX (both_s D uo po uc pc lb mb G (D.paid.getD k default).who dk hg (by omega) (by omega)) rfl (by rw [hdk]; rfl) rfl rfl rfl SubRC.sub (fun x40 _ => ?_)
            refine o_q _ rfl rfl rfl (v_move rfl rfl) ?_
            refine o_q _ rfl rfl rfl (v_extract rfl rfl rfl) ?_
            refine o_q _ rfl rfl rfl (v_extract rfl rfl rfl) ?_
            refine o_alloc rfl inf77 rfl rfl rfl rfl rfl (fun b10 => ?_)
            refine o_alloc rfl inf77 rfl rfl rfl rfl rfl (fun b11 => ?_)
            refine o_st rfl inf77 rfl rfl rfl rfl rfl rfl rfl rfl ?_
            refine o_st rfl inf77 rfl rfl rfl rfl rfl rfl rfl rfl ?_
            refine o_nil ?_
            repeat (first | with_reducible refine r_then ?_ | with_reducible refine r_in_normal ?_ | with_reducible refine r_sc_normal ?_)
            refine r_seq ?_
            refine Imp.box_to b11 [.slice x40.2.2.1 (progA D 1 (D.paid.getD k default).who (dk + 1)).1.length x40.2.2.2, i64 (progA D 1 (D.paid.getD k default).who (dk + 1)).2] rfl ?_
            have hwa : worstA D k = (progA D 1 (D.paid.getD k default).who (dk + 1)).2 := by rw [worstA, hdk]; rfl
            refine r_region ?_
            first | refine o_q _ rfl rfl rfl (v_fieldAddr rfl Tryd.underlying77 inf75 rfl rfl rfl rfl) ?_ | refine o_q _ rfl rfl rfl (v_fieldAddrE rfl Tryd.underlying77 inf75 rfl rfl rfl rfl) ?_
            first | refine o_q _ rfl rfl rfl (v_ld1 rfl Tryd.underlying75 rfl rfl rfl) ?_ | refine o_q _ rfl rfl rfl (v_lf1 rfl Tryd.underlying75 rfl rfl rfl) ?_ | refine o_q _ rfl rfl rfl (v_loadE1 rfl Tryd.underlying75 rfl rfl (by omega) rfl rfl) ?_
            refine o_q _ rfl rfl rfl (v_gtr rfl rfl rfl) ?_
            refine o_nil ?_
            repeat (first | with_reducible refine r_then ?_ | with_reducible refine r_in_normal ?_ | with_reducible refine r_sc_normal ?_)
            first | refine r_condd rfl (fun hc45 => ?_) (fun hc45 => ?_) | refine r_cond rfl (fun hc45 => ?_) (fun hc45 => ?_)
            ·
              first
              | (exfalso; revert hc45; decide)
              | (exfalso; omega)
              | skip
                refine r_seq ?_
                refine r_region ?_
                refine o_q _ rfl rfl rfl (v_move rfl rfl) ?_
                refine o_q _ rfl rfl rfl (v_assign rfl rfl) ?_
                refine o_q _ rfl rfl rfl (v_assign rfl rfl) ?_
                refine o_st rfl inf30 rfl rfl rfl rfl rfl rfl rfl rfl ?_
                refine o_nil ?_
                repeat (first | with_reducible refine r_then ?_ | with_reducible refine r_in_normal ?_ | with_reducible refine r_sc_normal ?_)
                refine r_ret ?_
                repeat (first | with_reducible refine r_then_ret ?_ | with_reducible refine r_in_ret ?_ | with_reducible refine r_sc_ret ?_)
                first
                | exact d_retv answer_ans (Rd.three rfl (RdI.tmp rfl) (RdI.tmp rfl) (RdI.cell1 Tryd.underlying30 rfl rfl rfl)) (by rw [check_hit hg hfr (by omega) (by rw [rule_1 (by assumption)]; decide), rule_1 (by assumption)]; try rfl) SelMC.sel SubRC.sub
                | exact d_retv answer_ans (Rd.three rfl (RdI.tmp rfl) (RdI.tmp rfl) (RdI.cell1 Tryd.underlying30 rfl rfl rfl)) (by rw [check_hit hg hfr (by omega) (by rw [rule_2 (by assumption) (by omega)]; decide), rule_2 (by assumption) (by omega)]; try rfl) SelMC.sel SubRC.sub
                | exact d_retv answer_ans (Rd.three rfl (RdI.tmp rfl) (RdI.tmp rfl) (RdI.cell1 Tryd.underlying30 rfl rfl rfl)) (by rw [check_none hg (by rw [show D.paid.length = k by omega]; exact hfr)]; try rfl) SelMC.sel SubRC.sub
            ·
              first
              | (exfalso; revert hc45; decide)
              | (exfalso; omega)
              | skip
                refine r_skip ?_
                repeat (first | with_reducible refine r_then ?_ | with_reducible refine r_in_normal ?_ | with_reducible refine r_sc_normal ?_)
                refine r_region ?_
                refine o_q _ rfl rfl rfl (v_add rfl rfl rfl (by omega)) ?_
                refine o_q _ rfl rfl rfl (v_move rfl rfl) ?_
                refine o_nil ?_
                repeat (first | with_reducible refine r_then ?_ | with_reducible refine r_in_normal ?_ | with_reducible refine r_sc_normal ?_)
                first
                | exact r_next ((k + 1, x40.1)) (by refine Imp.seen_s (D := D) (k := k) sb ?_; exact r_here (by repeat (first | exact FSub.nil | refine FSub.cons rfl ?_)) SelMC.sel SubRC.sub) (by exact ⟨by omega, firstR_n hfr (rule_0 (by assumption) (by omega))⟩) (by (show D.paid.length - (k + 1) < D.paid.length - k; omega))
    ·
      first
      | (exfalso; revert hc19; decide)
      | (exfalso; omega)
      | skip
        refine r_exit ?_
        repeat (first | with_reducible refine r_then_exit ?_ | with_reducible refine r_sc_exit ?_ | with_reducible refine r_in_here ?_ | (with_reducible refine r_in_past (by decide) ?_) | with_reducible refine r_then ?_ | with_reducible refine r_in_normal ?_ | with_reducible refine r_sc_normal ?_)
        refine r_seq ?_
        refine r_region ?_
        refine o_q _ rfl rfl rfl (v_assign rfl rfl) ?_
        refine o_q _ rfl rfl rfl (v_assign rfl rfl) ?_
        refine o_st rfl inf30 rfl rfl rfl rfl rfl rfl rfl rfl ?_
        refine o_nil ?_
        repeat (first | with_reducible refine r_then ?_ | with_reducible refine r_in_normal ?_ | with_reducible refine r_sc_normal ?_)
        refine r_ret ?_
        repeat (first | with_reducible refine r_then_ret ?_ | with_reducible refine r_in_ret ?_ | with_reducible refine r_sc_ret ?_)
        first
        | exact d_retv answer_ans (Rd.three rfl (RdI.tmp rfl) (RdI.tmp rfl) (RdI.cell1 Tryd.underlying30 rfl rfl rfl)) (by rw [check_hit hg hfr (by omega) (by rw [rule_1 (by assumption)]; decide), rule_1 (by assumption)]; try rfl) SelMC.sel SubRC.sub
        | exact d_retv answer_ans (Rd.three rfl (RdI.tmp rfl) (RdI.tmp rfl) (RdI.cell1 Tryd.underlying30 rfl rfl rfl)) (by rw [check_hit hg hfr (by omega) (by rw [rule_2 (by assumption) (by omega)]; decide), rule_2 (by assumption) (by omega)]; try rfl) SelMC.sel SubRC.sub
        | exact d_retv answer_ans (Rd.three rfl (RdI.tmp rfl) (RdI.tmp rfl) (RdI.cell1 Tryd.underlying30 rfl rfl rfl)) (by rw [check_none hg (by rw [show D.paid.length = k by omega]; exact hfr)]; try rfl) SelMC.sel SubRC.sub
theorem check28_v (hl1 : D.dues.length ≤ 40) (hl2 : D.paid.length ≤ 40) : FnV Tryd.prog 28 [valD D uo po uc pc] [rowD uo 5 encD D.dues, rowD po 4 encP D.paid, rowD (some ⟨0, 0, none⟩) 1 encE ([0, 1] : List Nat)] (.tuple #[i64 (checkB D).1.1, i64 (checkB D).1.2, i64 (checkB D).2]) := by
  by_cases hg : GoodD D
  · exact check28_ok D uo po uc pc hl1 hl2 hg
  · exact check28_x D uo po uc pc hl1 hl2 hg
end Go.Proofs.YtpfgiednfjfdmaaDoor


namespace Go.G
variable {P : Program} {W : World} {n : Nat} {D : List Deferred} {L : Tm} {M : List Res} {R : List Fact} {Q : Exit → Act → World → Prop} {o : Oper} {Z : World → Prop}
theorem r_parPZ {id : Nat} {l0 l : List Oper} (σ : List Nat) (hpm : permB σ l0 = true) (hl0 : permL σ l0 = l) (Z : World → Prop) (hZ : ∀ X F w, St W (X ++ M) (F ++ R) w → Z w) (fl : List Nat) (m : Nat) (hml : Nat.ble m l.length = true) (hns : Region.noSelect l.toArray = true) (hbk : backB l = true) (htl : tailF fl (masks l []) m l.length = true) (hfs : freesB l fl = true)
    (hm : P.follows .mixedOrders = true) (hpb : parB ((floatL fl m l).take m) ((floatL fl m l).drop m) = true) (hfr : freshB L ((floatL fl m l).take m) = true)
    (h : ParO P W n M R (floatL fl m l).toArray (fun ss => FlZ Z P n L ((floatL fl m l).take m) ss fl ∧ preOf ss = [] ∧ lateX (floatL fl m l).toArray ss = true ∧ Fin W n D (wpListZ Z P (floatL fl m l).toArray (NoP Q) ((floatL fl m l).drop m)) ((floatL fl m l).take m) ss L M R) ((floatL fl m l).take m) [] L) : Imp W n D L M R ((Code.region id l0.toArray true).wp P Q) := by
  have hml : m ≤ l.length := by simpa using hml
  intro a w h1 h2 h3
  refine Code.wp_mono (Q := NoP Q) (fun e a' w' he => ?_) ?_
  · cases e with
    | normal => exact he
    | _ => exact he.elim
  refine wp_region_any hm ?_
  have hpk := permOK_of hpm
  have hsz : l0.length = l.length := by rw [← hl0, permL_len, hpk.len]
  rw [show l0.toArray.size = l.toArray.size by simpa using hsz]
  refine perm_any hpk _ _ (Array.replicate l.toArray.size false) _ _ ⟨by simp [hpk.len, hsz], by simp [hpk.len, hsz], fun k i hk d => ?_⟩ ?_
  · have h1 : k < l.length := by rw [← hsz, ← hpk.len]; exact (List.getElem?_eq_some_iff.1 hk).1
    have h2 : i < l.length := by rw [← hsz]; exact (hpk.inv k i hk).1
    simp [h1, h2]
  rw [hl0]
  obtain ⟨ss, hl, ⟨hsi, hpre, hlx, hfin⟩, hs⟩ := ParO.out ((floatL fl m l).take m) [] L h
  rw [List.nil_append] at hsi hpre hlx hfin
  have hLB : lateB (floatL fl m l).toArray ss 0 ss = true := by simp only [lateX, Bool.and_eq_true] at hlx; exact hlx.1
  have hlk : ∀ o ∈ (floatL fl m l).take m, look L (o.dst.getD 1000000) = none := fun o ho => by
    have := List.all_eq_true.1 hfr o ho
    simpa using this
  refine (floatZ_all hZ hml hpb hl hlk (lateOK_of hLB) (fun k s c e1 e2 => (lateX_ab hlx k s c e1 e2).elim) (fun k o s e1 e2 => by
    have := hs k o s e1 e2
    rw [List.nil_append, List.length_nil, Nat.zero_add] at this
    exact this) hfin hsi hns hbk htl hfs _ _ _ _ ⟨?_, ?_, ?_, h1, h2, fun _ => undef, ?_, ?_⟩ ?_).any
  · simp [floatL_len]
  · intro j o _ hj
    rw [rep_false] at hj; cases hj
  · intro t _ ht
    have : t < l.length := by simpa [floatL_len] using ht
    simp [this]
  · intro i o s e1 _ hj
    rw [rep_false] at hj; cases hj
  · have e1 : resOf ss (Array.replicate l.toArray.size false) (fun _ => undef) ((floatL fl m l).take m).length = [] := by
      rw [← hpre, ← preOf_range, hl]
      refine flatMap_same _ _ _ fun j hj => ?_
      rw [rep_false]; rfl
    have e2 : ∀ k, fctOf ss (Array.replicate l.toArray.size false) (fun _ => undef) k = [] := by
      intro k
      unfold fctOf
      induction k with
      | zero => rfl
      | succ k ih => rw [List.range_succ, List.flatMap_append, ih, List.nil_append, List.flatMap_cons, List.flatMap_nil, List.append_nil, rep_false]; rfl
    rw [e1, e2]
    exact h3.heap rfl rfl rfl rfl
  · have := unl_tail (N := l.length) (m := 0) (listed := Array.replicate l.length false) (fun i hi => by omega)
    simpa using this
theorem float_addZ {t u : TypeId} {x y : Operand} {b c : Int} (ho : o.op = .binOp .add t x y u) (hx : ev L x = some (.int .i64 b)) (hy : ev L y = some (.int .i64 c)) (h : -9223372036854775808 ≤ b + c ∧ b + c ≤ 9223372036854775807) : ∀ a, FSat n L a → ∀ w, Z w → (execOp a.eval o).run P w = .ok (.value (.int .i64 (b + c))) w := fun a h1 w _ => float_add ho hx hy h a h1 w
theorem float_shlU {t u : TypeId} {x y : Operand} {h m : Nat} (ho : o.op = .binOp .shl t x y u) (hx : ev L x = some (.int .u64 1)) (hy : ev L y = some (.int .i64 (h : Int))) (hh : h < 62) (hm : m = 2 ^ h) : ∀ a, FSat n L a → ∀ w, Z w → (execOp a.eval o).run P w = .ok (.value (.int .u64 (m : Int))) w := fun f h1 w _ => by
    have h2 : ¬ ((h : Int) < 0) := by omega
    have h3 : min h 64 = h := by omega
    have h4 : (2 : Nat) ^ h ≤ 2 ^ 61 := Nat.pow_le_pow_right (by omega) (by omega)
    have hw : IntKind.wrap .u64 (m : Int) = (m : Int) := u64_small (by rw [hm]; omega)
    have e : (1 : Int) * 2 ^ (min (h : Int).toNat IntKind.u64.bits) = (m : Int) := by
      rw [show (h : Int).toNat = h from by simp, show IntKind.u64.bits = 64 from rfl, h3, hm]
      simp
    have hs : (Op.shift .shl .u64 1 .i64 (h : Int)).run P w = .ok (.int .u64 (m : Int)) w := by
      unfold Op.shift
      rw [if_neg h2]
      simp only [e, hw, Sem.run_pure]
    have hb : (binOp .shl t (.int .u64 1) (.int .i64 (h : Int))).run P w = .ok (.int .u64 (m : Int)) w := hs
    simp [execOp, ho, h1.ev hx, h1.ev hy, eqGuard, hb]
theorem float_orU {t u : TypeId} {x y : Operand} {a b : Nat} (ho : o.op = .binOp .or t x y u) (hx : ev L x = some (.int .u64 (a : Int))) (hy : ev L y = some (.int .u64 (b : Int))) (ha : a < 2 ^ 62) (hb : b < 2 ^ 62) : ∀ f, FSat n L f → ∀ w, Z w → (execOp f.eval o).run P w = .ok (.value (.int .u64 ((a ||| b : Nat) : Int))) w := fun f h1 w _ => by
    have hlt : a ||| b < 2 ^ 62 := Nat.or_lt_two_pow ha hb
    have hw : IntKind.wrap .u64 ((a ||| b : Nat) : Int) = ((a ||| b : Nat) : Int) := u64_small (by omega)
    have hs : (Op.intBits .or .u64 (a : Int) (b : Int)).run P w = .ok (.int .u64 ((a ||| b : Nat) : Int)) w := by
      unfold Op.intBits
      have e1 : (BitVec.ofInt IntKind.u64.bits (a : Int) ||| BitVec.ofInt IntKind.u64.bits (b : Int)).toNat = a ||| b := by
        have h64 : IntKind.u64.bits = 64 := rfl
        rw [BitVec.toNat_or]
        simp only [BitVec.ofInt_natCast, BitVec.toNat_ofNat, h64]
        rw [Nat.mod_eq_of_lt (by omega), Nat.mod_eq_of_lt (by omega)]
      simp only [e1, hw, Sem.run_pure]
    have hb2 : (binOp .or t (.int .u64 (a : Int)) (.int .u64 (b : Int))).run P w = .ok (.int .u64 ((a ||| b : Nat) : Int)) w := hs
    simp [execOp, ho, h1.ev hx, h1.ev hy, eqGuard, hb2]
theorem v_orU {t u : TypeId} {x y : Operand} {a b : Nat} (ho : o.op = .binOp .or t x y u) (hx : ev L x = some (.int .u64 (a : Int))) (hy : ev L y = some (.int .u64 (b : Int))) (ha : a < 2 ^ 62) (hb : b < 2 ^ 62) : OpQ P W n L M R o (.int .u64 ((a ||| b : Nat) : Int)) :=
  OpQ.of_value fun f w h1 _ => float_orU (Z := fun _ => True) ho hx hy ha hb f h1 w trivial
/-- A call through a function's value, of one that takes a resource. -/
theorem o_fnXV {α : Type} {M1 : List Res} {ops : Array Oper} {rest : List Oper} {k : FuncId} {args : List Value} {R0 : List Fact} {r : Res} {g : α → Value} {Pp : α → Prop} {Mr : α → Res} {Rr : α → List Fact} {f : Operand} {xs : List Operand} {ts : Array TypeId} {vs : List Value} {d : Nat} [hM : DelC M r M1] (captured : List Value)
    (h : FnS P k args [r] R0 (fun e M' R' => ∃ x, e = .returned (g x) ∧ Pp x ∧ M' = [Mr x] ∧ R' = Rr x)) (ho : o.op = .call { callee := .value f, args := xs.toArray, argTypes := ts }) (hf : ev L f = some (.func (.func k) #[] captured.toArray))
    (hx : evs L xs = some vs) (ha : vs ++ captured = args) (hg : o.guard = none) (hdst : o.dst = some d) (hd : Nat.blt d n = true) (hs : SubR R R0)
    (hret : ∀ x, Pp x → Imp W n D ((d, g x) :: L) (Mr x :: M1) (Rr x ++ R) (wpList P ops Q rest)) : Imp W n D L M R (wpList P ops Q (o :: rest)) := by
  refine o_call h ho [] captured hf hx (by simpa using ha) hg (by simp [okD, hdst, hd]) (Mf := M1) ⟨[], by simpa using hM.del.perm⟩ hs ?_ ?_ ?_
  · rintro v M' R' ⟨x, he, hp, rfl, rfl⟩
    cases he
    rw [hdst]
    exact hret x hp
  · rintro c M' R' ⟨x, he, _⟩; cases he
  · rintro M' R' ⟨x, he, _⟩; cases he
/-- What is owned and is not empty lies in a box. -/
theorem Imp.unownB {α : Type} {enc : α → List Value} {sz : Nat} {T : TypeId} {xs : List α} {M' : List Res} {X : Act → World → Prop} (v : Value) [hd : HasOwn v M T sz enc xs M'] (hne : 0 < xs.length)
    (h : ∀ (b cap : Nat) (sp : List Value), v = .slice (some ⟨b, 0, none⟩) xs.length cap → Imp W n D L (bx b T (xs.flatMap enc ++ sp) :: M') R X) : Imp W n D L M R X := by
  intro a w h1 h2 h3
  have h4 : St W (ownL v T sz enc xs :: M') R w := h3.perm hd.del.perm
  obtain ⟨s, ⟨s1, s2, rfl, hs1, hM⟩, hO, hR⟩ := h4.mem
  obtain ⟨hl, ⟨_, e, _⟩ | ⟨b, cap, C, e, _, _, hC, ht, rfl⟩⟩ := hs1
  · omega
  · refine h b cap (C.toList.drop (xs.length * sz)) e a w h1 h2 ⟨h4.os, h4.tape, h4.output, [(b, .cells C T (0, 0))] ++ s2, ⟨_, s2, rfl, ?_, hM⟩, hO, hR⟩
    show [(b, Obj.cells C T (0, 0))] = [(b, Obj.cells (xs.flatMap enc ++ C.toList.drop (xs.length * sz)).toArray T (0, 0))]
    rw [← ht, List.take_append_drop]
end Go.G


namespace Go.Proofs.YtpfgiednfjfdmaaDoor
open Go.G Debt10
set_option maxRecDepth 1000000
attribute [local irreducible] G.ParO G.Fin
theorem v_shrK {P : Program} {W : World} {n : Nat} {L : Tm} {M : List Res} {R : List Fact} {o : Oper} {t u : TypeId} {x y : Operand} {a h : Nat} (r : Nat) (ho : o.op = .binOp .shr t x y u) (hx : ev L x = some (.int .u64 (a : Int))) (hy : ev L y = some (.int .u64 (h : Int))) (ha : a < 2 ^ 62) (hh : h < 62) (hr : a >>> h = r) : OpQ P W n L M R o (.int .u64 (r : Int)) :=
  OpQ.of_value fun f w h1 _ => by
    subst hr
    have hle : a >>> h ≤ a := Nat.shiftRight_le a h
    have hw : IntKind.wrap .u64 ((a >>> h : Nat) : Int) = ((a >>> h : Nat) : Int) := u64_small (by omega)
    have h2 : ¬ ((h : Int) < 0) := by omega
    have h3 : min h 64 = h := by omega
    have hs : (Op.shift .shr .u64 (a : Int) .u64 (h : Int)).run P w = .ok (.int .u64 ((a >>> h : Nat) : Int)) w := by
      unfold Op.shift
      rw [if_neg h2]
      have e : ((a : Int).fdiv (2 ^ (min (h : Int).toNat IntKind.u64.bits))) = ((a >>> h : Nat) : Int) := by
        rw [show (h : Int).toNat = h from by simp, show IntKind.u64.bits = 64 from rfl, h3, Nat.shiftRight_eq_div_pow, Int.fdiv_eq_ediv_of_nonneg _ (by exact Int.le_of_lt (Int.pow_pos (by decide)))]
        simp
      simp only [e, hw, Sem.run_pure]
    have hb : (binOp .shr t (.int .u64 (a : Int)) (.int .u64 (h : Int))).run P w = .ok (.int .u64 ((a >>> h : Nat) : Int)) w := hs
    simp [execOp, ho, h1.ev hx, h1.ev hy, eqGuard, hb]
theorem v_andK {P : Program} {W : World} {n : Nat} {L : Tm} {M : List Res} {R : List Fact} {o : Oper} {t u : TypeId} {x y : Operand} {a b : Nat} (r : Nat) (ho : o.op = .binOp .and t x y u) (hx : ev L x = some (.int .u64 (a : Int))) (hy : ev L y = some (.int .u64 (b : Int))) (ha : a < 2 ^ 62) (hb : b < 2 ^ 64) (hr : a &&& b = r) : OpQ P W n L M R o (.int .u64 (r : Int)) :=
  OpQ.of_value fun f w h1 _ => by
    subst hr
    have hlt : a &&& b ≤ a := Nat.and_le_left
    have hw : IntKind.wrap .u64 ((a &&& b : Nat) : Int) = ((a &&& b : Nat) : Int) := u64_small (by omega)
    have hs : (Op.intBits .and .u64 (a : Int) (b : Int)).run P w = .ok (.int .u64 ((a &&& b : Nat) : Int)) w := by
      unfold Op.intBits
      have e1 : (BitVec.ofInt IntKind.u64.bits (a : Int) &&& BitVec.ofInt IntKind.u64.bits (b : Int)).toNat = a &&& b := by
        have h64 : IntKind.u64.bits = 64 := rfl
        rw [BitVec.toNat_and]
        simp only [BitVec.ofInt_natCast, BitVec.toNat_ofNat, h64]
        rw [Nat.mod_eq_of_lt (by omega), Nat.mod_eq_of_lt (by omega)]
      simp only [e1, hw, Sem.run_pure]
    have hb2 : (binOp .and t (.int .u64 (a : Int)) (.int .u64 (b : Int))).run P w = .ok (.int .u64 ((a &&& b : Nat) : Int)) w := hs
    simp [execOp, ho, h1.ev hx, h1.ev hy, eqGuard, hb2]
theorem v_addK {P : Program} {W : World} {n : Nat} {L : Tm} {M : List Res} {R : List Fact} {o : Oper} {t u : TypeId} {x y : Operand} {a b : Nat} (r : Nat) (ho : o.op = .binOp .add t x y u) (hx : ev L x = some (.int .u64 (a : Int))) (hy : ev L y = some (.int .u64 (b : Int))) (hb : a + b < 2 ^ 62) (hr : a + b = r) : OpQ P W n L M R o (.int .u64 (r : Int)) :=
  v_cast (v_addU ho hx hy (by omega)) (by rw [← hr]; simp)
/-- The steps of OnesCount64. -/
def oc1 (m : Nat) : Nat := (m >>> 1 &&& 6148914691236517205) + (m &&& 6148914691236517205)
def oc2 (m : Nat) : Nat := (oc1 m >>> 2 &&& 3689348814741910323) + (oc1 m &&& 3689348814741910323)
def oc3 (m : Nat) : Nat := (oc2 m >>> 4 + oc2 m) &&& 1085102592571150095
def oc4 (m : Nat) : Nat := oc3 m + oc3 m >>> 8
def oc5 (m : Nat) : Nat := oc4 m + oc4 m >>> 16
def oc6 (m : Nat) : Nat := oc5 m + oc5 m >>> 32
def pop (m : Nat) : Nat := oc6 m &&& 127
theorem pop_bd : ∀ m, m < 64 → oc1 m < 1000 ∧ oc2 m < 1000 ∧ oc3 m < 1000 ∧ oc4 m < 1000 ∧ oc5 m < 1000 ∧ oc6 m < 1000 := by decide +kernel
set_option maxHeartbeats 4000000 in
theorem ones64_v (m : Nat) (hm : m < 64) : FnV Tryd.prog 79 [u64 m] [] (i64 (pop m)) := by
  have hp := pop_bd m hm
  refine FnV.intro Tryd.call79 Tryd.func79 rfl Tryd.ntmps79 rfl ?_
  intro W M Rf
  refine r_seq ?_
  refine r_region ?_
  refine o_q _ rfl rfl rfl (v_assign rfl rfl) ?_
  refine o_nil ?_
  repeat (first | with_reducible refine r_then ?_ | with_reducible refine r_in_normal ?_ | with_reducible refine r_sc_normal ?_)
  refine r_seq ?_
  refine r_region ?_
  refine o_q _ rfl rfl rfl (v_move rfl rfl) ?_
  refine o_q _ rfl rfl rfl (v_shrK (m >>> 1) rfl rfl rfl (by omega) (by decide) rfl) ?_
  refine o_q _ rfl rfl rfl (v_andK (m >>> 1 &&& 6148914691236517205) rfl rfl rfl (by first | omega | exact Nat.lt_of_le_of_lt (Nat.shiftRight_le _ _) (by omega)) (by decide) rfl) ?_
  refine o_q _ rfl rfl rfl (v_move rfl rfl) ?_
  refine o_q _ rfl rfl rfl (v_andK (m &&& 6148914691236517205) rfl rfl rfl (by first | omega | exact Nat.lt_of_le_of_lt (Nat.shiftRight_le _ _) (by omega)) (by decide) rfl) ?_
  refine o_q _ rfl rfl rfl (v_addK (oc1 m) rfl rfl rfl (by first | omega | exact Nat.lt_of_le_of_lt (Nat.add_le_add (Nat.le_trans Nat.and_le_left (Nat.shiftRight_le _ _)) Nat.and_le_left) (by omega) | exact Nat.lt_of_le_of_lt (Nat.add_le_add (Nat.shiftRight_le _ _) (Nat.le_refl _)) (by omega) | exact Nat.lt_of_le_of_lt (Nat.add_le_add (Nat.le_refl _) (Nat.shiftRight_le _ _)) (by omega)) rfl) ?_
  refine o_q _ rfl rfl rfl (v_assign rfl rfl) ?_
  refine o_nil ?_
  repeat (first | with_reducible refine r_then ?_ | with_reducible refine r_in_normal ?_ | with_reducible refine r_sc_normal ?_)
  refine r_seq ?_
  refine r_region ?_
  refine o_q _ rfl rfl rfl (v_move rfl rfl) ?_
  refine o_q _ rfl rfl rfl (v_shrK (oc1 m >>> 2) rfl rfl rfl (by omega) (by decide) rfl) ?_
  refine o_q _ rfl rfl rfl (v_andK (oc1 m >>> 2 &&& 3689348814741910323) rfl rfl rfl (by first | omega | exact Nat.lt_of_le_of_lt (Nat.shiftRight_le _ _) (by omega)) (by decide) rfl) ?_
  refine o_q _ rfl rfl rfl (v_move rfl rfl) ?_
  refine o_q _ rfl rfl rfl (v_andK (oc1 m &&& 3689348814741910323) rfl rfl rfl (by first | omega | exact Nat.lt_of_le_of_lt (Nat.shiftRight_le _ _) (by omega)) (by decide) rfl) ?_
  refine o_q _ rfl rfl rfl (v_addK (oc2 m) rfl rfl rfl (by first | omega | exact Nat.lt_of_le_of_lt (Nat.add_le_add (Nat.le_trans Nat.and_le_left (Nat.shiftRight_le _ _)) Nat.and_le_left) (by omega) | exact Nat.lt_of_le_of_lt (Nat.add_le_add (Nat.shiftRight_le _ _) (Nat.le_refl _)) (by omega) | exact Nat.lt_of_le_of_lt (Nat.add_le_add (Nat.le_refl _) (Nat.shiftRight_le _ _)) (by omega)) rfl) ?_
  refine o_q _ rfl rfl rfl (v_assign rfl rfl) ?_
  refine o_nil ?_
  repeat (first | with_reducible refine r_then ?_ | with_reducible refine r_in_normal ?_ | with_reducible refine r_sc_normal ?_)
  refine r_seq ?_
  refine r_region ?_
  refine o_q _ rfl rfl rfl (v_move rfl rfl) ?_
  refine o_q _ rfl rfl rfl (v_shrK (oc2 m >>> 4) rfl rfl rfl (by omega) (by decide) rfl) ?_
  refine o_q _ rfl rfl rfl (v_move rfl rfl) ?_
  refine o_q _ rfl rfl rfl (v_addK (oc2 m >>> 4 + oc2 m) rfl rfl rfl (by first | omega | exact Nat.lt_of_le_of_lt (Nat.add_le_add (Nat.le_trans Nat.and_le_left (Nat.shiftRight_le _ _)) Nat.and_le_left) (by omega) | exact Nat.lt_of_le_of_lt (Nat.add_le_add (Nat.shiftRight_le _ _) (Nat.le_refl _)) (by omega) | exact Nat.lt_of_le_of_lt (Nat.add_le_add (Nat.le_refl _) (Nat.shiftRight_le _ _)) (by omega)) rfl) ?_
  refine o_q _ rfl rfl rfl (v_andK (oc3 m) rfl rfl rfl (by first | omega | exact Nat.lt_of_le_of_lt (Nat.add_le_add (Nat.le_trans Nat.and_le_left (Nat.shiftRight_le _ _)) Nat.and_le_left) (by omega) | exact Nat.lt_of_le_of_lt (Nat.add_le_add (Nat.shiftRight_le _ _) (Nat.le_refl _)) (by omega) | exact Nat.lt_of_le_of_lt (Nat.add_le_add (Nat.le_refl _) (Nat.shiftRight_le _ _)) (by omega)) (by decide) rfl) ?_
  refine o_q _ rfl rfl rfl (v_assign rfl rfl) ?_
  refine o_nil ?_
  repeat (first | with_reducible refine r_then ?_ | with_reducible refine r_in_normal ?_ | with_reducible refine r_sc_normal ?_)
  refine r_seq ?_
  refine r_region ?_
  refine o_q _ rfl rfl rfl (v_move rfl rfl) ?_
  refine o_q _ rfl rfl rfl (v_move rfl rfl) ?_
  refine o_q _ rfl rfl rfl (v_shrK (oc3 m >>> 8) rfl rfl rfl (by omega) (by decide) rfl) ?_
  refine o_q _ rfl rfl rfl (v_addK (oc4 m) rfl rfl rfl (by first | omega | exact Nat.lt_of_le_of_lt (Nat.add_le_add (Nat.le_trans Nat.and_le_left (Nat.shiftRight_le _ _)) Nat.and_le_left) (by omega) | exact Nat.lt_of_le_of_lt (Nat.add_le_add (Nat.shiftRight_le _ _) (Nat.le_refl _)) (by omega) | exact Nat.lt_of_le_of_lt (Nat.add_le_add (Nat.le_refl _) (Nat.shiftRight_le _ _)) (by omega)) rfl) ?_
  refine o_q _ rfl rfl rfl (v_assign rfl rfl) ?_
  refine o_nil ?_
  repeat (first | with_reducible refine r_then ?_ | with_reducible refine r_in_normal ?_ | with_reducible refine r_sc_normal ?_)
  refine r_seq ?_
  refine r_region ?_
  refine o_q _ rfl rfl rfl (v_move rfl rfl) ?_
  refine o_q _ rfl rfl rfl (v_move rfl rfl) ?_
  refine o_q _ rfl rfl rfl (v_shrK (oc4 m >>> 16) rfl rfl rfl (by omega) (by decide) rfl) ?_
  refine o_q _ rfl rfl rfl (v_addK (oc5 m) rfl rfl rfl (by first | omega | exact Nat.lt_of_le_of_lt (Nat.add_le_add (Nat.le_trans Nat.and_le_left (Nat.shiftRight_le _ _)) Nat.and_le_left) (by omega) | exact Nat.lt_of_le_of_lt (Nat.add_le_add (Nat.shiftRight_le _ _) (Nat.le_refl _)) (by omega) | exact Nat.lt_of_le_of_lt (Nat.add_le_add (Nat.le_refl _) (Nat.shiftRight_le _ _)) (by omega)) rfl) ?_
  refine o_q _ rfl rfl rfl (v_assign rfl rfl) ?_
  refine o_nil ?_
  repeat (first | with_reducible refine r_then ?_ | with_reducible refine r_in_normal ?_ | with_reducible refine r_sc_normal ?_)
  refine r_seq ?_
  refine r_region ?_
  refine o_q _ rfl rfl rfl (v_move rfl rfl) ?_
  refine o_q _ rfl rfl rfl (v_move rfl rfl) ?_
  refine o_q _ rfl rfl rfl (v_shrK (oc5 m >>> 32) rfl rfl rfl (by omega) (by decide) rfl) ?_
  refine o_q _ rfl rfl rfl (v_addK (oc6 m) rfl rfl rfl (by first | omega | exact Nat.lt_of_le_of_lt (Nat.add_le_add (Nat.le_trans Nat.and_le_left (Nat.shiftRight_le _ _)) Nat.and_le_left) (by omega) | exact Nat.lt_of_le_of_lt (Nat.add_le_add (Nat.shiftRight_le _ _) (Nat.le_refl _)) (by omega) | exact Nat.lt_of_le_of_lt (Nat.add_le_add (Nat.le_refl _) (Nat.shiftRight_le _ _)) (by omega)) rfl) ?_
  refine o_q _ rfl rfl rfl (v_assign rfl rfl) ?_
  refine o_nil ?_
  repeat (first | with_reducible refine r_then ?_ | with_reducible refine r_in_normal ?_ | with_reducible refine r_sc_normal ?_)
  refine r_seq ?_
  refine r_region ?_
  refine o_q _ rfl rfl rfl (v_move rfl rfl) ?_
  refine o_q _ rfl rfl rfl (v_conv rfl Tryd.underlying121 Tryd.underlying3 rfl (IntWalk.i64_in _ (by omega))) ?_
  refine o_q _ rfl rfl rfl (v_andn (a := oc6 m) (b := 127) rfl rfl rfl (by omega) (by decide)) ?_
  refine o_q _ rfl rfl rfl (v_assign rfl rfl) ?_
  refine o_nil ?_
  repeat (first | with_reducible refine r_then ?_ | with_reducible refine r_in_normal ?_ | with_reducible refine r_sc_normal ?_)
  refine r_ret ?_
  repeat (first | with_reducible refine r_then_ret ?_ | with_reducible refine r_in_ret ?_ | with_reducible refine r_sc_ret ?_)
  exact r_retv2 (Rd.tmp rfl rfl) rfl SelMC.sel SubRC.sub
set_option maxHeartbeats 4000000 in
theorem ones_v (m : Nat) (hm : m < 64) : FnV Tryd.prog 63 [u64 m] [] (i64 (pop m)) := by
  refine FnV.intro Tryd.call63 Tryd.func63 rfl Tryd.ntmps63 rfl ?_
  intro W M Rf
  refine r_seq ?_
  refine r_region ?_
  refine o_q _ rfl rfl rfl (v_assign rfl rfl) ?_
  refine o_nil ?_
  repeat (first | with_reducible refine r_then ?_ | with_reducible refine r_in_normal ?_ | with_reducible refine r_sc_normal ?_)
  refine r_seq ?_
  first | refine r_condd rfl (fun hcconst_false_ => ?_) (fun hcconst_false_ => ?_) | refine r_cond rfl (fun hcconst_false_ => ?_) (fun hcconst_false_ => ?_)
  ·
    first
    | (exfalso; revert hcconst_false_; decide)
    | (exfalso; omega)
    | skip
      refine r_seq ?_
      refine r_region ?_
      refine o_q _ rfl rfl rfl (v_move rfl rfl) ?_
      refine o_q _ rfl rfl rfl (v_conv rfl Tryd.underlying89 Tryd.underlying119 rfl (by first | rfl | (simp [IntKind.wrap_i64]; omega))) ?_
      refine o_q _ rfl rfl rfl (SORRY_call) ?_
      refine o_q _ rfl rfl rfl (v_assign rfl rfl) ?_
      refine o_nil ?_
      repeat (first | with_reducible refine r_then ?_ | with_reducible refine r_in_normal ?_ | with_reducible refine r_sc_normal ?_)
      refine r_ret ?_
      repeat (first | with_reducible refine r_then_ret ?_ | with_reducible refine r_in_ret ?_ | with_reducible refine r_sc_ret ?_)
      exact r_retv2 (Rd.tmp rfl rfl) rfl SelMC.sel SubRC.sub
  ·
    first
    | (exfalso; revert hcconst_false_; decide)
    | (exfalso; omega)
    | skip
      refine r_skip ?_
      repeat (first | with_reducible refine r_then ?_ | with_reducible refine r_in_normal ?_ | with_reducible refine r_sc_normal ?_)
      refine r_seq ?_
      refine r_region ?_
      refine o_q _ rfl rfl rfl (v_move rfl rfl) ?_
      refine o_q _ rfl rfl rfl (OpQ.fn (ones64_v m hm) rfl rfl SubRC.sub) ?_
      refine o_q _ rfl rfl rfl (v_assign rfl rfl) ?_
      refine o_nil ?_
      repeat (first | with_reducible refine r_then ?_ | with_reducible refine r_in_normal ?_ | with_reducible refine r_sc_normal ?_)
      refine r_ret ?_
      repeat (first | with_reducible refine r_then_ret ?_ | with_reducible refine r_in_ret ?_ | with_reducible refine r_sc_ret ?_)
      exact r_retv2 (Rd.tmp rfl rfl) rfl SelMC.sel SubRC.sub
set_option maxHeartbeats 4000000 in
theorem most2_v (a b : Nat) (ha : a < 64) (hb : b < 64) : FnV Tryd.prog 62 [u64 a, u64 b] [] (.bool (decide ((pop a : Int) > (pop b : Int)))) := by
  refine FnV.intro Tryd.call62 Tryd.func62 rfl Tryd.ntmps62 rfl ?_
  intro W M Rf
  refine r_seq ?_
  refine r_region ?_
  refine o_q _ rfl rfl rfl (v_assign rfl rfl) ?_
  refine o_nil ?_
  repeat (first | with_reducible refine r_then ?_ | with_reducible refine r_in_normal ?_ | with_reducible refine r_sc_normal ?_)
  refine r_seq ?_
  refine r_region ?_
  refine o_q _ rfl rfl rfl (v_move rfl rfl) ?_
  refine o_q _ rfl rfl rfl (OpQ.fn (ones_v a ha) rfl rfl SubRC.sub) ?_
  refine o_q _ rfl rfl rfl (v_move rfl rfl) ?_
  refine o_q _ rfl rfl rfl (OpQ.fn (ones_v b hb) rfl rfl SubRC.sub) ?_
  refine o_q _ rfl rfl rfl (v_gtr rfl rfl rfl) ?_
  refine o_q _ rfl rfl rfl (v_assign rfl rfl) ?_
  refine o_nil ?_
  repeat (first | with_reducible refine r_then ?_ | with_reducible refine r_in_normal ?_ | with_reducible refine r_sc_normal ?_)
  refine r_ret ?_
  repeat (first | with_reducible refine r_then_ret ?_ | with_reducible refine r_in_ret ?_ | with_reducible refine r_sc_ret ?_)
  first | exact r_retv2 (Rd.tmp rfl rfl) rfl SelMC.sel SubRC.sub
set_option maxHeartbeats 4000000 in
theorem isNaNU_v (a : Nat) : FnV Tryd.prog 111 [u64 a] [] (.bool false) := by
  refine FnV.intro Tryd.call111 Tryd.func111 rfl Tryd.ntmps111 rfl ?_
  intro W M Rf
  refine r_seq ?_
  refine r_region ?_
  refine o_q _ rfl rfl rfl (v_assign rfl rfl) ?_
  refine o_nil ?_
  repeat (first | with_reducible refine r_then ?_ | with_reducible refine r_in_normal ?_ | with_reducible refine r_sc_normal ?_)
  refine r_seq ?_
  refine r_region ?_
  refine o_q _ rfl rfl rfl (v_move rfl rfl) ?_
  refine o_q _ rfl rfl rfl (v_move rfl rfl) ?_
  refine o_q _ rfl rfl rfl (v_neq rfl rfl rfl) ?_
  refine o_q _ rfl rfl rfl (v_assign rfl rfl) ?_
  refine o_nil ?_
  repeat (first | with_reducible refine r_then ?_ | with_reducible refine r_in_normal ?_ | with_reducible refine r_sc_normal ?_)
  refine r_ret ?_
  repeat (first | with_reducible refine r_then_ret ?_ | with_reducible refine r_in_ret ?_ | with_reducible refine r_sc_ret ?_)
  first | exact r_retv2 (Rd.tmp rfl rfl) rfl SelMC.sel SubRC.sub | exact r_retv2 (Rd.tmp rfl rfl) (congrArg Value.bool (decide_eq_false (by omega))) SelMC.sel SubRC.sub
set_option maxHeartbeats 4000000 in
theorem lessU_v (a b : Nat) : FnV Tryd.prog 93 [u64 a, u64 b] [] (.bool (decide ((a : Int) < (b : Int)))) := by
  refine FnV.intro Tryd.call93 Tryd.func93 rfl Tryd.ntmps93 rfl ?_
  intro W M Rf
  refine r_seq ?_
  refine r_region ?_
  refine o_q _ rfl rfl rfl (v_assign rfl rfl) ?_
  refine o_nil ?_
  repeat (first | with_reducible refine r_then ?_ | with_reducible refine r_in_normal ?_ | with_reducible refine r_sc_normal ?_)
  refine r_seq ?_
  refine r_region ?_
  refine o_q _ rfl rfl rfl (v_move rfl rfl) ?_
  refine o_q _ rfl rfl rfl (OpQ.fn (isNaNU_v _) rfl rfl SubRC.sub) ?_
  refine o_q _ rfl rfl rfl (v_move rfl rfl) ?_
  first | refine o_gn rfl rfl rfl rfl ?_ | refine o_g _ rfl rfl rfl rfl (v_move rfl rfl) ?_
  first | refine o_gn rfl rfl rfl rfl ?_ | refine o_g _ rfl rfl rfl rfl (OpQ.fn (isNaNU_v _) rfl rfl SubRC.sub) ?_
  first | refine o_gn rfl rfl rfl rfl ?_ | refine o_g _ rfl rfl rfl rfl (v_not rfl rfl) ?_
  first | refine o_q _ rfl rfl rfl (v_pick_t rfl rfl rfl) ?_ | refine o_q _ rfl rfl rfl (v_pick_f rfl rfl rfl) ?_
  refine o_q _ rfl rfl rfl (v_move rfl rfl) ?_
  first | refine o_gn rfl rfl rfl rfl ?_ | refine o_g _ rfl rfl rfl rfl (v_move rfl rfl) ?_
  first | refine o_gn rfl rfl rfl rfl ?_ | refine o_g _ rfl rfl rfl rfl (v_move rfl rfl) ?_
  first | refine o_gn rfl rfl rfl rfl ?_ | refine o_g _ rfl rfl rfl rfl (v_lss rfl rfl rfl) ?_
  first | refine o_q _ rfl rfl rfl (v_pick_t rfl rfl rfl) ?_ | refine o_q _ rfl rfl rfl (v_pick_f rfl rfl rfl) ?_
  refine o_q _ rfl rfl rfl (v_assign rfl rfl) ?_
  refine o_nil ?_
  repeat (first | with_reducible refine r_then ?_ | with_reducible refine r_in_normal ?_ | with_reducible refine r_sc_normal ?_)
  refine r_ret ?_
  repeat (first | with_reducible refine r_then_ret ?_ | with_reducible refine r_in_ret ?_ | with_reducible refine r_sc_ret ?_)
  exact r_retv2 (Rd.tmp rfl rfl) rfl SelMC.sel SubRC.sub
def encU (x : Nat) : List Value := [u64 x]
theorem encU_len (x : Nat) : (encU x).length = 1 := rfl
def swapU (l : List Nat) (j : Nat) : List Nat := (l.set (j + 1) (l.getD j default)).set j (l.getD (j + 1) default)
theorem swapU_len (l : List Nat) (j : Nat) : (swapU l j).length = l.length := by simp [swapU]
/-- An entry sinks as far as a. -/
def sinkA (a : Nat) : Nat → List Nat → List Nat
  | 0, l => l
  | j + 1, l => if a < j + 1 ∧ l.getD (j + 1) default < l.getD j default then sinkA a j (swapU l j) else l
theorem sinkA_y {a j : Nat} {l : List Nat} (h : a < j + 1) (h2 : l.getD (j + 1) default < l.getD j default) : sinkA a (j + 1) l = sinkA a j (swapU l j) := if_pos ⟨h, h2⟩
theorem sinkA_n {a j : Nat} {l : List Nat} (h : ¬ (a < j ∧ l.getD j default < l.getD (j - 1) default)) : sinkA a j l = l := by
  cases j with
  | zero => rfl
  | succ j => exact if_neg h
theorem sinkA_len (a : Nat) : ∀ (j : Nat) (l : List Nat), (sinkA a j l).length = l.length
  | 0, _ => rfl
  | j + 1, l => by
    unfold sinkA
    split
    · rw [sinkA_len, swapU_len]
    · rfl
def insA (a : Nat) (l : List Nat) : Nat → List Nat
  | 0 => l
  | k + 1 => sinkA a (a + 1 + k) (insA a l k)
theorem insA_len (a : Nat) (l : List Nat) : ∀ k, (insA a l k).length = l.length
  | 0 => rfl
  | k + 1 => by unfold insA; rw [sinkA_len, insA_len a l k]
theorem boxU_get {c : List Nat} {sp : List Value} {j : Nat} (h : j < c.length) : (c.flatMap encU ++ sp)[j * 1]? = some (u64 (c.getD j default)) := by
  have h1 := flat_get (sp := sp) encU_len (xs := c) h (show 0 < 1 by decide)
  exact h1
theorem boxU_set {c : List Nat} {sp : List Value} {j x : Nat} (h : j < c.length) : splice (c.flatMap encU ++ sp) (j * 1) [u64 x] = (c.set j x).flatMap encU ++ sp := flat_set (y := x) encU_len c j 0 h (by decide) rfl
theorem boxU_ble {c : List Nat} {sp : List Value} {j : Nat} (h : j < c.length) : Nat.ble (j * 1 + 1) (c.flatMap encU ++ sp).length = true := by
  refine Nat.ble_eq_true_of_le ?_
  rw [List.length_append, flat_len encU_len]; omega
theorem float_sub {P : Program} {n : Nat} {L : Tm} {o : Oper} {t u : TypeId} {x y : Operand} {b c e : Int} (ho : o.op = .binOp .sub t x y u) (hx : ev L x = some (.int .i64 b)) (hy : ev L y = some (.int .i64 c)) (h : -9223372036854775808 ≤ b - c ∧ b - c ≤ 9223372036854775807) (he : b - c = e) : ∀ a, FSat n L a → ∀ w, (execOp a.eval o).run P w = .ok (.value (.int .i64 e)) w := fun f h1 w => by
  subst he
  have hw : IntKind.wrap .i64 (b - c) = b - c := IntWalk.i64_in _ h
  simp [execOp, ho, h1.ev hx, h1.ev hy, eqGuard, binOp, Op.intArith, hw]
set_option maxHeartbeats 4000000 in
theorem insertU_s (l : List Nat) (hl : l.length ≤ 1000) (bb cap : Nat) (sp : List Value) (a b : Nat) (hab : a ≤ b) (hb : b ≤ l.length) : FnC Tryd.prog 87 [.slice (some ⟨bb, 0, none⟩) l.length cap, i64 (a : Int), i64 (b : Int)] (bx bb 89 ((l).flatMap encU ++ sp)) [] (.tuple #[]) (bx bb 89 ((insA a l (b - a - 1)).flatMap encU ++ sp)) := by
  refine FnC.intro Tryd.call87 Tryd.func87 rfl Tryd.ntmps87 rfl ?_
  intro W M Rf
  refine r_seq ?_
  refine r_region ?_
  refine o_q _ rfl rfl rfl (v_move rfl rfl) ?_
  refine o_q _ rfl rfl rfl (v_add rfl rfl rfl (by omega)) ?_
  refine o_q _ rfl rfl rfl (v_assign rfl rfl) ?_
  refine o_nil ?_
  repeat (first | with_reducible refine r_then ?_ | with_reducible refine r_in_normal ?_ | with_reducible refine r_sc_normal ?_)
  refine r_block ?_
  refine r_loop (ι := Nat) (fun k => a + k + 1 ≤ b ∨ k = 0) (fun k => [(0, .slice (some ⟨bb, 0, none⟩) l.length cap), (1, i64 (a : Int)), (2, i64 (b : Int)), (6, i64 ((a + 1 + k : Nat) : Int))]) (fun k => bx bb 89 ((insA a l k).flatMap encU ++ sp) :: M) (fun k => Rf) (fun k => b + 1 - k) 0 ?_ ?_ ?_
  ·
    refine Imp.box_to bb ((insA a l 0).flatMap encU ++ sp) rfl ?_
    exact r_here (by repeat (first | exact FSub.nil | refine FSub.cons rfl ?_ | refine FSub.cons2 rfl (congrArg (Value.int .i64) (by omega)) ?_)) SelMC.sel SubRC.sub
  ·
    omega
  ·
    rintro k hI0
    have hkl := insA_len a l k
    refine r_seq ?_
    refine r_seq ?_
    refine r_region ?_
    refine o_q _ rfl rfl rfl (v_move rfl rfl) ?_
    refine o_q _ rfl rfl rfl (v_move rfl rfl) ?_
    refine o_q _ rfl rfl rfl (v_lss rfl rfl rfl) ?_
    refine o_nil ?_
    repeat (first | with_reducible refine r_then ?_ | with_reducible refine r_in_normal ?_ | with_reducible refine r_sc_normal ?_)
    first | refine r_condd rfl (fun hc12 => ?_) (fun hc12 => ?_) | refine r_cond rfl (fun hc12 => ?_) (fun hc12 => ?_)
    ·
      first
      | (exfalso; revert hc12; decide)
      | (exfalso; omega)
      | skip
        refine r_skip ?_
        repeat (first | with_reducible refine r_then ?_ | with_reducible refine r_in_normal ?_ | with_reducible refine r_sc_normal ?_)
        refine r_seq ?_
        refine r_block ?_
        refine r_seq ?_
        refine r_region ?_
        refine o_q _ rfl rfl rfl (v_move rfl rfl) ?_
        refine o_q _ rfl rfl rfl (v_assign rfl rfl) ?_
        refine o_nil ?_
        repeat (first | with_reducible refine r_then ?_ | with_reducible refine r_in_normal ?_ | with_reducible refine r_sc_normal ?_)
        refine r_block ?_
        refine r_loop (ι := Nat × List Nat) (fun gh => a ≤ gh.1 ∧ gh.1 ≤ a + 1 + k ∧ gh.2.length = l.length ∧ sinkA a gh.1 gh.2 = insA a l (k + 1)) (fun gh => [(0, .slice (some ⟨bb, 0, none⟩) l.length cap), (1, i64 (a : Int)), (2, i64 (b : Int)), (6, i64 ((a + 1 + k : Nat) : Int)), (7, i64 (gh.1 : Int))]) (fun gh => bx bb 89 (gh.2.flatMap encU ++ sp) :: M) (fun gh => Rf) (fun gh => gh.1) (a + 1 + k, insA a l k) ?_ ?_ ?_
        ·
          exact r_here (by repeat (first | exact FSub.nil | refine FSub.cons rfl ?_ | refine FSub.cons2 rfl (congrArg (Value.int .i64) (by omega)) ?_)) SelMC.sel SubRC.sub
        ·
          exact ⟨by omega, Nat.le_refl _, hkl, rfl⟩
        ·
          rintro ⟨j, c⟩ hI1
          dsimp only at hI1
          dsimp only
          obtain ⟨hj1, hj2, hj3, hj4⟩ := hI1
          refine r_seq ?_
          refine r_seq ?_
          refine r_region_q mixed (by kernel_rfl) ?_
          refine q_q _ rfl rfl rfl (v_move rfl rfl) ?_
          refine q_q _ rfl rfl rfl (v_move rfl rfl) ?_
          first | refine q_q _ rfl rfl rfl (v_true (v_gtr rfl rfl rfl) (by omega)) ?_ | refine q_q _ rfl rfl rfl (v_false (v_gtr rfl rfl rfl) (by omega)) ?_ | refine q_test rfl rfl rfl (v_gtr rfl rfl rfl) (fun h18 => ?_) (fun h18 => ?_)
          all_goals
            refine q_q _ rfl rfl rfl (v_move rfl rfl) ?_
            first | refine q_gn rfl rfl rfl rfl ?_ | refine q_g _ rfl rfl rfl rfl (v_move rfl rfl) ?_
            first | refine q_gn rfl rfl rfl rfl ?_ | refine q_g _ rfl rfl rfl rfl (v_move rfl rfl) ?_
            first | refine q_gn rfl rfl rfl rfl ?_ | refine q_g _ rfl rfl rfl rfl (v_indexAddrB rfl Tryd.underlying87 inf89 rfl rfl (by omega)) ?_
            first | refine q_gn rfl rfl rfl rfl ?_ | refine q_g _ rfl rfl rfl rfl (v_ld1 (v := u64 (c.getD j default)) rfl Tryd.underlying89 rfl rfl (boxU_get (by omega))) ?_
            first | refine q_gn rfl rfl rfl rfl ?_ | refine q_g _ rfl rfl rfl rfl (v_move rfl rfl) ?_
            first | refine q_gn rfl rfl rfl rfl ?_ | refine q_g _ rfl rfl rfl rfl (v_move rfl rfl) ?_
            first | refine q_gn rfl rfl rfl rfl ?_ | refine q_g _ rfl rfl rfl rfl (v_cast (v := i64 ((j - 1 : Nat) : Int)) (v_sub rfl rfl rfl (by omega)) (congrArg (Value.int .i64) (by omega))) ?_
            first | refine q_gn rfl rfl rfl rfl ?_ | refine q_g _ rfl rfl rfl rfl (v_indexAddrB rfl Tryd.underlying87 inf89 rfl rfl (by omega)) ?_
            first | refine q_gn rfl rfl rfl rfl ?_ | refine q_g _ rfl rfl rfl rfl (v_ld1 (v := u64 (c.getD (j - 1) default)) rfl Tryd.underlying89 rfl rfl (boxU_get (by omega))) ?_
            first | refine q_gn rfl rfl rfl rfl ?_ | refine q_g _ rfl rfl rfl rfl (v_true (OpQ.fn (lessU_v (c.getD j default) (c.getD (j - 1) default)) rfl rfl SubRC.sub) (by omega)) ?_ | refine q_g _ rfl rfl rfl rfl (v_false (OpQ.fn (lessU_v (c.getD j default) (c.getD (j - 1) default)) rfl rfl SubRC.sub) (by omega)) ?_ | refine q_gtest rfl rfl rfl rfl (OpQ.fn (lessU_v (c.getD j default) (c.getD (j - 1) default)) rfl rfl SubRC.sub) (fun h29 => ?_) (fun h29 => ?_)
            all_goals
              first | refine q_q _ rfl rfl rfl (v_pick_t rfl rfl rfl) ?_ | refine q_q _ rfl rfl rfl (v_pick_f rfl rfl rfl) ?_
              refine q_nil ?_
              repeat (first | with_reducible refine r_then ?_ | with_reducible refine r_in_normal ?_ | with_reducible refine r_sc_normal ?_)
              first | refine r_condd rfl (fun hc30 => ?_) (fun hc30 => ?_) | refine r_cond rfl (fun hc30 => ?_) (fun hc30 => ?_)
              ·
                first
                | (exfalso; revert hc30; decide)
                | (exfalso; omega)
                | skip
                  refine r_skip ?_
                  repeat (first | with_reducible refine r_then ?_ | with_reducible refine r_in_normal ?_ | with_reducible refine r_sc_normal ?_)
                  refine r_seq ?_
                  refine r_block ?_
                  obtain ⟨i1, rfl⟩ : ∃ i1, j = i1 + 1 := ⟨j - 1, by omega⟩
                  have hsw := swapU_len c i1
                  have hcd : c.getD (i1 + 1 - 1) default = c.getD i1 default := rfl
                  refine r_parF [2, 3, 4] 14 (by kernel_rfl) (by kernel_rfl) (by kernel_rfl) (by kernel_rfl) (by kernel_rfl) mixed (by kernel_rfl) (by rfl) ?_
                  refine p_q _ rfl rfl rfl (fun _ _ => v_move rfl rfl) ?_
                  refine p_q _ rfl rfl rfl (fun _ _ => v_move rfl rfl) ?_
                  refine p_q _ rfl rfl rfl (fun _ _ => v_move rfl rfl) ?_
                  refine p_q _ rfl rfl rfl (fun _ _ => v_move rfl rfl) ?_
                  refine p_q _ rfl rfl rfl (fun _ _ => v_cast (v := i64 ((i1 : Nat) : Int)) (v_sub rfl rfl rfl (by omega)) (congrArg (Value.int .i64) (by omega))) ?_
                  refine p_q _ rfl rfl rfl (fun _ _ => v_move rfl rfl) ?_
                  refine p_q _ rfl rfl rfl (fun _ _ => v_move rfl rfl) ?_
                  refine p_q _ rfl rfl rfl (fun _ _ => v_cast (v := i64 ((i1 : Nat) : Int)) (v_sub rfl rfl rfl (by omega)) (congrArg (Value.int .i64) (by omega))) ?_
                  refine p_q _ rfl rfl rfl (fun _ _ => v_indexAddrB rfl Tryd.underlying87 inf89 rfl rfl (by omega)) ?_
                  refine p_q _ rfl rfl rfl (fun _ _ => v_ld1 (v := u64 (c.getD i1 default)) rfl Tryd.underlying89 rfl rfl (boxU_get (by omega))) ?_
                  refine p_q _ rfl rfl rfl (fun _ _ => v_move rfl rfl) ?_
                  refine p_q _ rfl rfl rfl (fun _ _ => v_move rfl rfl) ?_
                  refine p_q _ rfl rfl rfl (fun _ _ => v_indexAddrB rfl Tryd.underlying87 inf89 rfl rfl (by omega)) ?_
                  refine p_q _ rfl rfl rfl (fun _ _ => v_ld1 (v := u64 (c.getD (i1 + 1) default)) rfl Tryd.underlying89 rfl rfl (boxU_get (by omega))) ?_
                  refine p_nilF (by simp only [List.nil_append, List.cons_append]; rfl) rfl ⟨⟨_, _, _, rfl, rfl, rfl, rfl, rfl, float_move rfl rfl⟩, ⟨_, _, _, rfl, rfl, rfl, rfl, rfl, float_move rfl rfl⟩, ⟨_, _, _, rfl, rfl, rfl, rfl, rfl, float_sub rfl rfl rfl (by omega) (show _ = ((i1 : Nat) : Int) by omega)⟩, trivial⟩ ?_
                  refine f_q rfl ?_
                  refine f_q rfl ?_
                  refine f_q rfl ?_
                  refine f_q rfl ?_
                  refine f_q rfl ?_
                  refine f_q rfl ?_
                  refine f_q rfl ?_
                  refine f_q rfl ?_
                  refine f_q rfl ?_
                  refine f_q rfl ?_
                  refine f_q rfl ?_
                  refine f_q rfl ?_
                  refine f_q rfl ?_
                  refine f_q rfl ?_
                  refine f_nil ?_
                  refine o_q _ rfl rfl rfl (v_indexAddrB rfl Tryd.underlying87 inf89 rfl rfl (by omega)) ?_
                  refine o_st rfl inf89 rfl rfl rfl rfl rfl rfl rfl (boxU_ble (by omega)) ?_
                  refine Imp.box_to bb ((c.set (i1 + 1) (c.getD i1 default)).flatMap encU ++ sp) (boxU_set (by omega)) ?_
                  refine o_q _ rfl rfl rfl (v_indexAddrB rfl Tryd.underlying87 inf89 rfl rfl (by omega)) ?_
                  refine o_st rfl inf89 rfl rfl rfl rfl rfl rfl rfl (boxU_ble (by rw [List.length_set]; omega)) ?_
                  refine o_nil ?_
                  refine r_nop ?_
                  repeat (first | with_reducible refine r_then ?_ | with_reducible refine r_in_normal ?_ | with_reducible refine r_sc_normal ?_)
                  refine Imp.box_to bb ((swapU c i1).flatMap encU ++ sp) (boxU_set (by rw [List.length_set]; omega)) ?_
                  refine r_region ?_
                  refine o_q _ rfl rfl rfl (v_move rfl rfl) ?_
                  refine o_q _ rfl rfl rfl (v_cast (v := i64 ((i1 : Nat) : Int)) (v_sub rfl rfl rfl (by omega)) (congrArg (Value.int .i64) (by omega))) ?_
                  refine o_q _ rfl rfl rfl (v_assign rfl rfl) ?_
                  refine o_nil ?_
                  repeat (first | with_reducible refine r_then ?_ | with_reducible refine r_in_normal ?_ | with_reducible refine r_sc_normal ?_)
                  first
                  | exact r_next ((i1, swapU c i1)) (by exact r_here (by repeat (first | exact FSub.nil | refine FSub.cons rfl ?_ | refine FSub.cons2 rfl (congrArg (Value.int .i64) (by omega)) ?_)) SelMC.sel SubRC.sub) (by exact ⟨by omega, by omega, by rw [hsw]; exact hj3, by rw [← sinkA_y (j := i1) (l := c) (by omega) (by omega)]; exact hj4⟩) (by show i1 < i1 + 1; omega)
              ·
                first
                | (exfalso; revert hc30; decide)
                | (exfalso; omega)
                | skip
                  refine r_exit ?_
                  repeat (first | with_reducible refine r_then_exit ?_ | with_reducible refine r_sc_exit ?_ | with_reducible refine r_in_here ?_ | (with_reducible refine r_in_past (by decide) ?_) | with_reducible refine r_then ?_ | with_reducible refine r_in_normal ?_ | with_reducible refine r_sc_normal ?_)
                  refine r_region ?_
                  refine o_q _ rfl rfl rfl (v_move rfl rfl) ?_
                  refine o_q _ rfl rfl rfl (v_add rfl rfl rfl (by omega)) ?_
                  refine o_q _ rfl rfl rfl (v_assign rfl rfl) ?_
                  refine o_nil ?_
                  repeat (first | with_reducible refine r_then ?_ | with_reducible refine r_in_normal ?_ | with_reducible refine r_sc_normal ?_)
                  refine r_next (k + 1) ?_ ?_ ?_
                  ·
                    refine Imp.box_to bb ((insA a l (k + 1)).flatMap encU ++ sp) (by rw [← hj4, sinkA_n (by omega)]) ?_
                    exact r_here (by repeat (first | exact FSub.nil | refine FSub.cons rfl ?_ | refine FSub.cons2 rfl (congrArg (Value.int .i64) (by omega)) ?_)) SelMC.sel SubRC.sub
                  ·
                    omega
                  ·
                    omega
    ·
      first
      | (exfalso; revert hc12; decide)
      | (exfalso; omega)
      | skip
        refine r_exit ?_
        repeat (first | with_reducible refine r_then_exit ?_ | with_reducible refine r_sc_exit ?_ | with_reducible refine r_in_here ?_ | (with_reducible refine r_in_past (by decide) ?_) | with_reducible refine r_then ?_ | with_reducible refine r_in_normal ?_ | with_reducible refine r_sc_normal ?_)
        refine Imp.box_to bb ((insA a l (b - a - 1)).flatMap encU ++ sp) (by rw [show b - a - 1 = k from by omega]) ?_
        exact r_ende [bx bb 89 ((insA a l (b - a - 1)).flatMap encU ++ sp)] [] (Rd.none rfl) ⟨rfl, rfl, rfl⟩ SelMC.sel SubRC.sub
theorem v_idxS {P : Program} {W : World} {n : Nat} {L : Tm} {M : List Res} {R : List Fact} {o : Oper} {T : TypeId} {x ix : Operand} {s : ByteArray} {k : Nat} {b : UInt8} {kd : IntKind} (ho : o.op = .index T x ix) (hT : P.underlying T = some .string) (hx : ev L x = some (.string s)) (hk : ev L ix = some (.int kd (k : Int))) (hv : s[k]? = some b) : OpQ P W n L M R o (.int .u8 b.toNat) :=
  OpQ.of_value fun g w h1 _ => by
    simp [execOp, ho, h1.ev hx, h1.ev hk, Instr.index, asIntOf, run_underlying hT, hv]
/-- The length of a number in bits, as far as 16. -/
def bitL (k : Nat) : Nat := [0, 1, 2, 2, 3, 3, 3, 3, 4, 4, 4, 4, 4, 4, 4, 4, 5].getD k 0
theorem bitL_lt (k : Nat) : bitL k < 256 := by
  unfold bitL
  by_cases h : k < 17
  · revert k; decide
  · rw [List.getD_eq_getElem?_getD, List.getElem?_eq_none (by simpa using Nat.le_of_not_lt h)]; decide
theorem bitL_at {s : ByteArray} (h : (List.range 17).all (fun k => s[k]? == some (UInt8.ofNat (bitL k))) = true) {k : Nat} (hk : k < 17) : s[k]? = some (UInt8.ofNat (bitL k)) := by
  have := List.all_eq_true.1 h k (List.mem_range.2 hk)
  simpa using this
theorem bitL_u8 (k : Nat) : ((UInt8.ofNat (bitL k)).toNat : Int) = (bitL k : Int) := by
  have := bitL_lt k
  simp [UInt8.toNat_ofNat']
  omega
set_option maxHeartbeats 4000000 in
theorem len64_v (k : Nat) (hk : k < 17) : FnV Tryd.prog 97 [u64 k] [] (i64 (bitL k : Nat)) := by
  refine FnV.intro Tryd.call97 Tryd.func97 rfl Tryd.ntmps97 rfl ?_
  intro W M Rf
  refine r_seq ?_
  refine r_region ?_
  refine o_q _ rfl rfl rfl (v_assign rfl rfl) ?_
  refine o_nil ?_
  repeat (first | with_reducible refine r_then ?_ | with_reducible refine r_in_normal ?_ | with_reducible refine r_sc_normal ?_)
  refine r_seq ?_
  refine r_seq ?_
  refine r_region ?_
  refine o_q _ rfl rfl rfl (v_move rfl rfl) ?_
  refine o_q _ rfl rfl rfl (v_geq rfl rfl rfl) ?_
  refine o_nil ?_
  repeat (first | with_reducible refine r_then ?_ | with_reducible refine r_in_normal ?_ | with_reducible refine r_sc_normal ?_)
  first | refine r_condd rfl (fun hc4 => ?_) (fun hc4 => ?_) | refine r_cond rfl (fun hc4 => ?_) (fun hc4 => ?_)
  ·
    first
    | (exfalso; revert hc4; decide)
    | (exfalso; omega)
    | skip
      refine r_seq ?_
      refine r_region ?_
      refine o_q _ rfl rfl rfl (v_move rfl rfl) ?_
      refine o_q _ rfl rfl rfl (SORRY_binOp) ?_
      refine o_q _ rfl rfl rfl (v_assign rfl rfl) ?_
      refine o_nil ?_
      repeat (first | with_reducible refine r_then ?_ | with_reducible refine r_in_normal ?_ | with_reducible refine r_sc_normal ?_)
      refine r_region ?_
      refine o_q _ rfl rfl rfl (v_assign rfl rfl) ?_
      refine o_nil ?_
      repeat (first | with_reducible refine r_then ?_ | with_reducible refine r_in_normal ?_ | with_reducible refine r_sc_normal ?_)
      refine r_seq ?_
      refine r_seq ?_
      refine r_region ?_
      refine o_q _ rfl rfl rfl (v_move rfl rfl) ?_
      refine o_q _ rfl rfl rfl (v_geq rfl rfl rfl) ?_
      refine o_nil ?_
      repeat (first | with_reducible refine r_then ?_ | with_reducible refine r_in_normal ?_ | with_reducible refine r_sc_normal ?_)
      first | refine r_condd rfl (fun hc8 => ?_) (fun hc8 => ?_) | refine r_cond rfl (fun hc8 => ?_) (fun hc8 => ?_)
      ·
        first
        | (exfalso; revert hc8; decide)
        | (exfalso; omega)
        | skip
          refine r_seq ?_
          refine r_region ?_
          refine o_q _ rfl rfl rfl (v_move rfl rfl) ?_
          refine o_q _ rfl rfl rfl (SORRY_binOp) ?_
          refine o_q _ rfl rfl rfl (v_assign rfl rfl) ?_
          refine o_nil ?_
          repeat (first | with_reducible refine r_then ?_ | with_reducible refine r_in_normal ?_ | with_reducible refine r_sc_normal ?_)
          refine r_region ?_
          refine o_q _ rfl rfl rfl (v_move rfl rfl) ?_
          refine o_q _ rfl rfl rfl (v_add rfl rfl rfl (by omega)) ?_
          refine o_q _ rfl rfl rfl (v_assign rfl rfl) ?_
          refine o_nil ?_
          repeat (first | with_reducible refine r_then ?_ | with_reducible refine r_in_normal ?_ | with_reducible refine r_sc_normal ?_)
          refine r_seq ?_
          refine r_seq ?_
          refine r_region ?_
          refine o_q _ rfl rfl rfl (v_move rfl rfl) ?_
          refine o_q _ rfl rfl rfl (v_geq rfl rfl rfl) ?_
          refine o_nil ?_
          repeat (first | with_reducible refine r_then ?_ | with_reducible refine r_in_normal ?_ | with_reducible refine r_sc_normal ?_)
          first | refine r_condd rfl (fun hc14 => ?_) (fun hc14 => ?_) | refine r_cond rfl (fun hc14 => ?_) (fun hc14 => ?_)
          ·
            first
            | (exfalso; revert hc14; decide)
            | (exfalso; omega)
            | skip
              refine r_seq ?_
              refine r_region ?_
              refine o_q _ rfl rfl rfl (v_move rfl rfl) ?_
              refine o_q _ rfl rfl rfl (SORRY_binOp) ?_
              refine o_q _ rfl rfl rfl (v_assign rfl rfl) ?_
              refine o_nil ?_
              repeat (first | with_reducible refine r_then ?_ | with_reducible refine r_in_normal ?_ | with_reducible refine r_sc_normal ?_)
              refine r_region ?_
              refine o_q _ rfl rfl rfl (v_move rfl rfl) ?_
              refine o_q _ rfl rfl rfl (v_add rfl rfl rfl (by omega)) ?_
              refine o_q _ rfl rfl rfl (v_assign rfl rfl) ?_
              refine o_nil ?_
              repeat (first | with_reducible refine r_then ?_ | with_reducible refine r_in_normal ?_ | with_reducible refine r_sc_normal ?_)
              refine r_seq ?_
              refine r_region ?_
              refine o_q _ rfl rfl rfl (v_move rfl rfl) ?_
              refine o_q _ rfl rfl rfl (v_move rfl rfl) ?_
              refine o_q _ rfl rfl rfl (v_conv rfl Tryd.underlying121 Tryd.underlying5 rfl (IntWalk.u8_in _ (by omega))) ?_
              refine o_q _ rfl rfl rfl (v_cast (v := .int .u8 (bitL k : Nat)) (v_idxS (kd := .u8) rfl Tryd.underlying9 rfl rfl (bitL_at (by decide +kernel) hk)) (congrArg (Value.int .u8) (bitL_u8 k))) ?_
              refine o_q _ rfl rfl rfl (v_conv rfl Tryd.underlying5 Tryd.underlying3 rfl (IntWalk.i64_in _ (by have := bitL_lt k; omega))) ?_
              refine o_q _ rfl rfl rfl (v_cast (v := i64 (bitL k : Nat)) (v_add rfl rfl rfl (by have := bitL_lt k; omega)) (congrArg (Value.int .i64) (by omega))) ?_
              refine o_q _ rfl rfl rfl (v_assign rfl rfl) ?_
              refine o_nil ?_
              repeat (first | with_reducible refine r_then ?_ | with_reducible refine r_in_normal ?_ | with_reducible refine r_sc_normal ?_)
              refine r_ret ?_
              repeat (first | with_reducible refine r_then_ret ?_ | with_reducible refine r_in_ret ?_ | with_reducible refine r_sc_ret ?_)
              exact r_retv2 (Rd.tmp rfl rfl) rfl SelMC.sel SubRC.sub
          ·
            first
            | (exfalso; revert hc14; decide)
            | (exfalso; omega)
            | skip
              refine r_skip ?_
              repeat (first | with_reducible refine r_then ?_ | with_reducible refine r_in_normal ?_ | with_reducible refine r_sc_normal ?_)
              refine r_seq ?_
              refine r_region ?_
              refine o_q _ rfl rfl rfl (v_move rfl rfl) ?_
              refine o_q _ rfl rfl rfl (v_move rfl rfl) ?_
              refine o_q _ rfl rfl rfl (v_conv rfl Tryd.underlying121 Tryd.underlying5 rfl (IntWalk.u8_in _ (by omega))) ?_
              refine o_q _ rfl rfl rfl (v_cast (v := .int .u8 (bitL k : Nat)) (v_idxS (kd := .u8) rfl Tryd.underlying9 rfl rfl (bitL_at (by decide +kernel) hk)) (congrArg (Value.int .u8) (bitL_u8 k))) ?_
              refine o_q _ rfl rfl rfl (v_conv rfl Tryd.underlying5 Tryd.underlying3 rfl (IntWalk.i64_in _ (by have := bitL_lt k; omega))) ?_
              refine o_q _ rfl rfl rfl (v_cast (v := i64 (bitL k : Nat)) (v_add rfl rfl rfl (by have := bitL_lt k; omega)) (congrArg (Value.int .i64) (by omega))) ?_
              refine o_q _ rfl rfl rfl (v_assign rfl rfl) ?_
              refine o_nil ?_
              repeat (first | with_reducible refine r_then ?_ | with_reducible refine r_in_normal ?_ | with_reducible refine r_sc_normal ?_)
              refine r_ret ?_
              repeat (first | with_reducible refine r_then_ret ?_ | with_reducible refine r_in_ret ?_ | with_reducible refine r_sc_ret ?_)
              exact r_retv2 (Rd.tmp rfl rfl) rfl SelMC.sel SubRC.sub
      ·
        first
        | (exfalso; revert hc8; decide)
        | (exfalso; omega)
        | skip
          refine r_skip ?_
          repeat (first | with_reducible refine r_then ?_ | with_reducible refine r_in_normal ?_ | with_reducible refine r_sc_normal ?_)
          refine r_seq ?_
          refine r_seq ?_
          refine r_region ?_
          refine o_q _ rfl rfl rfl (v_move rfl rfl) ?_
          refine o_q _ rfl rfl rfl (v_geq rfl rfl rfl) ?_
          refine o_nil ?_
          repeat (first | with_reducible refine r_then ?_ | with_reducible refine r_in_normal ?_ | with_reducible refine r_sc_normal ?_)
          first | refine r_condd rfl (fun hc14 => ?_) (fun hc14 => ?_) | refine r_cond rfl (fun hc14 => ?_) (fun hc14 => ?_)
          ·
            first
            | (exfalso; revert hc14; decide)
            | (exfalso; omega)
            | skip
              refine r_seq ?_
              refine r_region ?_
              refine o_q _ rfl rfl rfl (v_move rfl rfl) ?_
              refine o_q _ rfl rfl rfl (SORRY_binOp) ?_
              refine o_q _ rfl rfl rfl (v_assign rfl rfl) ?_
              refine o_nil ?_
              repeat (first | with_reducible refine r_then ?_ | with_reducible refine r_in_normal ?_ | with_reducible refine r_sc_normal ?_)
              refine r_region ?_
              refine o_q _ rfl rfl rfl (v_move rfl rfl) ?_
              refine o_q _ rfl rfl rfl (v_add rfl rfl rfl (by omega)) ?_
              refine o_q _ rfl rfl rfl (v_assign rfl rfl) ?_
              refine o_nil ?_
              repeat (first | with_reducible refine r_then ?_ | with_reducible refine r_in_normal ?_ | with_reducible refine r_sc_normal ?_)
              refine r_seq ?_
              refine r_region ?_
              refine o_q _ rfl rfl rfl (v_move rfl rfl) ?_
              refine o_q _ rfl rfl rfl (v_move rfl rfl) ?_
              refine o_q _ rfl rfl rfl (v_conv rfl Tryd.underlying121 Tryd.underlying5 rfl (IntWalk.u8_in _ (by omega))) ?_
              refine o_q _ rfl rfl rfl (v_cast (v := .int .u8 (bitL k : Nat)) (v_idxS (kd := .u8) rfl Tryd.underlying9 rfl rfl (bitL_at (by decide +kernel) hk)) (congrArg (Value.int .u8) (bitL_u8 k))) ?_
              refine o_q _ rfl rfl rfl (v_conv rfl Tryd.underlying5 Tryd.underlying3 rfl (IntWalk.i64_in _ (by have := bitL_lt k; omega))) ?_
              refine o_q _ rfl rfl rfl (v_cast (v := i64 (bitL k : Nat)) (v_add rfl rfl rfl (by have := bitL_lt k; omega)) (congrArg (Value.int .i64) (by omega))) ?_
              refine o_q _ rfl rfl rfl (v_assign rfl rfl) ?_
              refine o_nil ?_
              repeat (first | with_reducible refine r_then ?_ | with_reducible refine r_in_normal ?_ | with_reducible refine r_sc_normal ?_)
              refine r_ret ?_
              repeat (first | with_reducible refine r_then_ret ?_ | with_reducible refine r_in_ret ?_ | with_reducible refine r_sc_ret ?_)
              exact r_retv2 (Rd.tmp rfl rfl) rfl SelMC.sel SubRC.sub
          ·
            first
            | (exfalso; revert hc14; decide)
            | (exfalso; omega)
            | skip
              refine r_skip ?_
              repeat (first | with_reducible refine r_then ?_ | with_reducible refine r_in_normal ?_ | with_reducible refine r_sc_normal ?_)
              refine r_seq ?_
              refine r_region ?_
              refine o_q _ rfl rfl rfl (v_move rfl rfl) ?_
              refine o_q _ rfl rfl rfl (v_move rfl rfl) ?_
              refine o_q _ rfl rfl rfl (v_conv rfl Tryd.underlying121 Tryd.underlying5 rfl (IntWalk.u8_in _ (by omega))) ?_
              refine o_q _ rfl rfl rfl (v_cast (v := .int .u8 (bitL k : Nat)) (v_idxS (kd := .u8) rfl Tryd.underlying9 rfl rfl (bitL_at (by decide +kernel) hk)) (congrArg (Value.int .u8) (bitL_u8 k))) ?_
              refine o_q _ rfl rfl rfl (v_conv rfl Tryd.underlying5 Tryd.underlying3 rfl (IntWalk.i64_in _ (by have := bitL_lt k; omega))) ?_
              refine o_q _ rfl rfl rfl (v_cast (v := i64 (bitL k : Nat)) (v_add rfl rfl rfl (by have := bitL_lt k; omega)) (congrArg (Value.int .i64) (by omega))) ?_
              refine o_q _ rfl rfl rfl (v_assign rfl rfl) ?_
              refine o_nil ?_
              repeat (first | with_reducible refine r_then ?_ | with_reducible refine r_in_normal ?_ | with_reducible refine r_sc_normal ?_)
              refine r_ret ?_
              repeat (first | with_reducible refine r_then_ret ?_ | with_reducible refine r_in_ret ?_ | with_reducible refine r_sc_ret ?_)
              exact r_retv2 (Rd.tmp rfl rfl) rfl SelMC.sel SubRC.sub
  ·
    first
    | (exfalso; revert hc4; decide)
    | (exfalso; omega)
    | skip
      refine r_skip ?_
      repeat (first | with_reducible refine r_then ?_ | with_reducible refine r_in_normal ?_ | with_reducible refine r_sc_normal ?_)
      refine r_seq ?_
      refine r_seq ?_
      refine r_region ?_
      refine o_q _ rfl rfl rfl (v_move rfl rfl) ?_
      refine o_q _ rfl rfl rfl (v_geq rfl rfl rfl) ?_
      refine o_nil ?_
      repeat (first | with_reducible refine r_then ?_ | with_reducible refine r_in_normal ?_ | with_reducible refine r_sc_normal ?_)
      first | refine r_condd rfl (fun hc8 => ?_) (fun hc8 => ?_) | refine r_cond rfl (fun hc8 => ?_) (fun hc8 => ?_)
      ·
        first
        | (exfalso; revert hc8; decide)
        | (exfalso; omega)
        | skip
          refine r_seq ?_
          refine r_region ?_
          refine o_q _ rfl rfl rfl (v_move rfl rfl) ?_
          refine o_q _ rfl rfl rfl (SORRY_binOp) ?_
          refine o_q _ rfl rfl rfl (v_assign rfl rfl) ?_
          refine o_nil ?_
          repeat (first | with_reducible refine r_then ?_ | with_reducible refine r_in_normal ?_ | with_reducible refine r_sc_normal ?_)
          refine r_region ?_
          refine o_q _ rfl rfl rfl (v_move rfl rfl) ?_
          refine o_q _ rfl rfl rfl (v_add rfl rfl rfl (by omega)) ?_
          refine o_q _ rfl rfl rfl (v_assign rfl rfl) ?_
          refine o_nil ?_
          repeat (first | with_reducible refine r_then ?_ | with_reducible refine r_in_normal ?_ | with_reducible refine r_sc_normal ?_)
          refine r_seq ?_
          refine r_seq ?_
          refine r_region ?_
          refine o_q _ rfl rfl rfl (v_move rfl rfl) ?_
          refine o_q _ rfl rfl rfl (v_geq rfl rfl rfl) ?_
          refine o_nil ?_
          repeat (first | with_reducible refine r_then ?_ | with_reducible refine r_in_normal ?_ | with_reducible refine r_sc_normal ?_)
          first | refine r_condd rfl (fun hc14 => ?_) (fun hc14 => ?_) | refine r_cond rfl (fun hc14 => ?_) (fun hc14 => ?_)
          ·
            first
            | (exfalso; revert hc14; decide)
            | (exfalso; omega)
            | skip
              refine r_seq ?_
              refine r_region ?_
              refine o_q _ rfl rfl rfl (v_move rfl rfl) ?_
              refine o_q _ rfl rfl rfl (SORRY_binOp) ?_
              refine o_q _ rfl rfl rfl (v_assign rfl rfl) ?_
              refine o_nil ?_
              repeat (first | with_reducible refine r_then ?_ | with_reducible refine r_in_normal ?_ | with_reducible refine r_sc_normal ?_)
              refine r_region ?_
              refine o_q _ rfl rfl rfl (v_move rfl rfl) ?_
              refine o_q _ rfl rfl rfl (v_add rfl rfl rfl (by omega)) ?_
              refine o_q _ rfl rfl rfl (v_assign rfl rfl) ?_
              refine o_nil ?_
              repeat (first | with_reducible refine r_then ?_ | with_reducible refine r_in_normal ?_ | with_reducible refine r_sc_normal ?_)
              refine r_seq ?_
              refine r_region ?_
              refine o_q _ rfl rfl rfl (v_move rfl rfl) ?_
              refine o_q _ rfl rfl rfl (v_move rfl rfl) ?_
              refine o_q _ rfl rfl rfl (v_conv rfl Tryd.underlying121 Tryd.underlying5 rfl (IntWalk.u8_in _ (by omega))) ?_
              refine o_q _ rfl rfl rfl (v_cast (v := .int .u8 (bitL k : Nat)) (v_idxS (kd := .u8) rfl Tryd.underlying9 rfl rfl (bitL_at (by decide +kernel) hk)) (congrArg (Value.int .u8) (bitL_u8 k))) ?_
              refine o_q _ rfl rfl rfl (v_conv rfl Tryd.underlying5 Tryd.underlying3 rfl (IntWalk.i64_in _ (by have := bitL_lt k; omega))) ?_
              refine o_q _ rfl rfl rfl (v_cast (v := i64 (bitL k : Nat)) (v_add rfl rfl rfl (by have := bitL_lt k; omega)) (congrArg (Value.int .i64) (by omega))) ?_
              refine o_q _ rfl rfl rfl (v_assign rfl rfl) ?_
              refine o_nil ?_
              repeat (first | with_reducible refine r_then ?_ | with_reducible refine r_in_normal ?_ | with_reducible refine r_sc_normal ?_)
              refine r_ret ?_
              repeat (first | with_reducible refine r_then_ret ?_ | with_reducible refine r_in_ret ?_ | with_reducible refine r_sc_ret ?_)
              exact r_retv2 (Rd.tmp rfl rfl) rfl SelMC.sel SubRC.sub
          ·
            first
            | (exfalso; revert hc14; decide)
            | (exfalso; omega)
            | skip
              refine r_skip ?_
              repeat (first | with_reducible refine r_then ?_ | with_reducible refine r_in_normal ?_ | with_reducible refine r_sc_normal ?_)
              refine r_seq ?_
              refine r_region ?_
              refine o_q _ rfl rfl rfl (v_move rfl rfl) ?_
              refine o_q _ rfl rfl rfl (v_move rfl rfl) ?_
              refine o_q _ rfl rfl rfl (v_conv rfl Tryd.underlying121 Tryd.underlying5 rfl (IntWalk.u8_in _ (by omega))) ?_
              refine o_q _ rfl rfl rfl (v_cast (v := .int .u8 (bitL k : Nat)) (v_idxS (kd := .u8) rfl Tryd.underlying9 rfl rfl (bitL_at (by decide +kernel) hk)) (congrArg (Value.int .u8) (bitL_u8 k))) ?_
              refine o_q _ rfl rfl rfl (v_conv rfl Tryd.underlying5 Tryd.underlying3 rfl (IntWalk.i64_in _ (by have := bitL_lt k; omega))) ?_
              refine o_q _ rfl rfl rfl (v_cast (v := i64 (bitL k : Nat)) (v_add rfl rfl rfl (by have := bitL_lt k; omega)) (congrArg (Value.int .i64) (by omega))) ?_
              refine o_q _ rfl rfl rfl (v_assign rfl rfl) ?_
              refine o_nil ?_
              repeat (first | with_reducible refine r_then ?_ | with_reducible refine r_in_normal ?_ | with_reducible refine r_sc_normal ?_)
              refine r_ret ?_
              repeat (first | with_reducible refine r_then_ret ?_ | with_reducible refine r_in_ret ?_ | with_reducible refine r_sc_ret ?_)
              exact r_retv2 (Rd.tmp rfl rfl) rfl SelMC.sel SubRC.sub
      ·
        first
        | (exfalso; revert hc8; decide)
        | (exfalso; omega)
        | skip
          refine r_skip ?_
          repeat (first | with_reducible refine r_then ?_ | with_reducible refine r_in_normal ?_ | with_reducible refine r_sc_normal ?_)
          refine r_seq ?_
          refine r_seq ?_
          refine r_region ?_
          refine o_q _ rfl rfl rfl (v_move rfl rfl) ?_
          refine o_q _ rfl rfl rfl (v_geq rfl rfl rfl) ?_
          refine o_nil ?_
          repeat (first | with_reducible refine r_then ?_ | with_reducible refine r_in_normal ?_ | with_reducible refine r_sc_normal ?_)
          first | refine r_condd rfl (fun hc14 => ?_) (fun hc14 => ?_) | refine r_cond rfl (fun hc14 => ?_) (fun hc14 => ?_)
          ·
            first
            | (exfalso; revert hc14; decide)
            | (exfalso; omega)
            | skip
              refine r_seq ?_
              refine r_region ?_
              refine o_q _ rfl rfl rfl (v_move rfl rfl) ?_
              refine o_q _ rfl rfl rfl (SORRY_binOp) ?_
              refine o_q _ rfl rfl rfl (v_assign rfl rfl) ?_
              refine o_nil ?_
              repeat (first | with_reducible refine r_then ?_ | with_reducible refine r_in_normal ?_ | with_reducible refine r_sc_normal ?_)
              refine r_region ?_
              refine o_q _ rfl rfl rfl (v_move rfl rfl) ?_
              refine o_q _ rfl rfl rfl (v_add rfl rfl rfl (by omega)) ?_
              refine o_q _ rfl rfl rfl (v_assign rfl rfl) ?_
              refine o_nil ?_
              repeat (first | with_reducible refine r_then ?_ | with_reducible refine r_in_normal ?_ | with_reducible refine r_sc_normal ?_)
              refine r_seq ?_
              refine r_region ?_
              refine o_q _ rfl rfl rfl (v_move rfl rfl) ?_
              refine o_q _ rfl rfl rfl (v_move rfl rfl) ?_
              refine o_q _ rfl rfl rfl (v_conv rfl Tryd.underlying121 Tryd.underlying5 rfl (IntWalk.u8_in _ (by omega))) ?_
              refine o_q _ rfl rfl rfl (v_cast (v := .int .u8 (bitL k : Nat)) (v_idxS (kd := .u8) rfl Tryd.underlying9 rfl rfl (bitL_at (by decide +kernel) hk)) (congrArg (Value.int .u8) (bitL_u8 k))) ?_
              refine o_q _ rfl rfl rfl (v_conv rfl Tryd.underlying5 Tryd.underlying3 rfl (IntWalk.i64_in _ (by have := bitL_lt k; omega))) ?_
              refine o_q _ rfl rfl rfl (v_cast (v := i64 (bitL k : Nat)) (v_add rfl rfl rfl (by have := bitL_lt k; omega)) (congrArg (Value.int .i64) (by omega))) ?_
              refine o_q _ rfl rfl rfl (v_assign rfl rfl) ?_
              refine o_nil ?_
              repeat (first | with_reducible refine r_then ?_ | with_reducible refine r_in_normal ?_ | with_reducible refine r_sc_normal ?_)
              refine r_ret ?_
              repeat (first | with_reducible refine r_then_ret ?_ | with_reducible refine r_in_ret ?_ | with_reducible refine r_sc_ret ?_)
              exact r_retv2 (Rd.tmp rfl rfl) rfl SelMC.sel SubRC.sub
          ·
            first
            | (exfalso; revert hc14; decide)
            | (exfalso; omega)
            | skip
              refine r_skip ?_
              repeat (first | with_reducible refine r_then ?_ | with_reducible refine r_in_normal ?_ | with_reducible refine r_sc_normal ?_)
              refine r_seq ?_
              refine r_region ?_
              refine o_q _ rfl rfl rfl (v_move rfl rfl) ?_
              refine o_q _ rfl rfl rfl (v_move rfl rfl) ?_
              refine o_q _ rfl rfl rfl (v_conv rfl Tryd.underlying121 Tryd.underlying5 rfl (IntWalk.u8_in _ (by omega))) ?_
              refine o_q _ rfl rfl rfl (v_cast (v := .int .u8 (bitL k : Nat)) (v_idxS (kd := .u8) rfl Tryd.underlying9 rfl rfl (bitL_at (by decide +kernel) hk)) (congrArg (Value.int .u8) (bitL_u8 k))) ?_
              refine o_q _ rfl rfl rfl (v_conv rfl Tryd.underlying5 Tryd.underlying3 rfl (IntWalk.i64_in _ (by have := bitL_lt k; omega))) ?_
              refine o_q _ rfl rfl rfl (v_cast (v := i64 (bitL k : Nat)) (v_add rfl rfl rfl (by have := bitL_lt k; omega)) (congrArg (Value.int .i64) (by omega))) ?_
              refine o_q _ rfl rfl rfl (v_assign rfl rfl) ?_
              refine o_nil ?_
              repeat (first | with_reducible refine r_then ?_ | with_reducible refine r_in_normal ?_ | with_reducible refine r_sc_normal ?_)
              refine r_ret ?_
              repeat (first | with_reducible refine r_then_ret ?_ | with_reducible refine r_in_ret ?_ | with_reducible refine r_sc_ret ?_)
              exact r_retv2 (Rd.tmp rfl rfl) rfl SelMC.sel SubRC.sub
set_option maxHeartbeats 4000000 in
theorem len_v (k : Nat) (hk : k < 17) : FnV Tryd.prog 77 [u64 k] [] (i64 (bitL k : Nat)) := by
  refine FnV.intro Tryd.call77 Tryd.func77 rfl Tryd.ntmps77 rfl ?_
  intro W M Rf
  refine r_seq ?_
  refine r_region ?_
  refine o_q _ rfl rfl rfl (v_assign rfl rfl) ?_
  refine o_nil ?_
  repeat (first | with_reducible refine r_then ?_ | with_reducible refine r_in_normal ?_ | with_reducible refine r_sc_normal ?_)
  refine r_seq ?_
  first | refine r_condd rfl (fun hcconst_false_ => ?_) (fun hcconst_false_ => ?_) | refine r_cond rfl (fun hcconst_false_ => ?_) (fun hcconst_false_ => ?_)
  ·
    first
    | (exfalso; revert hcconst_false_; decide)
    | (exfalso; omega)
    | skip
      refine r_seq ?_
      refine r_region ?_
      refine o_q _ rfl rfl rfl (v_move rfl rfl) ?_
      refine o_q _ rfl rfl rfl (v_conv rfl Tryd.underlying89 Tryd.underlying119 rfl (by first | rfl | (simp [IntKind.wrap_i64]; omega))) ?_
      refine o_q _ rfl rfl rfl (SORRY_call) ?_
      refine o_q _ rfl rfl rfl (v_assign rfl rfl) ?_
      refine o_nil ?_
      repeat (first | with_reducible refine r_then ?_ | with_reducible refine r_in_normal ?_ | with_reducible refine r_sc_normal ?_)
      refine r_ret ?_
      repeat (first | with_reducible refine r_then_ret ?_ | with_reducible refine r_in_ret ?_ | with_reducible refine r_sc_ret ?_)
      exact r_retv2 (Rd.tmp rfl rfl) rfl SelMC.sel SubRC.sub
  ·
    first
    | (exfalso; revert hcconst_false_; decide)
    | (exfalso; omega)
    | skip
      refine r_skip ?_
      repeat (first | with_reducible refine r_then ?_ | with_reducible refine r_in_normal ?_ | with_reducible refine r_sc_normal ?_)
      refine r_seq ?_
      refine r_region ?_
      refine o_q _ rfl rfl rfl (v_move rfl rfl) ?_
      refine o_q _ rfl rfl rfl (OpQ.fn (len64_v k hk) rfl rfl SubRC.sub) ?_
      refine o_q _ rfl rfl rfl (v_assign rfl rfl) ?_
      refine o_nil ?_
      repeat (first | with_reducible refine r_then ?_ | with_reducible refine r_in_normal ?_ | with_reducible refine r_sc_normal ?_)
      refine r_ret ?_
      repeat (first | with_reducible refine r_then_ret ?_ | with_reducible refine r_in_ret ?_ | with_reducible refine r_sc_ret ?_)
      exact r_retv2 (Rd.tmp rfl rfl) rfl SelMC.sel SubRC.sub
set_option maxHeartbeats 4000000 in
theorem pdq_ins (l : List Nat) (hl : l.length ≤ 1000) (bb cap : Nat) (sp : List Value) (a b : Nat) (m : Int) (hab : a ≤ b) (hb : b ≤ l.length) (hs : b - a ≤ 12) : FnC Tryd.prog 76 [.slice (some ⟨bb, 0, none⟩) l.length cap, i64 (a : Int), i64 (b : Int), i64 m] (bx bb 89 ((l).flatMap encU ++ sp)) [] (.tuple #[]) (bx bb 89 ((insA a l (b - a - 1)).flatMap encU ++ sp)) := by
  refine FnC.intro Tryd.call76 Tryd.func76 rfl Tryd.ntmps76 rfl ?_
  intro W M Rf
  refine r_seq ?_
  refine r_region ?_
  refine o_q _ rfl rfl rfl (v_assign rfl rfl) ?_
  refine o_nil ?_
  repeat (first | with_reducible refine r_then ?_ | with_reducible refine r_in_normal ?_ | with_reducible refine r_sc_normal ?_)
  refine r_seq ?_
  refine r_region ?_
  refine o_q _ rfl rfl rfl (v_assign rfl rfl) ?_
  refine o_nil ?_
  repeat (first | with_reducible refine r_then ?_ | with_reducible refine r_in_normal ?_ | with_reducible refine r_sc_normal ?_)
  refine r_block ?_
  refine r_loop (ι := Unit) (fun uu => True) (fun uu => [(0, .slice (some ⟨bb, 0, none⟩) l.length cap), (1, i64 (a : Int)), (2, i64 (b : Int)), (3, i64 m), (8, .bool true), (9, .bool true)]) (fun uu => bx bb 89 ((l).flatMap encU ++ sp) :: M) (fun uu => Rf) (fun uu => 0) () ?_ ?_ ?_
  ·
    exact r_here (by repeat (first | exact FSub.nil | refine FSub.cons rfl ?_)) SelMC.sel SubRC.sub
  ·
    trivial
  ·
    rintro uu hI0
    refine r_block ?_
    refine r_seq ?_
    refine r_region ?_
    refine o_q _ rfl rfl rfl (v_move rfl rfl) ?_
    refine o_q _ rfl rfl rfl (v_move rfl rfl) ?_
    refine o_q _ rfl rfl rfl (v_sub rfl rfl rfl (by omega)) ?_
    refine o_q _ rfl rfl rfl (v_assign rfl rfl) ?_
    refine o_nil ?_
    repeat (first | with_reducible refine r_then ?_ | with_reducible refine r_in_normal ?_ | with_reducible refine r_sc_normal ?_)
    refine r_seq ?_
    refine r_seq ?_
    refine r_region ?_
    refine o_q _ rfl rfl rfl (v_move rfl rfl) ?_
    refine o_q _ rfl rfl rfl (v_leq rfl rfl rfl) ?_
    refine o_nil ?_
    repeat (first | with_reducible refine r_then ?_ | with_reducible refine r_in_normal ?_ | with_reducible refine r_sc_normal ?_)
    first | refine r_condd rfl (fun hc23 => ?_) (fun hc23 => ?_) | refine r_cond rfl (fun hc23 => ?_) (fun hc23 => ?_)
    ·
      first
      | (exfalso; revert hc23; decide)
      | (exfalso; omega)
      | skip
        refine r_seq ?_
        refine r_region ?_
        refine o_q _ rfl rfl rfl (v_move rfl rfl) ?_
        refine o_q _ rfl rfl rfl (v_move rfl rfl) ?_
        refine o_q _ rfl rfl rfl (v_move rfl rfl) ?_
        refine o_fnc (insertU_s l hl bb cap sp a b hab hb) rfl [] [] rfl rfl rfl rfl rfl rfl SubRC.sub ?_
        refine o_nil ?_
        repeat (first | with_reducible refine r_then ?_ | with_reducible refine r_in_normal ?_ | with_reducible refine r_sc_normal ?_)
        refine r_ret ?_
        repeat (first | with_reducible refine r_then_ret ?_ | with_reducible refine r_in_ret ?_ | with_reducible refine r_sc_ret ?_)
        exact r_rete [bx bb 89 ((insA a l (b - a - 1)).flatMap encU ++ sp)] [] (Rd.none rfl) ⟨rfl, rfl, rfl⟩ SelMC.sel SubRC.sub
    ·
      first
      | (exfalso; revert hc23; decide)
      | (exfalso; omega)
      | skip
        refine r_skip ?_
        repeat (first | with_reducible refine r_then ?_ | with_reducible refine r_in_normal ?_ | with_reducible refine r_sc_normal ?_)
        refine r_seq ?_
        refine r_seq ?_
        (exfalso; omega)
set_option maxHeartbeats 4000000 in
theorem sortU_ins (l : List Nat) (hl : l.length ≤ 1000) (bb cap : Nat) (sp : List Value) (hs : l.length ≤ 12) : FnC Tryd.prog 60 [.slice (some ⟨bb, 0, none⟩) l.length cap] (bx bb 89 ((l).flatMap encU ++ sp)) [] (.tuple #[]) (bx bb 89 ((insA 0 l (l.length - 1)).flatMap encU ++ sp)) := by
  refine FnC.intro Tryd.call60 Tryd.func60 rfl Tryd.ntmps60 rfl ?_
  intro W M Rf
  refine r_seq ?_
  refine r_region ?_
  refine o_q _ rfl rfl rfl (v_move rfl rfl) ?_
  refine o_q _ rfl rfl rfl (v_len rfl rfl Tryd.underlying87 rfl) ?_
  refine o_q _ rfl rfl rfl (v_assign rfl rfl) ?_
  refine o_nil ?_
  repeat (first | with_reducible refine r_then ?_ | with_reducible refine r_in_normal ?_ | with_reducible refine r_sc_normal ?_)
  refine r_region ?_
  refine o_q _ rfl rfl rfl (v_move rfl rfl) ?_
  refine o_q _ rfl rfl rfl (v_move rfl rfl) ?_
  refine o_q _ rfl rfl rfl (v_move rfl rfl) ?_
  refine o_q _ rfl rfl rfl (v_conv rfl Tryd.underlying3 Tryd.underlying89 rfl (IntWalk.u64_in _ (by omega))) ?_
  refine o_q _ rfl rfl rfl (OpQ.fn (len_v l.length (by omega)) rfl rfl SubRC.sub) ?_
  refine o_fnc (pdq_ins l hl bb cap sp 0 l.length (bitL l.length : Nat) (Nat.zero_le _) (Nat.le_refl _) (by omega)) rfl [] [] rfl rfl rfl rfl rfl rfl SubRC.sub ?_
  refine o_nil ?_
  repeat (first | with_reducible refine r_then ?_ | with_reducible refine r_in_normal ?_ | with_reducible refine r_sc_normal ?_)
  exact r_ende [bx bb 89 ((insA 0 l (l.length - 1)).flatMap encU ++ sp)] [] (Rd.none rfl) ⟨rfl, rfl, rfl⟩ SelMC.sel SubRC.sub
end Go.Proofs.YtpfgiednfjfdmaaDoor


namespace Go.Proofs.YtpfgiednfjfdmaaDoor
open Go.G Debt10
set_option maxRecDepth 1000000
attribute [local irreducible] G.ParO G.Fin
/-- The sets of people, of those from who on with what is in m, whose needs are covered. -/
def onL (f : Nat → Int) : Nat → Nat → Int → Nat → List Nat
  | 0, _, left, m => if left < 0 then [] else [m]
  | k + 1, who, left, m => if left < 0 then [] else onL f k (who + 1) left m ++ onL f k (who + 1) (left - f who) (m ||| 2 ^ who)
theorem onL_neg {f : Nat → Int} {k who : Nat} {left : Int} {m : Nat} (h : left < 0) : onL f k who left m = [] := by
  cases k with
  | zero => exact if_pos h
  | succ k => exact if_pos h
theorem onL_0 {f : Nat → Int} {who : Nat} {left : Int} {m : Nat} (h : ¬ left < 0) : onL f 0 who left m = [m] := if_neg h
theorem onL_s {f : Nat → Int} {k who : Nat} {left : Int} {m : Nat} (h : ¬ left < 0) : onL f (k + 1) who left m = onL f k (who + 1) left m ++ onL f k (who + 1) (left - f who) (m ||| 2 ^ who) := if_neg h
theorem onL_len (f : Nat → Int) : ∀ (k who : Nat) (left : Int) (m : Nat), (onL f k who left m).length ≤ 2 ^ k
  | 0, _, left, m => by unfold onL; split <;> simp
  | k + 1, who, left, m => by
    unfold onL
    split
    · simp
    · rw [List.length_append, Nat.pow_succ]
      have h1 := onL_len f k (who + 1) left m
      have h2 := onL_len f k (who + 1) (left - f who) (m ||| 2 ^ who)
      omega
theorem onL_ne (f : Nat → Int) : ∀ (k who : Nat) (left : Int) (m : Nat), 0 ≤ left → 0 < (onL f k who left m).length
  | 0, _, left, m, h => by rw [onL_0 (by omega)]; simp
  | k + 1, who, left, m, h => by
    rw [onL_s (by omega), List.length_append]
    have := onL_ne f k (who + 1) left m h
    omega
theorem or_lt {m who : Nat} (h : m < 2 ^ who) : m ||| 2 ^ who < 2 ^ (who + 1) := Nat.or_lt_two_pow (by rw [Nat.pow_succ]; omega) (Nat.pow_lt_pow_right (by decide) (by omega))
theorem onL_lt (f : Nat → Int) : ∀ (k who : Nat) (left : Int) (m : Nat), m < 2 ^ who → ∀ x ∈ onL f k who left m, x < 2 ^ (who + k)
  | 0, who, left, m, h, x, hx => by
    unfold onL at hx
    split at hx
    · cases hx
    · rw [List.mem_singleton.1 hx]; exact h
  | k + 1, who, left, m, h, x, hx => by
    unfold onL at hx
    split at hx
    · cases hx
    · rw [show who + (k + 1) = who + 1 + k from by omega]
      rcases List.mem_append.1 hx with hx | hx
      · exact onL_lt f k (who + 1) left m (by rw [Nat.pow_succ]; omega) x hx
      · exact onL_lt f k (who + 1) _ _ (or_lt h) x hx
variable (D : Debt) (uo po : Option Addr) (uc pc : Nat)
variable (lb mb : Nat)
/-- What the closure works on: the memo, the variable and its sets. -/
def onR (b4 : Nat) (G : Cont) (xs : List Nat) : Res := exR fun v : Value => [mapG Tryd.prog 113 mb G, bx b4 87 [v], ownL v 89 1 encU xs]
abbrev needN (D : Debt) (dn : Nat) (w : Nat) : Int := needT D (w : Int) dn
@[reducible] def cloV (b3 b4 b5 b6 b7 : Nat) : Value := .func (.func 59) #[] #[pt b3 0, pt b4 0, pt b5 0, pt b6 0, pt b7 0]
variable {W : World} {n : Nat} {Df : List Deferred} {L : Tm} {M M' : List Res} {R : List Fact} {X : Act → World → Prop}
theorem on_unpk {b4 : Nat} {G : Cont} {xs : List Nat} [hM : DelC M (onR mb b4 G xs) M'] (h : ∀ v, Imp W n Df L (mapG Tryd.prog 113 mb G :: bx b4 87 [v] :: ownL v 89 1 encU xs :: M') R X) : Imp W n Df L M R X := by
  have h2 : Imp W n Df L (onR mb b4 G xs :: M') R X := Imp.unpk (N := fun v : Value => [mapG Tryd.prog 113 mb G, bx b4 87 [v], ownL v 89 1 encU xs]) h
  exact fun a w h1 h3 h4 => h2 a w h1 h3 (h4.perm hM.del.perm)
theorem on_pk {b4 : Nat} {G : Cont} {xs : List Nat} {v : Value} (hM : SelM M (mapG Tryd.prog 113 mb G :: bx b4 87 [v] :: ownL v 89 1 encU xs :: M')) (h : Imp W n Df L (onR mb b4 G xs :: M') R X) : Imp W n Df L M R X := Imp.pk1 (N := fun v : Value => [mapG Tryd.prog 113 mb G, bx b4 87 [v], ownL v 89 1 encU xs]) v hM h
set_option maxHeartbeats 4000000 in
theorem on_0 (b3 b4 b5 b6 b7 dn : Nat) (hg : GoodD D) (hdn : dn ≤ 30) (G : Cont) (who : Nat) (left : Int) (m : Nat) (xs : List Nat) (hw : (who : Int) = D.people) (hl0 : -6000 ≤ left ∧ left ≤ 5000) (hm : m < 2 ^ who) (hx : xs.length ≤ 100) : FnS Tryd.prog 59 [i64 (who : Int), i64 left, u64 m, pt b3 0, pt b4 0, pt b5 0, pt b6 0, pt b7 0] [onR mb b4 G xs] [entF D G, boxF b5 88 [cloV b3 b4 b5 b6 b7], boxF b6 69 [pt lb 0], boxF b7 3 [i64 (dn : Int)], boxF b3 25 (cellsD D uo po uc pc), boxF lb 108 [i64 D.people, .slice uo D.dues.length uc, .slice po D.paid.length pc, .map (some mb)], rowD uo 5 encD D.dues, rowD po 4 encP D.paid, rowD (some ⟨0, 0, none⟩) 1 encE ([0, 1] : List Nat)] (fun e M' R' => ∃ x : Cont, e = .returned (.tuple #[]) ∧ True ∧ M' = [onR mb b4 x (xs ++ onL (needN D dn) 0 who left m)] ∧ R' = [entF D x]) := by
  refine FnS.intro1 Tryd.call59 Tryd.func59 rfl Tryd.ntmps59 rfl ?_
  intro W M Rf
  refine r_seq ?_
  refine r_seq ?_
  refine on_unpk (mb := mb) (b4 := b4) (G := G) (xs := xs) (fun v => ?_)
  refine r_region ?_
  refine o_q _ rfl rfl rfl (v_move rfl rfl) ?_
  refine o_q _ rfl rfl rfl (v_lss rfl rfl rfl) ?_
  refine o_nil ?_
  repeat (first | with_reducible refine r_then ?_ | with_reducible refine r_in_normal ?_ | with_reducible refine r_sc_normal ?_)
  first | refine r_condd rfl (fun hc12 => ?_) (fun hc12 => ?_) | refine r_cond rfl (fun hc12 => ?_) (fun hc12 => ?_)
  ·
    first
    | (exfalso; revert hc12; decide)
    | (exfalso; omega)
    | skip
      refine r_ret ?_
      repeat (first | with_reducible refine r_then_ret ?_ | with_reducible refine r_in_ret ?_ | with_reducible refine r_sc_ret ?_)
      first
      | (refine Imp.own_to v (xs ++ onL (needN D dn) 0 who left m) (by rw [onL_neg (by omega), List.append_nil]) ?_; refine on_pk (M' := M) (mb := mb) (b4 := b4) (v := v) (G := G) (xs := (xs ++ onL (needN D dn) 0 who left m)) SelMC.sel ?_; exact r_rete [onR mb b4 G (xs ++ onL (needN D dn) (0) who left m)] [entF D G] (Rd.none rfl) ⟨G, rfl, trivial, rfl, rfl⟩ SelMC.sel SubRC.sub)
      | (refine Imp.own_to (.slice oa20 (xs ++ [m]).length cp20) (xs ++ onL (needN D dn) 0 who left m) (by rw [onL_0 (by omega)]) ?_; refine Imp.box_to b4 [.slice oa20 (xs ++ [m]).length cp20] rfl ?_; refine on_pk (M' := M) (mb := mb) (b4 := b4) (v := .slice oa20 (xs ++ [m]).length cp20) (G := G) (xs := (xs ++ onL (needN D dn) 0 who left m)) SelMC.sel ?_; exact r_rete [onR mb b4 G (xs ++ onL (needN D dn) (0) who left m)] [entF D G] (Rd.none rfl) ⟨G, rfl, trivial, rfl, rfl⟩ SelMC.sel SubRC.sub)
  ·
    first
    | (exfalso; revert hc12; decide)
    | (exfalso; omega)
    | skip
      refine r_skip ?_
      repeat (first | with_reducible refine r_then ?_ | with_reducible refine r_in_normal ?_ | with_reducible refine r_sc_normal ?_)
      refine r_seq ?_
      refine r_seq ?_
      refine r_region ?_
      refine o_q _ rfl rfl rfl (v_move rfl rfl) ?_
      first | refine o_q _ rfl rfl rfl (v_fieldAddr rfl Tryd.underlying25 inf3 rfl rfl rfl rfl) ?_ | refine o_q _ rfl rfl rfl (v_fieldAddrE rfl Tryd.underlying25 inf3 rfl rfl rfl rfl) ?_
      first | refine o_q _ rfl rfl rfl (v_ld1 rfl Tryd.underlying3 rfl rfl rfl) ?_ | refine o_q _ rfl rfl rfl (v_lf1 rfl Tryd.underlying3 rfl rfl rfl) ?_ | refine o_q _ rfl rfl rfl (v_loadE1 rfl Tryd.underlying3 rfl rfl (by omega) rfl rfl) ?_
      refine o_q _ rfl rfl rfl (v_eql rfl rfl rfl) ?_
      refine o_nil ?_
      repeat (first | with_reducible refine r_then ?_ | with_reducible refine r_in_normal ?_ | with_reducible refine r_sc_normal ?_)
      first | refine r_condd rfl (fun hc16 => ?_) (fun hc16 => ?_) | refine r_cond rfl (fun hc16 => ?_) (fun hc16 => ?_)
      ·
        first
        | (exfalso; revert hc16; decide)
        | (exfalso; omega)
        | skip
          refine r_seq ?_
          refine r_region ?_
          first | refine o_q _ rfl rfl rfl (v_ld1 rfl Tryd.underlying87 rfl rfl rfl) ?_ | refine o_q _ rfl rfl rfl (v_lf1 rfl Tryd.underlying87 rfl rfl rfl) ?_ | refine o_q _ rfl rfl rfl (v_loadE1 rfl Tryd.underlying87 rfl rfl (by omega) rfl rfl) ?_
          refine o_q _ rfl rfl rfl (v_move rfl rfl) ?_
          refine o_lit rfl Tryd.underlying87 inf89 rfl rfl rfl rfl rfl rfl rfl rfl (by repeat (first | exact trivial | refine ⟨rfl, ?_⟩)) (by rfl) (fun b19 => ?_)
          refine o_app1 (m) rfl Tryd.underlying87 inf89 rfl (by rfl) (by rfl) rfl rfl rfl rfl rfl (by rfl) (by rfl) (by rfl) (by first | omega | (constructor <;> first | omega | decide)) (fun v20 => ?_)
          refine Imp.own_is v20 (fun hs20 => ?_)
          obtain ⟨oa20, cp20, rfl⟩ := hs20
          refine o_st rfl inf87 rfl rfl rfl rfl rfl rfl rfl rfl ?_
          refine o_nil ?_
          repeat (first | with_reducible refine r_then ?_ | with_reducible refine r_in_normal ?_ | with_reducible refine r_sc_normal ?_)
          refine r_ret ?_
          repeat (first | with_reducible refine r_then_ret ?_ | with_reducible refine r_in_ret ?_ | with_reducible refine r_sc_ret ?_)
          first
          | (refine Imp.own_to v (xs ++ onL (needN D dn) 0 who left m) (by rw [onL_neg (by omega), List.append_nil]) ?_; refine on_pk (M' := M) (mb := mb) (b4 := b4) (v := v) (G := G) (xs := (xs ++ onL (needN D dn) 0 who left m)) SelMC.sel ?_; exact r_rete [onR mb b4 G (xs ++ onL (needN D dn) (0) who left m)] [entF D G] (Rd.none rfl) ⟨G, rfl, trivial, rfl, rfl⟩ SelMC.sel SubRC.sub)
          | (refine Imp.own_to (.slice oa20 (xs ++ [m]).length cp20) (xs ++ onL (needN D dn) 0 who left m) (by rw [onL_0 (by omega)]) ?_; refine Imp.box_to b4 [.slice oa20 (xs ++ [m]).length cp20] rfl ?_; refine on_pk (M' := M) (mb := mb) (b4 := b4) (v := .slice oa20 (xs ++ [m]).length cp20) (G := G) (xs := (xs ++ onL (needN D dn) 0 who left m)) SelMC.sel ?_; exact r_rete [onR mb b4 G (xs ++ onL (needN D dn) (0) who left m)] [entF D G] (Rd.none rfl) ⟨G, rfl, trivial, rfl, rfl⟩ SelMC.sel SubRC.sub)
      ·
        first
        | (exfalso; revert hc16; decide)
        | (exfalso; omega)
        | skip
          refine r_skip ?_
          repeat (first | with_reducible refine r_then ?_ | with_reducible refine r_in_normal ?_ | with_reducible refine r_sc_normal ?_)
          refine r_seq ?_
          (exfalso; have := hg.np; omega)
theorem float_addN {P : Program} {n : Nat} {L : Tm} {o : Oper} {Z : World → Prop} {t u : TypeId} {x y : Operand} {b : Nat} (ho : o.op = .binOp .add t x y u) (hx : ev L x = some (i64 (b : Int))) (hy : ev L y = some (i64 1)) (h : b < 1000) : ∀ a, FSat n L a → ∀ w, Z w → (execOp a.eval o).run P w = .ok (.value (i64 ((b + 1 : Nat) : Int))) w := by
  rw [show ((b + 1 : Nat) : Int) = (b : Int) + 1 from by omega]
  exact float_addZ ho hx hy (by omega)
set_option maxHeartbeats 4000000 in
theorem on_k (b3 b4 b5 b6 b7 dn : Nat) (hg : GoodD D) (hdn : dn ≤ 30) (G : Cont) (k who : Nat) (left : Int) (m : Nat) (xs : List Nat) (hw : (who : Int) < D.people) (hl0 : -6000 ≤ left ∧ left ≤ 5000) (hm : m < 2 ^ who) (hx : xs.length + 2 ^ (k + 1) ≤ 100) (ih : ∀ (G : Cont) (left : Int) (m : Nat) (xs : List Nat), -6000 ≤ left ∧ left ≤ 5000 → m < 2 ^ (who + 1) → xs.length + 2 ^ k ≤ 100 → FnS Tryd.prog 59 [i64 ((who + 1 : Nat) : Int), i64 left, u64 m, pt b3 0, pt b4 0, pt b5 0, pt b6 0, pt b7 0] [onR mb b4 G xs] [entF D G, boxF b5 88 [cloV b3 b4 b5 b6 b7], boxF b6 69 [pt lb 0], boxF b7 3 [i64 (dn : Int)], boxF b3 25 (cellsD D uo po uc pc), boxF lb 108 [i64 D.people, .slice uo D.dues.length uc, .slice po D.paid.length pc, .map (some mb)], rowD uo 5 encD D.dues, rowD po 4 encP D.paid, rowD (some ⟨0, 0, none⟩) 1 encE ([0, 1] : List Nat)] (fun e M' R' => ∃ x : Cont, e = .returned (.tuple #[]) ∧ True ∧ M' = [onR mb b4 x (xs ++ onL (needN D dn) k (who + 1) left m)] ∧ R' = [entF D x])) : FnS Tryd.prog 59 [i64 (who : Int), i64 left, u64 m, pt b3 0, pt b4 0, pt b5 0, pt b6 0, pt b7 0] [onR mb b4 G xs] [entF D G, boxF b5 88 [cloV b3 b4 b5 b6 b7], boxF b6 69 [pt lb 0], boxF b7 3 [i64 (dn : Int)], boxF b3 25 (cellsD D uo po uc pc), boxF lb 108 [i64 D.people, .slice uo D.dues.length uc, .slice po D.paid.length pc, .map (some mb)], rowD uo 5 encD D.dues, rowD po 4 encP D.paid, rowD (some ⟨0, 0, none⟩) 1 encE ([0, 1] : List Nat)] (fun e M' R' => ∃ x : Cont, e = .returned (.tuple #[]) ∧ True ∧ M' = [onR mb b4 x (xs ++ onL (needN D dn) (k + 1) who left m)] ∧ R' = [entF D x]) := by
  refine FnS.intro1 Tryd.call59 Tryd.func59 rfl Tryd.ntmps59 rfl ?_
  intro W M Rf
  refine r_seq ?_
  refine r_seq ?_
  refine r_region ?_
  refine o_q _ rfl rfl rfl (v_move rfl rfl) ?_
  refine o_q _ rfl rfl rfl (v_lss rfl rfl rfl) ?_
  refine o_nil ?_
  repeat (first | with_reducible refine r_then ?_ | with_reducible refine r_in_normal ?_ | with_reducible refine r_sc_normal ?_)
  first | refine r_condd rfl (fun hc12 => ?_) (fun hc12 => ?_) | refine r_cond rfl (fun hc12 => ?_) (fun hc12 => ?_)
  ·
    first
    | (exfalso; revert hc12; decide)
    | (exfalso; omega)
    | skip
      refine r_ret ?_
      repeat (first | with_reducible refine r_then_ret ?_ | with_reducible refine r_in_ret ?_ | with_reducible refine r_sc_ret ?_)
      exact r_rete [onR mb b4 G (xs ++ onL (needN D dn) (k + 1) who left m)] [entF D G] (Rd.none rfl) ⟨G, rfl, trivial, rfl, rfl⟩ (by rw [onL_neg (by omega), List.append_nil]; exact SelMC.sel) SubRC.sub
  ·
    first
    | (exfalso; revert hc12; decide)
    | (exfalso; omega)
    | skip
      refine r_skip ?_
      repeat (first | with_reducible refine r_then ?_ | with_reducible refine r_in_normal ?_ | with_reducible refine r_sc_normal ?_)
      refine r_seq ?_
      refine r_seq ?_
      refine r_region ?_
      refine o_q _ rfl rfl rfl (v_move rfl rfl) ?_
      first | refine o_q _ rfl rfl rfl (v_fieldAddr rfl Tryd.underlying25 inf3 rfl rfl rfl rfl) ?_ | refine o_q _ rfl rfl rfl (v_fieldAddrE rfl Tryd.underlying25 inf3 rfl rfl rfl rfl) ?_
      first | refine o_q _ rfl rfl rfl (v_ld1 rfl Tryd.underlying3 rfl rfl rfl) ?_ | refine o_q _ rfl rfl rfl (v_lf1 rfl Tryd.underlying3 rfl rfl rfl) ?_ | refine o_q _ rfl rfl rfl (v_loadE1 rfl Tryd.underlying3 rfl rfl (by omega) rfl rfl) ?_
      refine o_q _ rfl rfl rfl (v_eql rfl rfl rfl) ?_
      refine o_nil ?_
      repeat (first | with_reducible refine r_then ?_ | with_reducible refine r_in_normal ?_ | with_reducible refine r_sc_normal ?_)
      first | refine r_condd rfl (fun hc16 => ?_) (fun hc16 => ?_) | refine r_cond rfl (fun hc16 => ?_) (fun hc16 => ?_)
      ·
        first
        | (exfalso; revert hc16; decide)
        | (exfalso; omega)
        | skip
          refine r_seq ?_
          (exfalso; omega)
      ·
        first
        | (exfalso; revert hc16; decide)
        | (exfalso; omega)
        | skip
          refine r_skip ?_
          repeat (first | with_reducible refine r_then ?_ | with_reducible refine r_in_normal ?_ | with_reducible refine r_sc_normal ?_)
          refine r_seq ?_
          have hq1 := hg.np
          have hwp : 2 ^ who ≤ 2 ^ 4 := Nat.pow_le_pow_right (by decide) (by omega)
          have hnb := need_bd hg (who : Int) hdn
          have hle := onL_len (needN D dn) k (who + 1) left m
          refine r_region ?_
          first | refine o_q _ rfl rfl rfl (v_ld1 rfl Tryd.underlying88 rfl rfl rfl) ?_ | refine o_q _ rfl rfl rfl (v_lf1 rfl Tryd.underlying88 rfl rfl rfl) ?_ | refine o_q _ rfl rfl rfl (v_loadE1 rfl Tryd.underlying88 rfl rfl (by omega) rfl rfl) ?_
          refine o_q _ rfl rfl rfl (v_move rfl rfl) ?_
          refine o_q _ rfl rfl rfl (v_cast (v := i64 ((who + 1 : Nat) : Int)) (v_add rfl rfl rfl (by omega)) (congrArg (Value.int .i64) (by omega))) ?_
          refine o_q _ rfl rfl rfl (v_move rfl rfl) ?_
          refine o_q _ rfl rfl rfl (v_move rfl rfl) ?_
          refine o_fnXV [pt b3 0, pt b4 0, pt b5 0, pt b6 0, pt b7 0] (ih G left m xs hl0 (by rw [Nat.pow_succ]; omega) (by rw [Nat.pow_succ] at hx; omega)) rfl rfl rfl rfl rfl rfl rfl SubRC.sub (fun x26 _ => ?_)
          refine o_nil ?_
          repeat (first | with_reducible refine r_then ?_ | with_reducible refine r_in_normal ?_ | with_reducible refine r_sc_normal ?_)
          refine on_unpk (mb := mb) (b4 := b4) (G := x26) (xs := (xs ++ onL (needN D dn) k (who + 1) left m)) (fun v => ?_)
          refine r_parPZ [0, 1, 2, 3, 4, 5, 6, 9, 10, 11, 12, 7, 8, 13] (by kernel_rfl) rfl (fun w => w.heap[b5]? = some (.cells ([cloV b3 b4 b5 b6 b7] : List Value).toArray 88 (0, 0))) (fun X F w h => h.fact (φ := boxF b5 88 [cloV b3 b4 b5 b6 b7]) (List.mem_append_right _ InR.mem)) [0, 1, 2, 3, 7, 8, 9, 10] 11 (by kernel_rfl) (by kernel_rfl) (by kernel_rfl) (by kernel_rfl) (by kernel_rfl) mixed (by kernel_rfl) (by rfl) ?_
          first | refine p_q _ rfl rfl rfl (fun _ _ => v_ld1 rfl Tryd.underlying88 rfl rfl rfl) ?_ | refine p_q _ rfl rfl rfl (fun _ _ => v_lf1 rfl Tryd.underlying88 rfl rfl rfl) ?_ | refine p_q _ rfl rfl rfl (fun _ _ => v_loadE1 rfl Tryd.underlying88 rfl rfl (by omega) rfl rfl) ?_
          refine p_q _ rfl rfl rfl (fun _ _ => v_move rfl rfl) ?_
          refine p_q _ rfl rfl rfl (fun _ _ => v_cast (v := i64 ((who + 1 : Nat) : Int)) (v_add rfl rfl rfl (by omega)) (congrArg (Value.int .i64) (by omega))) ?_
          refine p_q _ rfl rfl rfl (fun _ _ => v_move rfl rfl) ?_
          first | refine p_q _ rfl rfl rfl (fun _ _ => v_ld1 rfl Tryd.underlying69 rfl rfl rfl) ?_ | refine p_q _ rfl rfl rfl (fun _ _ => v_lf1 rfl Tryd.underlying69 rfl rfl rfl) ?_ | refine p_q _ rfl rfl rfl (fun _ _ => v_loadE1 rfl Tryd.underlying69 rfl rfl (by omega) rfl rfl) ?_
          refine p_q _ rfl rfl rfl (fun _ _ => v_move rfl rfl) ?_
          first | refine p_q _ rfl rfl rfl (fun _ _ => v_ld1 rfl Tryd.underlying3 rfl rfl rfl) ?_ | refine p_q _ rfl rfl rfl (fun _ _ => v_lf1 rfl Tryd.underlying3 rfl rfl rfl) ?_ | refine p_q _ rfl rfl rfl (fun _ _ => v_loadE1 rfl Tryd.underlying3 rfl rfl (by omega) rfl rfl) ?_
          refine p_q _ rfl rfl rfl (fun _ _ => v_move rfl rfl) ?_
          refine p_q _ rfl rfl rfl (fun _ _ => v_move rfl rfl) ?_
          refine p_q _ rfl rfl rfl (fun _ _ => v_shlU (h := who) (m := 2 ^ who) rfl rfl rfl (by omega) rfl) ?_
          refine p_q _ rfl rfl rfl (fun _ _ => v_orU (a := m) (b := 2 ^ who) rfl rfl rfl (by omega) (by omega)) ?_
          refine p_nilF (by simp only [List.nil_append, List.cons_append]; rfl) rfl ⟨⟨_, _, _, rfl, rfl, rfl, rfl, rfl, float_cell (vs := [cloV b3 b4 b5 b6 b7]) (B := 88) rfl Tryd.underlying88 rfl rfl rfl (fun _ h => h)⟩, ⟨_, _, _, rfl, rfl, rfl, rfl, rfl, float_mv rfl rfl⟩, ⟨_, _, _, rfl, rfl, rfl, rfl, rfl, float_addN rfl rfl rfl (by omega)⟩, ⟨_, _, _, rfl, rfl, rfl, rfl, rfl, float_mv rfl rfl⟩, ⟨_, _, _, rfl, rfl, rfl, rfl, rfl, float_mv rfl rfl⟩, ⟨_, _, _, rfl, rfl, rfl, rfl, rfl, float_mv rfl rfl⟩, ⟨_, _, _, rfl, rfl, rfl, rfl, rfl, float_shlU (h := who) (m := 2 ^ who) rfl rfl rfl (by omega) rfl⟩, ⟨_, _, _, rfl, rfl, rfl, rfl, rfl, float_orU (a := m) (b := 2 ^ who) rfl rfl rfl (by omega) (by omega)⟩, trivial⟩ ?_
          refine f_q rfl ?_
          refine f_q rfl ?_
          refine f_q rfl ?_
          refine f_q rfl ?_
          refine f_q rfl ?_
          refine f_q rfl ?_
          refine f_q rfl ?_
          refine f_q rfl ?_
          refine f_q rfl ?_
          refine f_q rfl ?_
          refine f_q rfl ?_
          refine f_nil ?_
          refine oz_lift (fun w h => h.fact (φ := boxF b5 88 [cloV b3 b4 b5 b6 b7]) InR.mem) ?_
          refine o_fnX (need_s D uo po uc pc lb mb x26 (who : Int) dn hg (by omega) hdn) rfl rfl rfl rfl rfl SubRC.sub (fun x34 _ => ?_)
          refine o_nil ?_
          refine r_then ?_
          refine oz_lift (fun w h => h.fact (φ := boxF b5 88 [cloV b3 b4 b5 b6 b7]) InR.mem) ?_
          refine o_q _ rfl rfl rfl (v_sub rfl rfl rfl (by omega)) ?_
          refine o_nil ?_
          refine r_then ?_
          refine on_pk (M' := M) (mb := mb) (b4 := b4) (v := v) (G := x34) (xs := (xs ++ onL (needN D dn) k (who + 1) left m)) SelMC.sel ?_
          refine oz_lift (fun w h => h.fact (φ := boxF b5 88 [cloV b3 b4 b5 b6 b7]) InR.mem) ?_
          refine o_fnXV [pt b3 0, pt b4 0, pt b5 0, pt b6 0, pt b7 0] (ih x34 (left - needT D (who : Int) dn) (m ||| 2 ^ who) (xs ++ onL (needN D dn) k (who + 1) left m) (by omega) (or_lt hm) (by rw [List.length_append]; rw [Nat.pow_succ] at hx; omega)) rfl rfl rfl rfl rfl rfl rfl SubRC.sub (fun x40 _ => ?_)
          refine o_nil ?_
          refine r_then ?_
          refine oz_nil (fun w h => h.fact (φ := boxF b5 88 [cloV b3 b4 b5 b6 b7]) InR.mem) ?_
          refine r_nop ?_
          repeat (first | with_reducible refine r_then ?_ | with_reducible refine r_in_normal ?_ | with_reducible refine r_sc_normal ?_)
          exact r_ende [onR mb b4 x40 (xs ++ onL (needN D dn) (k + 1) who left m)] [entF D x40] (Rd.none rfl) ⟨x40, rfl, trivial, rfl, rfl⟩ (by rw [onL_s (by omega), ← List.append_assoc]; exact SelMC.sel) SubRC.sub
theorem on_s (b3 b4 b5 b6 b7 dn : Nat) (hg : GoodD D) (hdn : dn ≤ 30) : ∀ (k : Nat) (G : Cont) (who : Nat) (left : Int) (m : Nat) (xs : List Nat), (who : Int) + k = D.people → (-6000 ≤ left ∧ left ≤ 5000) → m < 2 ^ who → xs.length + 2 ^ k ≤ 100 → FnS Tryd.prog 59 [i64 (who : Int), i64 left, u64 m, pt b3 0, pt b4 0, pt b5 0, pt b6 0, pt b7 0] [onR mb b4 G xs] [entF D G, boxF b5 88 [cloV b3 b4 b5 b6 b7], boxF b6 69 [pt lb 0], boxF b7 3 [i64 (dn : Int)], boxF b3 25 (cellsD D uo po uc pc), boxF lb 108 [i64 D.people, .slice uo D.dues.length uc, .slice po D.paid.length pc, .map (some mb)], rowD uo 5 encD D.dues, rowD po 4 encP D.paid, rowD (some ⟨0, 0, none⟩) 1 encE ([0, 1] : List Nat)] (fun e M' R' => ∃ x : Cont, e = .returned (.tuple #[]) ∧ True ∧ M' = [onR mb b4 x (xs ++ onL (needN D dn) k who left m)] ∧ R' = [entF D x])
  | 0, G, who, left, m, xs, hw, hl0, hm, hx => on_0 D uo po uc pc lb mb b3 b4 b5 b6 b7 dn hg hdn G who left m xs (by omega) hl0 hm (by omega)
  | k + 1, G, who, left, m, xs, hw, hl0, hm, hx => on_k D uo po uc pc lb mb b3 b4 b5 b6 b7 dn hg hdn G k who left m xs (by omega) hl0 hm hx
      (fun G2 left2 m2 xs2 h1 h2 h3 => on_s b3 b4 b5 b6 b7 dn hg hdn k G2 (who + 1) left2 m2 xs2 (by push_cast; omega) h1 h2 h3)
end Go.Proofs.YtpfgiednfjfdmaaDoor


namespace Go.G
variable {P : Program} {W : World} {n : Nat} {D : List Deferred} {L : Tm} {M : List Res} {R : List Fact} {Q : Exit → Act → World → Prop} {o : Oper}
theorem p_open1 {ops : Array Oper} {K : List Spc → Prop} {rest : List Oper} {acc : List Spc} {k : FuncId} {args : List Value} {R0 : List Fact} {res : Nat → Res} {xs : List Operand} {ts : Array TypeId} {d : Nat}
    (h : FnS P k args [] R0 (fun e M' R' => ∃ b, e = .returned (pt b 0) ∧ M' = [res b] ∧ R' = [])) (ho : o.op = .call { callee := .value (.func k), args := xs.toArray, argTypes := ts })
    (hx : evs L xs = some args) (hg : o.guard = none) (hdst : o.dst = some d) (hd : Nat.blt d n = true) (hs : SubR R R0)
    (hr : ParO P W n M R ops K rest (acc ++ [Spc.g isPt (fun v => [res (blk v)]) (fun _ => [])]) L) : ParO P W n M R ops K (o :: rest) acc L := by
  refine ⟨Spc.g isPt (fun v => [res (blk v)]) (fun _ => []), by simp [hdst, hd], .inl ⟨rfl, .inl ⟨.inl hg, ?_⟩⟩, by simpa [addL, Spc.g] using hr⟩
  intro Mx Rx a w h1 h2
  have h2 : St W (Mx ++ M) (Rx ++ R) w := h2
  rw [exec_call [] [] ho rfl (h1.evs hx) h.enter]
  simp only [List.nil_append, List.append_nil]
  have h3 : St W ([] ++ (Mx ++ M)) (R0 ++ (Rx ++ R)) w := h2.both (fun φ hφ => List.mem_append_right _ (hs φ hφ))
  refine ⟨rfl, (h.calls W (Mx ++ M) (Rx ++ R) w h3).mono ?_⟩
  rintro e w' ⟨M1, R1, ⟨b, rfl, rfl, rfl⟩, hw'⟩
  refine .inl ⟨pt b 0, rfl, ⟨b, rfl⟩, ?_⟩
  exact hw'.weak (fun φ hφ => List.mem_append_right _ (List.mem_append_right _ hφ))
theorem f_open1 {X : Act → World → Prop} {os : List Oper} {ss : List Spc} {res : Nat → Res} {d : Nat} (hdst : o.dst = some d) (h : ∀ b, Fin W n D X os ss ((d, pt b 0) :: L) (res b :: M) R) : Fin W n D X (o :: os) (Spc.g isPt (fun v => [res (blk v)]) (fun _ => []) :: ss) L M R :=
  f_g hdst (by rintro v ⟨b, rfl⟩; exact h b)
end Go.G

