/- Part 4 of 5 of what the proofs of this seat stand on: a small logic for walks, what the functions come to, and the walks themselves. No condition of its own. -/
import Derived.Test.YtpfgiednfjfdmaaDoorB3
import Derived.Test.YtpfgiednfjfdmaaDoorB2
import Derived.Test.YtpfgiednfjfdmaaDoorTie
import Derived.Test.YtpfgiednfjfdmaaDoorCards
import Derived.LaidMore
import Derived.LaidLaws
import Derived.Lay
import Derived.SevenTiedAt
import Derived.Stop.Joined
set_option linter.unusedVariables false
set_option linter.unusedSimpArgs false
set_option linter.unusedSectionVars false
namespace Go.Proofs.YtpfgiednfjfdmaaDoor
open Go.G Debt10
set_option maxRecDepth 1000000
attribute [local irreducible] G.ParO G.Fin
theorem total_bd {c : Int} (hc : 0 ≤ c) : ∀ {l : List Opn}, (∀ x ∈ l, 0 ≤ x.left ∧ x.left ≤ c) → 0 ≤ total l ∧ total l ≤ c * (l.length : Int)
  | [], _ => by show (0 : Int) ≤ 0 ∧ (0 : Int) ≤ c * 0; omega
  | x :: r, h => by
    have h1 := h x (List.mem_cons_self ..)
    have h2 := total_bd hc (l := r) fun y hy => h y (List.mem_cons_of_mem _ hy)
    have e : c * ((x :: r).length : Int) = c * (r.length : Int) + c := by rw [List.length_cons]; push_cast; rw [Int.mul_add, Int.mul_one]
    rw [e]
    show 0 ≤ x.left + total r ∧ x.left + total r ≤ _
    omega
theorem left_bd {D : Debt} (hg : GoodD D) (who : Int) {d : Nat} (hd : d ≤ 30) : (0 ≤ (leftT D who d).lo ∧ (leftT D who d).lo ≤ 6000) ∧ 0 ≤ (leftT D who d).hi ∧ (leftT D who d).hi ≤ 6000 := by
  have h0 := total_bd (c := 1000) (by omega) fun x hx => ((prog_bd hg 0 who (d + 1) (by omega)).1 x hx).1
  have h1 := total_bd (c := 1000) (by omega) fun x hx => ((prog_bd hg 1 who (d + 1) (by omega)).1 x hx).1
  have g0 := prog_lenA hg 0 who (d + 1)
  have g1 := prog_lenA hg 1 who (d + 1)
  unfold leftT
  dsimp only
  omega
theorem need_bd {D : Debt} (hg : GoodD D) (who : Int) {d : Nat} (hd : d ≤ 30) : 0 ≤ needT D who d ∧ needT D who d ≤ 6000 := by
  have h1 := total_bd (c := 1000) (by omega) fun x hx => ((prog_bdB hg 1 who d (by omega)).1 x hx).1
  have g1 := prog_lenB hg 1 who d
  unfold needT
  omega
/-- What is left of all people before the k-th. -/
def sumT (D : Debt) (d : Nat) : Nat → Debt10.Span
  | 0 => ⟨0, 0⟩
  | k + 1 => ⟨(sumT D d k).lo + (leftT D k d).lo, (sumT D d k).hi + (leftT D k d).hi⟩
theorem sum_bd {D : Debt} (hg : GoodD D) {d : Nat} (hd : d ≤ 30) : ∀ k : Nat, (0 ≤ (sumT D d k).lo ∧ (sumT D d k).lo ≤ 6000 * (k : Int)) ∧ 0 ≤ (sumT D d k).hi ∧ (sumT D d k).hi ≤ 6000 * (k : Int)
  | 0 => by simp [sumT]
  | k + 1 => by
    have h1 := sum_bd hg hd k
    have h2 := left_bd hg k hd
    show (0 ≤ (sumT D d k).lo + (leftT D k d).lo ∧ (sumT D d k).lo + (leftT D k d).lo ≤ 6000 * ((k + 1 : Nat) : Int)) ∧ 0 ≤ (sumT D d k).hi + (leftT D k d).hi ∧ (sumT D d k).hi + (leftT D k d).hi ≤ 6000 * ((k + 1 : Nat) : Int)
    push_cast
    omega
def sumB (D : Debt) (d : Int) : Debt10.Span × Int := ansD D (isDy d) ⟨0, 0⟩ (sumT D d.toNat D.people.toNat)
variable (D : Debt) (uo po : Option Addr) (uc pc : Nat)
set_option maxHeartbeats 4000000 in
theorem sum24_x1 (d : Int) (hl1 : D.dues.length ≤ 40) (hl2 : D.paid.length ≤ 40) (hng : ¬ GoodD D) : FnV Tryd.prog 24 [valD D uo po uc pc, i64 d] [rowD uo 5 encD D.dues, rowD po 4 encP D.paid, rowD (some ⟨0, 0, none⟩) 1 encE ([0, 1] : List Nat)] (.tuple #[vS (sumB D d).1, i64 (sumB D d).2]) := by
 refine FnV.introD Tryd.call24 Tryd.func24 rfl Tryd.ntmps24 rfl ?_
 intro W M Rf
 refine r_seq ?_
 refine r_region ?_
 refine o_boxA rfl rfl rfl rfl rfl (fun b2 => ?_)
 refine o_alloc rfl inf29 rfl rfl rfl rfl rfl (fun b4 => ?_)
 refine o_alloc rfl inf30 rfl rfl rfl rfl rfl (fun b5 => ?_)
 refine o_nil ?_
 with_reducible refine r_then ?_
 refine r_seq ?_
 refine r_region ?_
 refine o_defer rfl rfl rfl rfl ?_
 refine o_nil ?_
 with_reducible refine r_then ?_
 refine r_seq ?_
 refine r_parX 4 mixed (by kernel_rfl) (by rfl) ?_
 refine p_q _ rfl rfl rfl (fun _ _ => v_ldW rfl Tryd.underlying25 rfl inf25 rfl rfl) ?_
 refine p_q _ rfl rfl rfl (fun _ _ => v_move rfl rfl) ?_
 refine p_q _ rfl rfl rfl (fun _ _ => OpQ.fn (isDay_v d) rfl rfl SubRC.sub) ?_
 refine p_deadX (look_x1 D uo po uc pc _ hl1 hl2 hng) rfl rfl rfl rfl rfl SubRC.sub ?_
 refine p_nilX (panOf (.iface 103 (i64 1))) (by simp only [List.nil_append, List.cons_append]; rfl) rfl (by kernel_rfl) rfl ?_ ?_
 ·
  with_reducible refine r_then_panic ?_
  exact d_panv answer_ans (Rd.two rfl (RdI.cellW Tryd.underlying29 rfl inf29 rfl rfl) (RdI.cell1 Tryd.underlying30 rfl rfl rfl)) (by rw [sumB, ansD_n (chkD_1 hng) (by decide)]; try rfl) SelMC.sel SubRC.sub
 ·
  refine f_q rfl ?_
  refine f_q rfl ?_
  refine f_q rfl ?_
  exact f_dead
set_option maxHeartbeats 4000000 in
theorem sum24_x2 (d : Int) (hl1 : D.dues.length ≤ 40) (hl2 : D.paid.length ≤ 40) (hg : GoodD D) (h2 : isDy d = false) : FnV Tryd.prog 24 [valD D uo po uc pc, i64 d] [rowD uo 5 encD D.dues, rowD po 4 encP D.paid, rowD (some ⟨0, 0, none⟩) 1 encE ([0, 1] : List Nat)] (.tuple #[vS (sumB D d).1, i64 (sumB D d).2]) := by
 refine FnV.introD Tryd.call24 Tryd.func24 rfl Tryd.ntmps24 rfl ?_
 intro W M Rf
 refine r_seq ?_
 refine r_region ?_
 refine o_boxA rfl rfl rfl rfl rfl (fun b2 => ?_)
 refine o_alloc rfl inf29 rfl rfl rfl rfl rfl (fun b4 => ?_)
 refine o_alloc rfl inf30 rfl rfl rfl rfl rfl (fun b5 => ?_)
 refine o_nil ?_
 with_reducible refine r_then ?_
 refine r_seq ?_
 refine r_region ?_
 refine o_defer rfl rfl rfl rfl ?_
 refine o_nil ?_
 with_reducible refine r_then ?_
 refine r_seq ?_
 refine r_parX 4 mixed (by kernel_rfl) (by rfl) ?_
 refine p_q _ rfl rfl rfl (fun _ _ => v_ldW rfl Tryd.underlying25 rfl inf25 rfl rfl) ?_
 refine p_q _ rfl rfl rfl (fun _ _ => v_move rfl rfl) ?_
 refine p_q _ rfl rfl rfl (fun _ _ => v_cast (v := .bool false) (OpQ.fn (isDay_v d) rfl rfl SubRC.sub) (congrArg Value.bool h2)) ?_
 refine p_deadX (look_x2 D uo po uc pc hl1 hl2 hg) rfl rfl rfl rfl rfl SubRC.sub ?_
 refine p_nilX (panOf (.iface 103 (i64 2))) (by simp only [List.nil_append, List.cons_append]; rfl) rfl (by kernel_rfl) rfl ?_ ?_
 ·
  with_reducible refine r_then_panic ?_
  exact d_panv answer_ans (Rd.two rfl (RdI.cellW Tryd.underlying29 rfl inf29 rfl rfl) (RdI.cell1 Tryd.underlying30 rfl rfl rfl)) (by rw [sumB, ansD_n (chkD_2 hg h2) (by decide)]; try rfl) SelMC.sel SubRC.sub
 ·
  refine f_q rfl ?_
  refine f_q rfl ?_
  refine f_q rfl ?_
  exact f_dead
set_option maxHeartbeats 4000000 in
theorem sum24_ok (d : Int) (hl1 : D.dues.length ≤ 40) (hl2 : D.paid.length ≤ 40) (hg : GoodD D) (h2 : isDy d = true) : FnV Tryd.prog 24 [valD D uo po uc pc, i64 d] [rowD uo 5 encD D.dues, rowD po 4 encP D.paid, rowD (some ⟨0, 0, none⟩) 1 encE ([0, 1] : List Nat)] (.tuple #[vS (sumB D d).1, i64 (sumB D d).2]) := by
 obtain ⟨dn, rfl⟩ : ∃ n : Nat, d = n := ⟨d.toNat, by have := of_decide_eq_true h2; omega⟩
 have hd := of_decide_eq_true h2
 have hq1 := hg.np
 have hdn : dn ≤ 30 := by omega
 refine FnV.introD Tryd.call24 Tryd.func24 rfl Tryd.ntmps24 rfl ?_
 intro W M Rf
 refine r_seq ?_
 refine r_region ?_
 refine o_boxA rfl rfl rfl rfl rfl (fun b2 => ?_)
 refine o_alloc rfl inf29 rfl rfl rfl rfl rfl (fun b4 => ?_)
 refine o_alloc rfl inf30 rfl rfl rfl rfl rfl (fun b5 => ?_)
 refine o_nil ?_
 with_reducible refine r_then ?_
 refine r_seq ?_
 refine r_region ?_
 refine o_defer rfl rfl rfl rfl ?_
 refine o_nil ?_
 with_reducible refine r_then ?_
 refine r_seq ?_
 refine r_par' 3 mixed (by kernel_rfl) (by rfl) ?_
 refine p_q _ rfl rfl rfl (fun _ _ => v_ldW rfl Tryd.underlying25 rfl inf25 rfl rfl) ?_
 refine p_q _ rfl rfl rfl (fun _ _ => v_move rfl rfl) ?_
 refine p_q _ rfl rfl rfl (fun _ _ => v_cast (v := .bool true) (OpQ.fn (isDay_v _) rfl rfl SubRC.sub) (congrArg Value.bool h2)) ?_
 refine p_nil2 (by simp only [List.nil_append, List.cons_append]; rfl) rfl ?_
 refine f_q rfl ?_
 refine f_q rfl ?_
 refine f_q rfl ?_
 refine f_nil ?_
 refine o_fnR (look_ok D uo po uc pc hl1 hl2 hg) rfl rfl rfl rfl rfl SubRC.sub (fun lb => ?_)
 refine o_q _ rfl rfl rfl (v_assign rfl rfl) ?_
 refine o_nil ?_
 with_reducible refine r_then ?_
 refine r_seq ?_
 refine opened D uo po uc pc lb (fun mb => ?_)
 refine r_region ?_
 refine o_alloc rfl inf29 rfl rfl rfl rfl rfl (fun b7 => ?_)
 refine o_nil ?_
 with_reducible refine r_then ?_
 refine r_seq ?_
 refine r_seq ?_
 refine Imp.box_to b7 [i64 (sumT D dn (0)).lo, i64 (sumT D dn (0)).hi] rfl ?_
 refine r_region ?_
 refine o_q _ rfl rfl rfl (v_fieldAddr rfl Tryd.underlying25 inf3 rfl rfl rfl rfl) ?_
 refine o_q _ rfl rfl rfl (v_ld1 rfl Tryd.underlying3 rfl rfl rfl) ?_
 refine o_q _ rfl rfl rfl (v_move rfl rfl) ?_
 refine o_nil ?_
 with_reducible refine r_then ?_
 refine r_block ?_
 refine r_loop (ι := Nat × Cont) (fun gh => (gh.1 : Int) ≤ D.people) (fun gh => [(1, i64 (dn : Int)), (2, pt b2 0), (4, pt b4 0), (5, pt b5 0), (6, pt lb 0), (7, pt b7 0), (15, i64 D.people), (16, i64 (gh.1 : Int))]) (fun gh => mapG Tryd.prog 113 mb gh.2 :: bx b7 29 [i64 (sumT D dn (gh.1)).lo, i64 (sumT D dn (gh.1)).hi] :: bx b5 30 [i64 0] :: bx b4 29 [i64 0, i64 0] :: M) (fun gh => entF D gh.2 :: boxF lb 108 [i64 D.people, .slice uo D.dues.length uc, .slice po D.paid.length pc, .map (some mb)] :: ([rowD uo 5 encD D.dues, rowD po 4 encP D.paid, rowD (some ⟨0, 0, none⟩) 1 encE ([0, 1] : List Nat)] ++ Rf)) (fun gh => D.people.toNat - gh.1) (0, fun _ => none) ?_ ?_ ?_
 ·
  refine Imp.box_to b5 [i64 0] rfl ?_
  refine Imp.box_to b4 [i64 0, i64 0] rfl ?_
  exact r_here (by repeat (first | exact FSub.nil | refine FSub.cons rfl ?_)) SelMC.sel SubRC.sub
 ·
  show (0 : Int) ≤ D.people; omega
 ·
  rintro ⟨k, G⟩ hI0
  dsimp only at hI0
  dsimp only
  have hI : (k : Int) ≤ D.people := hI0
  refine r_seq ?_
  refine r_region ?_
  refine o_q _ rfl rfl rfl (v_lss rfl rfl rfl) ?_
  refine o_nil ?_
  with_reducible refine r_then ?_
  refine r_seq ?_
  refine r_condd rfl (fun hc17 => ?_) (fun hc17 => ?_)
  ·
   refine r_skip ?_
   with_reducible refine r_then ?_
   refine r_seq ?_
   refine r_block ?_
   refine r_seq ?_
   refine r_region ?_
   refine o_q _ rfl rfl rfl (v_move rfl rfl) ?_
   refine o_q _ rfl rfl rfl (v_assign rfl rfl) ?_
   refine o_nil ?_
   with_reducible refine r_then ?_
   refine r_seq ?_
   refine r_region ?_
   refine o_q _ rfl rfl rfl (v_move rfl rfl) ?_
   refine o_q _ rfl rfl rfl (v_move rfl rfl) ?_
   refine o_q _ rfl rfl rfl (v_move rfl rfl) ?_
   refine o_fnX (left_s D uo po uc pc lb mb G (k : Int) dn hg (by omega) hdn) rfl rfl rfl rfl rfl SubRC.sub (fun x22 _ => ?_)
   refine o_alloc rfl inf29 rfl rfl rfl rfl rfl (fun b9 => ?_)
   refine o_st rfl inf29 rfl rfl rfl rfl rfl rfl rfl rfl ?_
   refine o_nil ?_
   with_reducible refine r_then ?_
   have hb1 := sum_bd hg hdn k
   have hb2 := left_bd hg (k : Int) hdn
   refine Imp.box_to b9 [i64 (leftT D (k : Int) dn).lo, i64 (leftT D (k : Int) dn).hi] rfl ?_
   refine r_region ?_
   refine o_q _ rfl rfl rfl (v_fieldAddr rfl Tryd.underlying29 inf3 rfl rfl rfl rfl) ?_
   refine o_q _ rfl rfl rfl (v_ld1 rfl Tryd.underlying3 rfl rfl rfl) ?_
   refine o_q _ rfl rfl rfl (v_fieldAddr rfl Tryd.underlying29 inf3 rfl rfl rfl rfl) ?_
   refine o_q _ rfl rfl rfl (v_ld1 rfl Tryd.underlying3 rfl rfl rfl) ?_
   refine o_q _ rfl rfl rfl (v_add rfl rfl rfl (by omega)) ?_
   refine o_q _ rfl rfl rfl (v_fieldAddr rfl Tryd.underlying29 inf3 rfl rfl rfl rfl) ?_
   refine o_q _ rfl rfl rfl (v_ld1 rfl Tryd.underlying3 rfl rfl rfl) ?_
   refine o_q _ rfl rfl rfl (v_fieldAddr rfl Tryd.underlying29 inf3 rfl rfl rfl rfl) ?_
   refine o_q _ rfl rfl rfl (v_ld1 rfl Tryd.underlying3 rfl rfl rfl) ?_
   refine o_q _ rfl rfl rfl (v_add rfl rfl rfl (by omega)) ?_
   refine o_q _ rfl rfl rfl (v_bS rfl Tryd.underlying29 inf29 plt29 rfl rfl rfl (by repeat (first | exact trivial | refine ⟨rfl, ?_⟩)) (by rfl)) ?_
   refine o_st rfl inf29 rfl rfl rfl rfl rfl rfl rfl rfl ?_
   refine o_nil ?_
   with_reducible refine r_in_normal ?_; refine r_then ?_
   refine r_region ?_
   refine o_q _ rfl rfl rfl (v_add rfl rfl rfl (by omega)) ?_
   refine o_q _ rfl rfl rfl (v_move rfl rfl) ?_
   refine o_nil ?_
   with_reducible refine r_then ?_
   exact r_next ((k + 1, x22)) (by refine Imp.box_to b7 [i64 (sumT D dn (k + 1)).lo, i64 (sumT D dn (k + 1)).hi] rfl ?_; exact r_here (by repeat (first | exact FSub.nil | refine FSub.cons rfl ?_)) SelMC.sel SubRC.sub) (by (show ((k + 1 : Nat) : Int) ≤ D.people; omega)) (by (show D.people.toNat - (k + 1) < D.people.toNat - k; omega))
  ·
   refine r_exit ?_
   with_reducible refine r_then_exit ?_; refine r_then_exit ?_; refine r_in_here ?_; refine r_then ?_
   refine r_seq ?_
   obtain rfl : k = D.people.toNat := by omega
   refine r_region ?_
   refine o_q _ rfl rfl rfl (v_ldW rfl Tryd.underlying29 rfl inf29 rfl rfl) ?_
   refine o_st rfl inf29 rfl rfl rfl rfl rfl rfl rfl rfl ?_
   refine o_st rfl inf30 rfl rfl rfl rfl rfl rfl rfl rfl ?_
   refine o_nil ?_
   with_reducible refine r_then ?_
   refine r_ret ?_
   refine Imp.box_to b4 [i64 (sumT D dn D.people.toNat).lo, i64 (sumT D dn D.people.toNat).hi] rfl ?_
   exact d_retv answer_ans (Rd.two rfl (RdI.cellW Tryd.underlying29 rfl inf29 rfl rfl) (RdI.cell1 Tryd.underlying30 rfl rfl rfl)) (by rw [sumB, ansD_0 (chkD_0 hg h2), Int.toNat_natCast]; try rfl) SelMC.sel SubRC.sub
theorem sum24_v (d : Int) (hl1 : D.dues.length ≤ 40) (hl2 : D.paid.length ≤ 40) : FnV Tryd.prog 24 [valD D uo po uc pc, i64 d] [rowD uo 5 encD D.dues, rowD po 4 encP D.paid, rowD (some ⟨0, 0, none⟩) 1 encE ([0, 1] : List Nat)] (.tuple #[vS (sumB D d).1, i64 (sumB D d).2]) := by
  by_cases hg : GoodD D
  · cases h2 : isDy d
    · exact sum24_x2 D uo po uc pc d hl1 hl2 hg h2
    · exact sum24_ok D uo po uc pc d hl1 hl2 hg h2
  · exact sum24_x1 D uo po uc pc d hl1 hl2 hg
/-- Whether a payment is one of the same person and day as one before; which rule a payment breaks. -/
def TwiceP (D : Debt) (k : Nat) : Prop := ∃ j, j < k ∧ (D.paid.getD j default).who = (D.paid.getD k default).who ∧ (D.paid.getD j default).day = (D.paid.getD k default).day
instance (D : Debt) (k : Nat) : Decidable (TwiceP D k) := decidable_of_iff ((List.range k).any (fun j => decide ((D.paid.getD j default).who = (D.paid.getD k default).who ∧ (D.paid.getD j default).day = (D.paid.getD k default).day)) = true) (by
  rw [List.any_eq_true]
  constructor
  · rintro ⟨j, hj, h⟩; exact ⟨j, List.mem_range.1 hj, of_decide_eq_true h⟩
  · rintro ⟨j, hj, h⟩; exact ⟨j, List.mem_range.2 hj, decide_eq_true h⟩)
def worstA (D : Debt) (k : Nat) : Int := (progA D 1 (D.paid.getD k default).who ((D.paid.getD k default).day.toNat + 1)).2
def ruleP (D : Debt) (k : Nat) : Int := if TwiceP D k then 1 else if worstA D k > 0 then 2 else 0
/-- The first of the payments before the n-th that breaks a rule. -/
def firstR (D : Debt) : Nat → Option Nat
  | 0 => none
  | n + 1 => match firstR D n with
    | some i => some i
    | none => if ruleP D n ≠ 0 then some n else none
def checkT (D : Debt) : (Int × Int) × Int := match firstR D D.paid.length with
  | some i => (((i : Int), ruleP D i), 0)
  | none => ((0, 0), 4)
def checkB (D : Debt) : (Int × Int) × Int := if GoodD D then checkT D else ((0, 0), 1)
theorem firstR_y {D : Debt} {k : Nat} (h : firstR D k = none) (hr : ruleP D k ≠ 0) : firstR D (k + 1) = some k := by unfold firstR; rw [h]; exact if_pos hr
theorem firstR_n {D : Debt} {k : Nat} (h : firstR D k = none) (hr : ruleP D k = 0) : firstR D (k + 1) = none := by unfold firstR; rw [h]; exact if_neg (fun h => h hr)
theorem firstR_up {D : Debt} {k i : Nat} (h : firstR D k = some i) : ∀ {n : Nat}, k ≤ n → firstR D n = some i
  | 0, hn => by obtain rfl : k = 0 := by omega
                exact h
  | n + 1, hn => by
    by_cases e : k = n + 1
    · subst e; exact h
    · unfold firstR; rw [firstR_up h (by omega)]
theorem check_hit {D : Debt} {k : Nat} (hg : GoodD D) (h : firstR D k = none) (hk : k < D.paid.length) (hr : ruleP D k ≠ 0) : checkB D = (((k : Int), ruleP D k), 0) := by
  unfold checkB checkT; rw [if_pos hg, firstR_up (firstR_y h hr) (by omega)]
theorem check_none {D : Debt} (hg : GoodD D) (h : firstR D D.paid.length = none) : checkB D = ((0, 0), 4) := by unfold checkB checkT; rw [if_pos hg, h]
theorem rule_1 {D : Debt} {k : Nat} (h : TwiceP D k) : ruleP D k = 1 := if_pos h
theorem rule_2 {D : Debt} {k : Nat} (h : ¬ TwiceP D k) (h2 : 0 < worstA D k) : ruleP D k = 2 := by unfold ruleP; rw [if_neg h, if_pos h2]
theorem rule_0 {D : Debt} {k : Nat} (h : ¬ TwiceP D k) (h2 : ¬ 0 < worstA D k) : ruleP D k = 0 := by unfold ruleP; rw [if_neg h, if_neg h2]
@[reducible] def bkV (who day : Int) : Value := .agg #[i64 who, i64 day]
theorem bkV_inj {a b a' b' : Int} (h : bkV a b = bkV a' b') : a = a' ∧ b = b' := by
  have h2 : [i64 a, i64 b] = [i64 a', i64 b'] := congrArg Array.toList (Value.agg.inj h)
  simp only [List.cons.injEq, Value.int.injEq, true_and, and_true] at h2
  exact h2
/-- The bookings that were seen. -/
noncomputable def seenC (D : Debt) : Nat → Cont
  | 0 => fun _ => none
  | k + 1 => (seenC D k).put (bkV (D.paid.getD k default).who (D.paid.getD k default).day) (.bool true)
theorem seen_y {D : Debt} {a b : Int} : ∀ {k : Nat}, (∃ j, j < k ∧ (D.paid.getD j default).who = a ∧ (D.paid.getD j default).day = b) → seenC D k (bkV a b) = some (.bool true)
  | 0, ⟨j, hj, _⟩ => by omega
  | k + 1, ⟨j, hj, h1, h2⟩ => by
    unfold seenC
    by_cases e : bkV a b = bkV (D.paid.getD k default).who (D.paid.getD k default).day
    · rw [e, Cont.put_eq]
    · rw [Cont.put_ne _ _ e]
      refine seen_y ⟨j, ?_, h1, h2⟩
      rcases Nat.lt_succ_iff_lt_or_eq.1 hj with h | rfl
      · exact h
      · exact absurd (by rw [h1, h2]) e
theorem seen_n {D : Debt} {a b : Int} : ∀ {k : Nat}, (¬ ∃ j, j < k ∧ (D.paid.getD j default).who = a ∧ (D.paid.getD j default).day = b) → seenC D k (bkV a b) = none
  | 0, _ => rfl
  | k + 1, h => by
    unfold seenC
    rw [Cont.put_ne _ _ (fun e => by
      obtain ⟨h1, h2⟩ := bkV_inj e
      exact h ⟨k, by omega, h1.symm, h2.symm⟩)]
    exact seen_n fun ⟨j, hj, h1, h2⟩ => h ⟨j, by omega, h1, h2⟩
theorem keyLaw98 : WideMaps.KeyLaw Tryd.prog 98 := deep_law_gate laid0 (by decide +kernel) (by decide +kernel) (by kernel_rfl) (by kernel_rfl)
theorem key98_of {a b : Int} (ha : -1000 ≤ a ∧ a ≤ 1000) (hb : -1000 ≤ b ∧ b ≤ 1000) : ∃ l, keyOf Tryd.prog 98 (bkV a b) = some l := by
  have h1 := Tryd.underlying98
  unfold keyOf
  rw [h1]
  have h2 : Tryd.prog.keyType 98 = true := by kernel_rfl
  have h3 : (bkV a b).formed Tryd.prog 98 = true := by kernel_rfl
  have c98 : Tryd.prog.cellsOf 98 = 2 := by kernel_rfl
  have c3 : Tryd.prog.cellsOf 3 = 1 := by kernel_rfl
  have kl3 : ∀ (s : Int), (-1000 ≤ s ∧ s ≤ 1000) → ∀ d, Tryd.prog.keyLits (d + 1) 3 [i64 s] = some [.int .i64 s] := fun s hs d => by
    have hw : (Lit.int .i64 s).wf = true := by
      have m1 : IntKind.i64.min = -9223372036854775808 := rfl
      have m2 : IntKind.i64.max = 9223372036854775807 := rfl
      simp only [Lit.wf]
      simp
      omega
    unfold Program.keyLits
    rw [Tryd.underlying3]
    simp [hw]
  have k1 := kl3 a ha
  have k2 := kl3 b hb
  have e98 : Tryd.prog.keyLits (Tryd.prog.types.size + 1) 98 (bkV a b).cells.toList = some [.int .i64 a, .int .i64 b] := by
    have hsz : Tryd.prog.types.size + 1 = 184 + 2 := by kernel_rfl
    rw [hsz]
    unfold Program.keyLits
    rw [Tryd.underlying98]
    simp [c98, c3, Value.cells, k1, k2]
  rw [e98, h2, h3]
  exact ⟨_, rfl⟩
set_option maxHeartbeats 4000000 in
theorem check28_x (hl1 : D.dues.length ≤ 40) (hl2 : D.paid.length ≤ 40) (hng : ¬ GoodD D) : FnV Tryd.prog 28 [valD D uo po uc pc] [rowD uo 5 encD D.dues, rowD po 4 encP D.paid, rowD (some ⟨0, 0, none⟩) 1 encE ([0, 1] : List Nat)] (.tuple #[i64 (checkB D).1.1, i64 (checkB D).1.2, i64 (checkB D).2]) := by
 refine FnV.introD Tryd.call28 Tryd.func28 rfl Tryd.ntmps28 rfl ?_
 intro W M Rf
 refine r_seq ?_
 refine r_region ?_
 refine o_boxA rfl rfl rfl rfl rfl (fun b1 => ?_)
 refine o_q _ rfl rfl rfl (v_assign rfl rfl) ?_
 refine o_q _ rfl rfl rfl (v_assign rfl rfl) ?_
 refine o_alloc rfl inf30 rfl rfl rfl rfl rfl (fun b4 => ?_)
 refine o_nil ?_
 with_reducible refine r_then ?_
 refine r_seq ?_
 refine r_region ?_
 refine o_defer rfl rfl rfl rfl ?_
 refine o_nil ?_
 with_reducible refine r_then ?_
 refine r_seq ?_
 refine r_region ?_
 refine o_q _ rfl rfl rfl (v_ldW rfl Tryd.underlying25 rfl inf25 rfl rfl) ?_
 refine o_fnx (look_x1 D uo po uc pc true hl1 hl2 hng) rfl rfl rfl SubRC.sub ?_
 with_reducible refine r_then_panic ?_
 exact d_panv answer_ans (Rd.three rfl (RdI.tmp rfl) (RdI.tmp rfl) (RdI.cell1 Tryd.underlying30 rfl rfl rfl)) (by rw [show checkB D = ((0, 0), 1) from if_neg hng]; try rfl) SelMC.sel SubRC.sub
theorem Imp.seen_0 {D : Debt} (sb : Nat) {W : World} {n : Nat} {Df : List Deferred} {L : Tm} {M M' : List Res} {R : List Fact} {X : Act → World → Prop} [hd : DelC M (mapG Tryd.prog 98 sb (fun _ => none)) M'] (h : Imp W n Df L (mapG Tryd.prog 98 sb (seenC D 0) :: M') R X) : Imp W n Df L M R X := fun a w h1 h2 h3 => h a w h1 h2 (h3.perm hd.del.perm)
theorem Imp.seen_s {D : Debt} {k : Nat} (sb : Nat) {W : World} {n : Nat} {Df : List Deferred} {L : Tm} {M M' : List Res} {R : List Fact} {X : Act → World → Prop} [hd : DelC M (mapG Tryd.prog 98 sb ((seenC D k).put (bkV (D.paid.getD k default).who (D.paid.getD k default).day) (.bool true))) M'] (h : Imp W n Df L (mapG Tryd.prog 98 sb (seenC D (k + 1)) :: M') R X) : Imp W n Df L M R X := fun a w h1 h2 h3 => h a w h1 h2 (h3.perm hd.del.perm)
set_option maxHeartbeats 4000000 in
theorem check28_ok (hl1 : D.dues.length ≤ 40) (hl2 : D.paid.length ≤ 40) (hg : GoodD D) : FnV Tryd.prog 28 [valD D uo po uc pc] [rowD uo 5 encD D.dues, rowD po 4 encP D.paid, rowD (some ⟨0, 0, none⟩) 1 encE ([0, 1] : List Nat)] (.tuple #[i64 (checkB D).1.1, i64 (checkB D).1.2, i64 (checkB D).2]) := by
  refine FnV.introD Tryd.call28 Tryd.func28 rfl Tryd.ntmps28 rfl ?_
  intro W M Rf
  refine r_seq ?_
  refine r_region ?_
  refine o_boxA rfl rfl rfl rfl rfl (fun b1 => ?_)
  refine o_q _ rfl rfl rfl (v_assign rfl rfl) ?_
  refine o_q _ rfl rfl rfl (v_assign rfl rfl) ?_
  refine o_alloc rfl inf30 rfl rfl rfl rfl rfl (fun b4 => ?_)
  refine o_nil ?_
  with_reducible refine r_then ?_
  refine r_seq ?_
  refine r_region ?_
  refine o_defer rfl rfl rfl rfl ?_
  refine o_nil ?_
  with_reducible refine r_then ?_
  refine r_seq ?_
  refine r_region ?_
  refine o_q _ rfl rfl rfl (v_ldW rfl Tryd.underlying25 rfl inf25 rfl rfl) ?_
  refine o_fnR (look_ok D uo po uc pc hl1 hl2 hg) rfl rfl rfl rfl rfl SubRC.sub (fun lb => ?_)
  refine o_q _ rfl rfl rfl (v_assign rfl rfl) ?_
  refine o_nil ?_
  with_reducible refine r_then ?_
  refine r_seq ?_
  refine opened D uo po uc pc lb (fun mb => ?_)
  refine r_region ?_
  refine o_makeMapG (P := Tryd.prog) (k := 98) rfl rfl rfl rfl (fun sb => ?_)
  refine o_q _ rfl rfl rfl (v_assign rfl rfl) ?_
  refine o_nil ?_
  with_reducible refine r_then ?_
  refine r_seq ?_
  refine r_seq ?_
  refine r_region ?_
  refine o_q _ rfl rfl rfl (v_fieldAddr rfl Tryd.underlying25 inf23 rfl rfl rfl rfl) ?_
  refine o_q _ rfl rfl rfl (v_ld1 rfl Tryd.underlying23 rfl rfl rfl) ?_
  refine o_q _ rfl rfl rfl (v_len rfl rfl Tryd.underlying23 rfl) ?_
  refine o_q _ rfl rfl rfl (v_move rfl rfl) ?_
  refine o_nil ?_
  with_reducible refine r_then ?_
  refine r_block ?_
  refine r_loop (ι := Nat × Cont) (fun gh => gh.1 ≤ D.paid.length ∧ firstR D gh.1 = none) (fun gh => [(1, pt b1 0), (2, i64 0), (3, i64 0), (4, pt b4 0), (5, pt lb 0), (6, .map (some sb)), (16, .slice po D.paid.length pc), (17, i64 D.paid.length), (18, i64 gh.1)]) (fun gh => mapG Tryd.prog 113 mb gh.2 :: mapG Tryd.prog 98 sb (seenC D (gh.1)) :: bx b4 30 [i64 0] :: M) (fun gh => entF D gh.2 :: boxF lb 108 [i64 D.people, .slice uo D.dues.length uc, .slice po D.paid.length pc, .map (some mb)] :: ([rowD uo 5 encD D.dues, rowD po 4 encP D.paid, rowD (some ⟨0, 0, none⟩) 1 encE ([0, 1] : List Nat)] ++ Rf)) (fun gh => D.paid.length - gh.1) (0, fun _ => none) ?_ ?_ ?_
  ·
    refine Imp.box_to b4 [i64 0] rfl ?_
    refine Imp.seen_0 (D := D) sb ?_
    exact r_here (by repeat (first | exact FSub.nil | refine FSub.cons rfl ?_)) SelMC.sel SubRC.sub
  ·
    exact ⟨Nat.zero_le _, rfl⟩
  ·
    rintro ⟨k, G⟩ hI0
    dsimp only at hI0
    dsimp only
    have hI : k ≤ D.paid.length := hI0.1
    have hfr : firstR D k = none := hI0.2
    refine r_seq ?_
    refine r_region ?_
    refine o_q _ rfl rfl rfl (v_lss rfl rfl rfl) ?_
    refine o_nil ?_
    with_reducible refine r_then ?_
    refine r_seq ?_
    refine r_condd rfl (fun hc19 => ?_) (fun hc19 => ?_)
    ·
      refine r_skip ?_
      with_reducible refine r_then ?_
      refine r_seq ?_
      refine r_block ?_
      refine r_seq ?_
      refine r_region ?_
      refine o_q _ rfl rfl rfl (v_move rfl rfl) ?_
      refine o_q _ rfl rfl rfl (v_indexAddrSn rfl Tryd.underlying23 inf54 rfl rfl rfl (by omega) rfl) ?_
      refine o_q _ rfl rfl rfl (v_loadEN (us := encP (D.paid.getD k default)) rfl Tryd.underlying54 rfl inf54 rfl (by omega) rfl rfl rfl) ?_
      refine o_alloc rfl inf54 rfl rfl rfl rfl rfl (fun b8 => ?_)
      refine o_q _ rfl rfl rfl (v_assign rfl rfl) ?_
      refine o_st rfl inf54 rfl rfl rfl rfl rfl rfl rfl rfl ?_
      refine o_nil ?_
      with_reducible refine r_then ?_
      refine r_seq ?_
      refine Imp.box_to b8 (encP (D.paid.getD k default)) rfl ?_
      have hok := hg.paid k (by omega)
      unfold PaidOk at hok
      have hq1 := hg.np
      obtain ⟨dk, hdk⟩ : ∃ n : Nat, (D.paid.getD k default).day = n := ⟨(D.paid.getD k default).day.toNat, by omega⟩
      obtain ⟨kl, hkl⟩ := key98_of (a := (D.paid.getD k default).who) (b := (D.paid.getD k default).day) (by omega) (by omega)
      refine r_region ?_
      refine o_q _ rfl rfl rfl (v_fieldAddr rfl Tryd.underlying54 inf3 rfl rfl rfl rfl) ?_
      refine o_q _ rfl rfl rfl (v_ld1 rfl Tryd.underlying3 rfl rfl rfl) ?_
      refine o_q _ rfl rfl rfl (v_fieldAddr rfl Tryd.underlying54 inf3 rfl rfl rfl rfl) ?_
      refine o_q _ rfl rfl rfl (v_ld1 rfl Tryd.underlying3 rfl rfl rfl) ?_
      refine o_q _ rfl rfl rfl (v_bS rfl Tryd.underlying98 inf98 plt98 rfl rfl rfl (by repeat (first | exact trivial | refine ⟨rfl, ?_⟩)) (by rfl)) ?_
      refine o_alloc rfl inf98 rfl rfl rfl rfl rfl (fun b9 => ?_)
      refine o_st rfl inf98 rfl rfl rfl rfl rfl rfl rfl rfl ?_
      refine o_nil ?_
      with_reducible refine r_then ?_
      refine r_seq ?_
      refine r_seq ?_
      obtain ⟨tw, hse, htw⟩ : ∃ r : Option Value, seenC D k (bkV (D.paid.getD k default).who (D.paid.getD k default).day) = r ∧ ((TwiceP D k ∧ r = some (.bool true)) ∨ (¬ TwiceP D k ∧ r = none)) := by
        by_cases h : TwiceP D k
        · exact ⟨_, seen_y h, .inl ⟨h, rfl⟩⟩
        · exact ⟨_, seen_n h, .inr ⟨h, rfl⟩⟩
      rcases htw with ⟨htw, rfl⟩ | ⟨htw, rfl⟩
      all_goals
      refine r_region ?_
      refine o_q _ rfl rfl rfl (v_move rfl rfl) ?_
      refine o_q _ rfl rfl rfl (v_ldW rfl Tryd.underlying98 rfl inf98 rfl rfl) ?_
      first | refine o_q _ rfl rfl rfl (v_cast (v := .bool true) (v_lookG (seenC D k) (some (.bool true)) keyLaw98 hkl rfl Tryd.underlying96 inf4 (z := .bool false) rfl hse rfl rfl) rfl) ?_ | refine o_q _ rfl rfl rfl (v_cast (v := .bool false) (v_lookG (seenC D k) none keyLaw98 hkl rfl Tryd.underlying96 inf4 (z := .bool false) rfl hse rfl rfl) rfl) ?_
      refine o_nil ?_
      with_reducible refine r_then ?_
      refine r_cond rfl (fun hc30 => ?_) (fun hc30 => ?_)
      ·
        first
        | (exfalso; revert hc30; decide)
        | skip
          refine r_seq ?_
          refine r_region ?_
          refine o_q _ rfl rfl rfl (v_move rfl rfl) ?_
          refine o_q _ rfl rfl rfl (v_assign rfl rfl) ?_
          refine o_q _ rfl rfl rfl (v_assign rfl rfl) ?_
          refine o_st rfl inf30 rfl rfl rfl rfl rfl rfl rfl rfl ?_
          refine o_nil ?_
          with_reducible refine r_then ?_
          refine r_ret ?_
          with_reducible refine r_then_ret ?_; refine r_in_ret ?_; refine r_then_ret ?_; refine r_then_ret ?_; refine r_in_ret ?_; refine r_then_ret ?_
          exact d_retv answer_ans (Rd.three rfl (RdI.tmp rfl) (RdI.tmp rfl) (RdI.cell1 Tryd.underlying30 rfl rfl rfl)) (by rw [check_hit hg hfr (by omega) (by rw [rule_1 (by assumption)]; decide), rule_1 (by assumption)]; try rfl) SelMC.sel SubRC.sub
      ·
        first
        | (exfalso; revert hc30; decide)
        | skip
          refine r_skip ?_
          with_reducible refine r_then ?_
          refine r_seq ?_
          refine r_region ?_
          refine o_q _ rfl rfl rfl (v_move rfl rfl) ?_
          refine o_q _ rfl rfl rfl (v_ldW rfl Tryd.underlying98 rfl inf98 rfl rfl) ?_
          refine o_mapUpdG (G := seenC D k) keyLaw98 hkl rfl Tryd.underlying96 rfl rfl rfl rfl rfl ?_
          refine o_nil ?_
          with_reducible refine r_then ?_
          refine r_seq ?_
          refine r_region ?_
          refine o_q _ rfl rfl rfl (v_move rfl rfl) ?_
          refine o_q _ rfl rfl rfl (v_fieldAddr rfl Tryd.underlying54 inf3 rfl rfl rfl rfl) ?_
          refine o_q _ rfl rfl rfl (v_ld1 rfl Tryd.underlying3 rfl rfl rfl) ?_
          refine o_q _ rfl rfl rfl (v_fieldAddr rfl Tryd.underlying54 inf3 rfl rfl rfl rfl) ?_
          refine o_q _ rfl rfl rfl (v_ld1 rfl Tryd.underlying3 rfl rfl rfl) ?_
          refine o_fnX (both_s D uo po uc pc lb mb G (D.paid.getD k default).who dk hg (by omega) (by omega)) rfl (by rw [hdk]; rfl) rfl rfl rfl SubRC.sub (fun x40 _ => ?_)
          refine o_q _ rfl rfl rfl (v_move rfl rfl) ?_
          refine o_q _ rfl rfl rfl (v_extract rfl rfl rfl) ?_
          refine o_q _ rfl rfl rfl (v_extract rfl rfl rfl) ?_
          refine o_alloc rfl inf77 rfl rfl rfl rfl rfl (fun b10 => ?_)
          refine o_alloc rfl inf77 rfl rfl rfl rfl rfl (fun b11 => ?_)
          refine o_st rfl inf77 rfl rfl rfl rfl rfl rfl rfl rfl ?_
          refine o_st rfl inf77 rfl rfl rfl rfl rfl rfl rfl rfl ?_
          refine o_nil ?_
          with_reducible refine r_then ?_
          refine r_seq ?_
          refine Imp.box_to b11 [.slice x40.2.2.1 (progA D 1 (D.paid.getD k default).who (dk + 1)).1.length x40.2.2.2, i64 (progA D 1 (D.paid.getD k default).who (dk + 1)).2] rfl ?_
          have hwa : worstA D k = (progA D 1 (D.paid.getD k default).who (dk + 1)).2 := by rw [worstA, hdk]; rfl
          refine r_region ?_
          refine o_q _ rfl rfl rfl (v_fieldAddr rfl Tryd.underlying77 inf75 rfl rfl rfl rfl) ?_
          refine o_q _ rfl rfl rfl (v_ld1 rfl Tryd.underlying75 rfl rfl rfl) ?_
          refine o_q _ rfl rfl rfl (v_gtr rfl rfl rfl) ?_
          refine o_nil ?_
          with_reducible refine r_then ?_
          refine r_condd rfl (fun hc45 => ?_) (fun hc45 => ?_)
          ·
            refine r_seq ?_
            refine r_region ?_
            refine o_q _ rfl rfl rfl (v_move rfl rfl) ?_
            refine o_q _ rfl rfl rfl (v_assign rfl rfl) ?_
            refine o_q _ rfl rfl rfl (v_assign rfl rfl) ?_
            refine o_st rfl inf30 rfl rfl rfl rfl rfl rfl rfl rfl ?_
            refine o_nil ?_
            with_reducible refine r_then ?_
            refine r_ret ?_
            with_reducible refine r_in_ret ?_; refine r_then_ret ?_; refine r_then_ret ?_; refine r_in_ret ?_; refine r_then_ret ?_
            exact d_retv answer_ans (Rd.three rfl (RdI.tmp rfl) (RdI.tmp rfl) (RdI.cell1 Tryd.underlying30 rfl rfl rfl)) (by rw [check_hit hg hfr (by omega) (by rw [rule_2 (by assumption) (by omega)]; decide), rule_2 (by assumption) (by omega)]; try rfl) SelMC.sel SubRC.sub
          ·
            refine r_skip ?_
            with_reducible refine r_in_normal ?_; refine r_then ?_
            refine r_region ?_
            refine o_q _ rfl rfl rfl (v_add rfl rfl rfl (by omega)) ?_
            refine o_q _ rfl rfl rfl (v_move rfl rfl) ?_
            refine o_nil ?_
            with_reducible refine r_then ?_
            exact r_next ((k + 1, x40.1)) (by refine Imp.seen_s (D := D) (k := k) sb ?_; exact r_here (by repeat (first | exact FSub.nil | refine FSub.cons rfl ?_)) SelMC.sel SubRC.sub) (by exact ⟨by omega, firstR_n hfr (rule_0 (by assumption) (by omega))⟩) (by (show D.paid.length - (k + 1) < D.paid.length - k; omega))
    ·
      refine r_exit ?_
      with_reducible refine r_then_exit ?_; refine r_then_exit ?_; refine r_in_here ?_; refine r_then ?_
      refine r_seq ?_
      refine r_region ?_
      refine o_q _ rfl rfl rfl (v_assign rfl rfl) ?_
      refine o_q _ rfl rfl rfl (v_assign rfl rfl) ?_
      refine o_st rfl inf30 rfl rfl rfl rfl rfl rfl rfl rfl ?_
      refine o_nil ?_
      with_reducible refine r_then ?_
      refine r_ret ?_
      exact d_retv answer_ans (Rd.three rfl (RdI.tmp rfl) (RdI.tmp rfl) (RdI.cell1 Tryd.underlying30 rfl rfl rfl)) (by rw [check_none hg (by rw [show D.paid.length = k by omega]; exact hfr)]; try rfl) SelMC.sel SubRC.sub
theorem check28_v (hl1 : D.dues.length ≤ 40) (hl2 : D.paid.length ≤ 40) : FnV Tryd.prog 28 [valD D uo po uc pc] [rowD uo 5 encD D.dues, rowD po 4 encP D.paid, rowD (some ⟨0, 0, none⟩) 1 encE ([0, 1] : List Nat)] (.tuple #[i64 (checkB D).1.1, i64 (checkB D).1.2, i64 (checkB D).2]) := by
  by_cases hg : GoodD D
  · exact check28_ok D uo po uc pc hl1 hl2 hg
  · exact check28_x D uo po uc pc hl1 hl2 hg
end Go.Proofs.YtpfgiednfjfdmaaDoor


namespace Go.G
variable {P : Program} {W : World} {n : Nat} {D : List Deferred} {L : Tm} {M : List Res} {R : List Fact} {Q : Exit → Act → World → Prop} {o : Oper} {Z : World → Prop}
theorem r_parPZ {id : Nat} {l0 l : List Oper} (σ : List Nat) (hpm : permB σ l0 = true) (hl0 : permL σ l0 = l) (Z : World → Prop) (hZ : ∀ X F w, St W (X ++ M) (F ++ R) w → Z w) (fl : List Nat) (m : Nat) (hml : Nat.ble m l.length = true) (hns : Region.noSelect l.toArray = true) (hbk : backB l = true) (htl : tailF fl (masks l []) m l.length = true) (hfs : freesB l fl = true)
    (hm : P.follows .mixedOrders = true) (hpb : parB ((floatL fl m l).take m) ((floatL fl m l).drop m) = true) (hfr : freshB L ((floatL fl m l).take m) = true)
    (h : ParO P W n M R (floatL fl m l).toArray (fun ss => FlZ Z P n L ((floatL fl m l).take m) ss fl ∧ preOf ss = [] ∧ lateX (floatL fl m l).toArray ss = true ∧ Fin W n D (wpListZ Z P (floatL fl m l).toArray (NoP Q) ((floatL fl m l).drop m)) ((floatL fl m l).take m) ss L M R) ((floatL fl m l).take m) [] L) : Imp W n D L M R ((Code.region id l0.toArray true).wp P Q) := by
  have hml : m ≤ l.length := by simpa using hml
  intro a w h1 h2 h3
  refine Code.wp_mono (Q := NoP Q) (fun e a' w' he => ?_) ?_
  · cases e with
    | normal => exact he
    | _ => exact he.elim
  refine wp_region_any hm ?_
  have hpk := permOK_of hpm
  have hsz : l0.length = l.length := by rw [← hl0, permL_len, hpk.len]
  rw [show l0.toArray.size = l.toArray.size by simpa using hsz]
  refine perm_any hpk _ _ (Array.replicate l.toArray.size false) _ _ ⟨by simp [hpk.len, hsz], by simp [hpk.len, hsz], fun k i hk d => ?_⟩ ?_
  · have h1 : k < l.length := by rw [← hsz, ← hpk.len]; exact (List.getElem?_eq_some_iff.1 hk).1
    have h2 : i < l.length := by rw [← hsz]; exact (hpk.inv k i hk).1
    simp [h1, h2]
  rw [hl0]
  obtain ⟨ss, hl, ⟨hsi, hpre, hlx, hfin⟩, hs⟩ := ParO.out ((floatL fl m l).take m) [] L h
  rw [List.nil_append] at hsi hpre hlx hfin
  have hLB : lateB (floatL fl m l).toArray ss 0 ss = true := by simp only [lateX, Bool.and_eq_true] at hlx; exact hlx.1
  have hlk : ∀ o ∈ (floatL fl m l).take m, look L (o.dst.getD 1000000) = none := fun o ho => by
    have := List.all_eq_true.1 hfr o ho
    simpa using this
  refine (floatZ_all hZ hml hpb hl hlk (lateOK_of hLB) (fun k s c e1 e2 => (lateX_ab hlx k s c e1 e2).elim) (fun k o s e1 e2 => by
    have := hs k o s e1 e2
    rw [List.nil_append, List.length_nil, Nat.zero_add] at this
    exact this) hfin hsi hns hbk htl hfs _ _ _ _ ⟨?_, ?_, ?_, h1, h2, fun _ => undef, ?_, ?_⟩ ?_).any
  · simp [floatL_len]
  · intro j o _ hj
    rw [rep_false] at hj; cases hj
  · intro t _ ht
    have : t < l.length := by simpa [floatL_len] using ht
    simp [this]
  · intro i o s e1 _ hj
    rw [rep_false] at hj; cases hj
  · have e1 : resOf ss (Array.replicate l.toArray.size false) (fun _ => undef) ((floatL fl m l).take m).length = [] := by
      rw [← hpre, ← preOf_range, hl]
      refine flatMap_same _ _ _ fun j hj => ?_
      rw [rep_false]; rfl
    have e2 : ∀ k, fctOf ss (Array.replicate l.toArray.size false) (fun _ => undef) k = [] := by
      intro k
      unfold fctOf
      induction k with
      | zero => rfl
      | succ k ih => rw [List.range_succ, List.flatMap_append, ih, List.nil_append, List.flatMap_cons, List.flatMap_nil, List.append_nil, rep_false]; rfl
    rw [e1, e2]
    exact h3.heap rfl rfl rfl rfl
  · have := unl_tail (N := l.length) (m := 0) (listed := Array.replicate l.length false) (fun i hi => by omega)
    simpa using this
theorem float_addZ {t u : TypeId} {x y : Operand} {b c : Int} (ho : o.op = .binOp .add t x y u) (hx : ev L x = some (.int .i64 b)) (hy : ev L y = some (.int .i64 c)) (h : -9223372036854775808 ≤ b + c ∧ b + c ≤ 9223372036854775807) : ∀ a, FSat n L a → ∀ w, Z w → (execOp a.eval o).run P w = .ok (.value (.int .i64 (b + c))) w := fun a h1 w _ => float_add ho hx hy h a h1 w
theorem float_shlU {t u : TypeId} {x y : Operand} {h m : Nat} (ho : o.op = .binOp .shl t x y u) (hx : ev L x = some (.int .u64 1)) (hy : ev L y = some (.int .i64 (h : Int))) (hh : h < 62) (hm : m = 2 ^ h) : ∀ a, FSat n L a → ∀ w, Z w → (execOp a.eval o).run P w = .ok (.value (.int .u64 (m : Int))) w := fun f h1 w _ => by
    have h2 : ¬ ((h : Int) < 0) := by omega
    have h3 : min h 64 = h := by omega
    have h4 : (2 : Nat) ^ h ≤ 2 ^ 61 := Nat.pow_le_pow_right (by omega) (by omega)
    have hw : IntKind.wrap .u64 (m : Int) = (m : Int) := u64_small (by rw [hm]; omega)
    have e : (1 : Int) * 2 ^ (min (h : Int).toNat IntKind.u64.bits) = (m : Int) := by
      rw [show (h : Int).toNat = h from by simp, show IntKind.u64.bits = 64 from rfl, h3, hm]
      simp
    have hs : (Op.shift .shl .u64 1 .i64 (h : Int)).run P w = .ok (.int .u64 (m : Int)) w := by
      unfold Op.shift
      rw [if_neg h2]
      simp only [e, hw, Sem.run_pure]
    have hb : (binOp .shl t (.int .u64 1) (.int .i64 (h : Int))).run P w = .ok (.int .u64 (m : Int)) w := hs
    simp [execOp, ho, h1.ev hx, h1.ev hy, eqGuard, hb]
theorem float_orU {t u : TypeId} {x y : Operand} {a b : Nat} (ho : o.op = .binOp .or t x y u) (hx : ev L x = some (.int .u64 (a : Int))) (hy : ev L y = some (.int .u64 (b : Int))) (ha : a < 2 ^ 62) (hb : b < 2 ^ 62) : ∀ f, FSat n L f → ∀ w, Z w → (execOp f.eval o).run P w = .ok (.value (.int .u64 ((a ||| b : Nat) : Int))) w := fun f h1 w _ => by
    have hlt : a ||| b < 2 ^ 62 := Nat.or_lt_two_pow ha hb
    have hw : IntKind.wrap .u64 ((a ||| b : Nat) : Int) = ((a ||| b : Nat) : Int) := u64_small (by omega)
    have hs : (Op.intBits .or .u64 (a : Int) (b : Int)).run P w = .ok (.int .u64 ((a ||| b : Nat) : Int)) w := by
      unfold Op.intBits
      have e1 : (BitVec.ofInt IntKind.u64.bits (a : Int) ||| BitVec.ofInt IntKind.u64.bits (b : Int)).toNat = a ||| b := by
        have h64 : IntKind.u64.bits = 64 := rfl
        rw [BitVec.toNat_or]
        simp only [BitVec.ofInt_natCast, BitVec.toNat_ofNat, h64]
        rw [Nat.mod_eq_of_lt (by omega), Nat.mod_eq_of_lt (by omega)]
      simp only [e1, hw, Sem.run_pure]
    have hb2 : (binOp .or t (.int .u64 (a : Int)) (.int .u64 (b : Int))).run P w = .ok (.int .u64 ((a ||| b : Nat) : Int)) w := hs
    simp [execOp, ho, h1.ev hx, h1.ev hy, eqGuard, hb2]
theorem v_orU {t u : TypeId} {x y : Operand} {a b : Nat} (ho : o.op = .binOp .or t x y u) (hx : ev L x = some (.int .u64 (a : Int))) (hy : ev L y = some (.int .u64 (b : Int))) (ha : a < 2 ^ 62) (hb : b < 2 ^ 62) : OpQ P W n L M R o (.int .u64 ((a ||| b : Nat) : Int)) :=
  OpQ.of_value fun f w h1 _ => float_orU (Z := fun _ => True) ho hx hy ha hb f h1 w trivial
/-- A call through a function's value, of one that takes a resource. -/
theorem o_fnXV {α : Type} {M1 : List Res} {ops : Array Oper} {rest : List Oper} {k : FuncId} {args : List Value} {R0 : List Fact} {r : Res} {g : α → Value} {Pp : α → Prop} {Mr : α → Res} {Rr : α → List Fact} {f : Operand} {xs : List Operand} {ts : Array TypeId} {vs : List Value} {d : Nat} [hM : DelC M r M1] (captured : List Value)
    (h : FnS P k args [r] R0 (fun e M' R' => ∃ x, e = .returned (g x) ∧ Pp x ∧ M' = [Mr x] ∧ R' = Rr x)) (ho : o.op = .call { callee := .value f, args := xs.toArray, argTypes := ts }) (hf : ev L f = some (.func (.func k) #[] captured.toArray))
    (hx : evs L xs = some vs) (ha : vs ++ captured = args) (hg : o.guard = none) (hdst : o.dst = some d) (hd : Nat.blt d n = true) (hs : SubR R R0)
    (hret : ∀ x, Pp x → Imp W n D ((d, g x) :: L) (Mr x :: M1) (Rr x ++ R) (wpList P ops Q rest)) : Imp W n D L M R (wpList P ops Q (o :: rest)) := by
  refine o_call h ho [] captured hf hx (by simpa using ha) hg (by simp [okD, hdst, hd]) (Mf := M1) ⟨[], by simpa using hM.del.perm⟩ hs ?_ ?_ ?_
  · rintro v M' R' ⟨x, he, hp, rfl, rfl⟩
    cases he
    rw [hdst]
    exact hret x hp
  · rintro c M' R' ⟨x, he, _⟩; cases he
  · rintro M' R' ⟨x, he, _⟩; cases he
/-- What is owned and is not empty lies in a box. -/
theorem Imp.unownB {α : Type} {enc : α → List Value} {sz : Nat} {T : TypeId} {xs : List α} {M' : List Res} {X : Act → World → Prop} (v : Value) [hd : HasOwn v M T sz enc xs M'] (hne : 0 < xs.length)
    (h : ∀ (b cap : Nat) (sp : List Value), v = .slice (some ⟨b, 0, none⟩) xs.length cap → Imp W n D L (bx b T (xs.flatMap enc ++ sp) :: M') R X) : Imp W n D L M R X := by
  intro a w h1 h2 h3
  have h4 : St W (ownL v T sz enc xs :: M') R w := h3.perm hd.del.perm
  obtain ⟨s, ⟨s1, s2, rfl, hs1, hM⟩, hO, hR⟩ := h4.mem
  obtain ⟨hl, ⟨_, e, _⟩ | ⟨b, cap, C, e, _, _, hC, ht, rfl⟩⟩ := hs1
  · omega
  · refine h b cap (C.toList.drop (xs.length * sz)) e a w h1 h2 ⟨h4.os, h4.tape, h4.output, [(b, .cells C T (0, 0))] ++ s2, ⟨_, s2, rfl, ?_, hM⟩, hO, hR⟩
    show [(b, Obj.cells C T (0, 0))] = [(b, Obj.cells (xs.flatMap enc ++ C.toList.drop (xs.length * sz)).toArray T (0, 0))]
    rw [← ht, List.take_append_drop]
end Go.G


namespace Go.Proofs.YtpfgiednfjfdmaaDoor
open Go.G Debt10
set_option maxRecDepth 1000000
attribute [local irreducible] G.ParO G.Fin
theorem v_shrK {P : Program} {W : World} {n : Nat} {L : Tm} {M : List Res} {R : List Fact} {o : Oper} {t u : TypeId} {x y : Operand} {a h : Nat} (r : Nat) (ho : o.op = .binOp .shr t x y u) (hx : ev L x = some (.int .u64 (a : Int))) (hy : ev L y = some (.int .u64 (h : Int))) (ha : a < 2 ^ 62) (hh : h < 62) (hr : a >>> h = r) : OpQ P W n L M R o (.int .u64 (r : Int)) :=
  OpQ.of_value fun f w h1 _ => by
    subst hr
    have hle : a >>> h ≤ a := Nat.shiftRight_le a h
    have hw : IntKind.wrap .u64 ((a >>> h : Nat) : Int) = ((a >>> h : Nat) : Int) := u64_small (by omega)
    have h2 : ¬ ((h : Int) < 0) := by omega
    have h3 : min h 64 = h := by omega
    have hs : (Op.shift .shr .u64 (a : Int) .u64 (h : Int)).run P w = .ok (.int .u64 ((a >>> h : Nat) : Int)) w := by
      unfold Op.shift
      rw [if_neg h2]
      have e : ((a : Int).fdiv (2 ^ (min (h : Int).toNat IntKind.u64.bits))) = ((a >>> h : Nat) : Int) := by
        rw [show (h : Int).toNat = h from by simp, show IntKind.u64.bits = 64 from rfl, h3, Nat.shiftRight_eq_div_pow, Int.fdiv_eq_ediv_of_nonneg _ (by exact Int.le_of_lt (Int.pow_pos (by decide)))]
        simp
      simp only [e, hw, Sem.run_pure]
    have hb : (binOp .shr t (.int .u64 (a : Int)) (.int .u64 (h : Int))).run P w = .ok (.int .u64 ((a >>> h : Nat) : Int)) w := hs
    simp [execOp, ho, h1.ev hx, h1.ev hy, eqGuard, hb]
theorem v_andK {P : Program} {W : World} {n : Nat} {L : Tm} {M : List Res} {R : List Fact} {o : Oper} {t u : TypeId} {x y : Operand} {a b : Nat} (r : Nat) (ho : o.op = .binOp .and t x y u) (hx : ev L x = some (.int .u64 (a : Int))) (hy : ev L y = some (.int .u64 (b : Int))) (ha : a < 2 ^ 62) (hb : b < 2 ^ 64) (hr : a &&& b = r) : OpQ P W n L M R o (.int .u64 (r : Int)) :=
  OpQ.of_value fun f w h1 _ => by
    subst hr
    have hlt : a &&& b ≤ a := Nat.and_le_left
    have hw : IntKind.wrap .u64 ((a &&& b : Nat) : Int) = ((a &&& b : Nat) : Int) := u64_small (by omega)
    have hs : (Op.intBits .and .u64 (a : Int) (b : Int)).run P w = .ok (.int .u64 ((a &&& b : Nat) : Int)) w := by
      unfold Op.intBits
      have e1 : (BitVec.ofInt IntKind.u64.bits (a : Int) &&& BitVec.ofInt IntKind.u64.bits (b : Int)).toNat = a &&& b := by
        have h64 : IntKind.u64.bits = 64 := rfl
        rw [BitVec.toNat_and]
        simp only [BitVec.ofInt_natCast, BitVec.toNat_ofNat, h64]
        rw [Nat.mod_eq_of_lt (by omega), Nat.mod_eq_of_lt (by omega)]
      simp only [e1, hw, Sem.run_pure]
    have hb2 : (binOp .and t (.int .u64 (a : Int)) (.int .u64 (b : Int))).run P w = .ok (.int .u64 ((a &&& b : Nat) : Int)) w := hs
    simp [execOp, ho, h1.ev hx, h1.ev hy, eqGuard, hb2]
theorem v_addK {P : Program} {W : World} {n : Nat} {L : Tm} {M : List Res} {R : List Fact} {o : Oper} {t u : TypeId} {x y : Operand} {a b : Nat} (r : Nat) (ho : o.op = .binOp .add t x y u) (hx : ev L x = some (.int .u64 (a : Int))) (hy : ev L y = some (.int .u64 (b : Int))) (hb : a + b < 2 ^ 62) (hr : a + b = r) : OpQ P W n L M R o (.int .u64 (r : Int)) :=
  v_cast (v_addU ho hx hy (by omega)) (by rw [← hr]; simp)
/-- The steps of OnesCount64. -/
def oc1 (m : Nat) : Nat := (m >>> 1 &&& 6148914691236517205) + (m &&& 6148914691236517205)
def oc2 (m : Nat) : Nat := (oc1 m >>> 2 &&& 3689348814741910323) + (oc1 m &&& 3689348814741910323)
def oc3 (m : Nat) : Nat := (oc2 m >>> 4 + oc2 m) &&& 1085102592571150095
def oc4 (m : Nat) : Nat := oc3 m + oc3 m >>> 8
def oc5 (m : Nat) : Nat := oc4 m + oc4 m >>> 16
def oc6 (m : Nat) : Nat := oc5 m + oc5 m >>> 32
def pop (m : Nat) : Nat := oc6 m &&& 127
theorem pop_bd : ∀ m, m < 64 → oc1 m < 1000 ∧ oc2 m < 1000 ∧ oc3 m < 1000 ∧ oc4 m < 1000 ∧ oc5 m < 1000 ∧ oc6 m < 1000 := by decide +kernel
set_option maxHeartbeats 4000000 in
theorem ones64_v (m : Nat) (hm : m < 64) : FnV Tryd.prog 79 [u64 m] [] (i64 (pop m)) := by
 have hp := pop_bd m hm
 refine FnV.intro Tryd.call79 Tryd.func79 rfl Tryd.ntmps79 rfl ?_
 intro W M Rf
 refine r_seq ?_
 refine r_region ?_
 refine o_q _ rfl rfl rfl (v_assign rfl rfl) ?_
 refine o_nil ?_
 with_reducible refine r_then ?_
 refine r_seq ?_
 refine r_region ?_
 refine o_q _ rfl rfl rfl (v_move rfl rfl) ?_
 refine o_q _ rfl rfl rfl (v_shrK (m >>> 1) rfl rfl rfl (by omega) (by decide) rfl) ?_
 refine o_q _ rfl rfl rfl (v_andK (m >>> 1 &&& 6148914691236517205) rfl rfl rfl (by first | omega | exact Nat.lt_of_le_of_lt (Nat.shiftRight_le _ _) (by omega)) (by decide) rfl) ?_
 refine o_q _ rfl rfl rfl (v_move rfl rfl) ?_
 refine o_q _ rfl rfl rfl (v_andK (m &&& 6148914691236517205) rfl rfl rfl (by first | omega | exact Nat.lt_of_le_of_lt (Nat.shiftRight_le _ _) (by omega)) (by decide) rfl) ?_
 refine o_q _ rfl rfl rfl (v_addK (oc1 m) rfl rfl rfl (by first | omega | exact Nat.lt_of_le_of_lt (Nat.add_le_add (Nat.le_trans Nat.and_le_left (Nat.shiftRight_le _ _)) Nat.and_le_left) (by omega) | exact Nat.lt_of_le_of_lt (Nat.add_le_add (Nat.shiftRight_le _ _) (Nat.le_refl _)) (by omega) | exact Nat.lt_of_le_of_lt (Nat.add_le_add (Nat.le_refl _) (Nat.shiftRight_le _ _)) (by omega)) rfl) ?_
 refine o_q _ rfl rfl rfl (v_assign rfl rfl) ?_
 refine o_nil ?_
 with_reducible refine r_then ?_
 refine r_seq ?_
 refine r_region ?_
 refine o_q _ rfl rfl rfl (v_move rfl rfl) ?_
 refine o_q _ rfl rfl rfl (v_shrK (oc1 m >>> 2) rfl rfl rfl (by omega) (by decide) rfl) ?_
 refine o_q _ rfl rfl rfl (v_andK (oc1 m >>> 2 &&& 3689348814741910323) rfl rfl rfl (by first | omega | exact Nat.lt_of_le_of_lt (Nat.shiftRight_le _ _) (by omega)) (by decide) rfl) ?_
 refine o_q _ rfl rfl rfl (v_move rfl rfl) ?_
 refine o_q _ rfl rfl rfl (v_andK (oc1 m &&& 3689348814741910323) rfl rfl rfl (by first | omega | exact Nat.lt_of_le_of_lt (Nat.shiftRight_le _ _) (by omega)) (by decide) rfl) ?_
 refine o_q _ rfl rfl rfl (v_addK (oc2 m) rfl rfl rfl (by first | omega | exact Nat.lt_of_le_of_lt (Nat.add_le_add (Nat.le_trans Nat.and_le_left (Nat.shiftRight_le _ _)) Nat.and_le_left) (by omega) | exact Nat.lt_of_le_of_lt (Nat.add_le_add (Nat.shiftRight_le _ _) (Nat.le_refl _)) (by omega) | exact Nat.lt_of_le_of_lt (Nat.add_le_add (Nat.le_refl _) (Nat.shiftRight_le _ _)) (by omega)) rfl) ?_
 refine o_q _ rfl rfl rfl (v_assign rfl rfl) ?_
 refine o_nil ?_
 with_reducible refine r_then ?_
 refine r_seq ?_
 refine r_region ?_
 refine o_q _ rfl rfl rfl (v_move rfl rfl) ?_
 refine o_q _ rfl rfl rfl (v_shrK (oc2 m >>> 4) rfl rfl rfl (by omega) (by decide) rfl) ?_
 refine o_q _ rfl rfl rfl (v_move rfl rfl) ?_
 refine o_q _ rfl rfl rfl (v_addK (oc2 m >>> 4 + oc2 m) rfl rfl rfl (by first | omega | exact Nat.lt_of_le_of_lt (Nat.add_le_add (Nat.le_trans Nat.and_le_left (Nat.shiftRight_le _ _)) Nat.and_le_left) (by omega) | exact Nat.lt_of_le_of_lt (Nat.add_le_add (Nat.shiftRight_le _ _) (Nat.le_refl _)) (by omega) | exact Nat.lt_of_le_of_lt (Nat.add_le_add (Nat.le_refl _) (Nat.shiftRight_le _ _)) (by omega)) rfl) ?_
 refine o_q _ rfl rfl rfl (v_andK (oc3 m) rfl rfl rfl (by first | omega | exact Nat.lt_of_le_of_lt (Nat.add_le_add (Nat.le_trans Nat.and_le_left (Nat.shiftRight_le _ _)) Nat.and_le_left) (by omega) | exact Nat.lt_of_le_of_lt (Nat.add_le_add (Nat.shiftRight_le _ _) (Nat.le_refl _)) (by omega) | exact Nat.lt_of_le_of_lt (Nat.add_le_add (Nat.le_refl _) (Nat.shiftRight_le _ _)) (by omega)) (by decide) rfl) ?_
 refine o_q _ rfl rfl rfl (v_assign rfl rfl) ?_
 refine o_nil ?_
 with_reducible refine r_then ?_
 refine r_seq ?_
 refine r_region ?_
 refine o_q _ rfl rfl rfl (v_move rfl rfl) ?_
 refine o_q _ rfl rfl rfl (v_move rfl rfl) ?_
 refine o_q _ rfl rfl rfl (v_shrK (oc3 m >>> 8) rfl rfl rfl (by omega) (by decide) rfl) ?_
 refine o_q _ rfl rfl rfl (v_addK (oc4 m) rfl rfl rfl (by first | omega | exact Nat.lt_of_le_of_lt (Nat.add_le_add (Nat.le_trans Nat.and_le_left (Nat.shiftRight_le _ _)) Nat.and_le_left) (by omega) | exact Nat.lt_of_le_of_lt (Nat.add_le_add (Nat.shiftRight_le _ _) (Nat.le_refl _)) (by omega) | exact Nat.lt_of_le_of_lt (Nat.add_le_add (Nat.le_refl _) (Nat.shiftRight_le _ _)) (by omega)) rfl) ?_
 refine o_q _ rfl rfl rfl (v_assign rfl rfl) ?_
 refine o_nil ?_
 with_reducible refine r_then ?_
 refine r_seq ?_
 refine r_region ?_
 refine o_q _ rfl rfl rfl (v_move rfl rfl) ?_
 refine o_q _ rfl rfl rfl (v_move rfl rfl) ?_
 refine o_q _ rfl rfl rfl (v_shrK (oc4 m >>> 16) rfl rfl rfl (by omega) (by decide) rfl) ?_
 refine o_q _ rfl rfl rfl (v_addK (oc5 m) rfl rfl rfl (by first | omega | exact Nat.lt_of_le_of_lt (Nat.add_le_add (Nat.le_trans Nat.and_le_left (Nat.shiftRight_le _ _)) Nat.and_le_left) (by omega) | exact Nat.lt_of_le_of_lt (Nat.add_le_add (Nat.shiftRight_le _ _) (Nat.le_refl _)) (by omega) | exact Nat.lt_of_le_of_lt (Nat.add_le_add (Nat.le_refl _) (Nat.shiftRight_le _ _)) (by omega)) rfl) ?_
 refine o_q _ rfl rfl rfl (v_assign rfl rfl) ?_
 refine o_nil ?_
 with_reducible refine r_then ?_
 refine r_seq ?_
 refine r_region ?_
 refine o_q _ rfl rfl rfl (v_move rfl rfl) ?_
 refine o_q _ rfl rfl rfl (v_move rfl rfl) ?_
 refine o_q _ rfl rfl rfl (v_shrK (oc5 m >>> 32) rfl rfl rfl (by omega) (by decide) rfl) ?_
 refine o_q _ rfl rfl rfl (v_addK (oc6 m) rfl rfl rfl (by first | omega | exact Nat.lt_of_le_of_lt (Nat.add_le_add (Nat.le_trans Nat.and_le_left (Nat.shiftRight_le _ _)) Nat.and_le_left) (by omega) | exact Nat.lt_of_le_of_lt (Nat.add_le_add (Nat.shiftRight_le _ _) (Nat.le_refl _)) (by omega) | exact Nat.lt_of_le_of_lt (Nat.add_le_add (Nat.le_refl _) (Nat.shiftRight_le _ _)) (by omega)) rfl) ?_
 refine o_q _ rfl rfl rfl (v_assign rfl rfl) ?_
 refine o_nil ?_
 with_reducible refine r_then ?_
 refine r_seq ?_
 refine r_region ?_
 refine o_q _ rfl rfl rfl (v_move rfl rfl) ?_
 refine o_q _ rfl rfl rfl (v_conv rfl Tryd.underlying121 Tryd.underlying3 rfl (IntWalk.i64_in _ (by omega))) ?_
 refine o_q _ rfl rfl rfl (v_andn (a := oc6 m) (b := 127) rfl rfl rfl (by omega) (by decide)) ?_
 refine o_q _ rfl rfl rfl (v_assign rfl rfl) ?_
 refine o_nil ?_
 with_reducible refine r_then ?_
 refine r_ret ?_
 exact r_retv2 (Rd.tmp rfl rfl) rfl SelMC.sel SubRC.sub
set_option maxHeartbeats 4000000 in
theorem ones_v (m : Nat) (hm : m < 64) : FnV Tryd.prog 63 [u64 m] [] (i64 (pop m)) := by
 refine FnV.intro Tryd.call63 Tryd.func63 rfl Tryd.ntmps63 rfl ?_
 intro W M Rf
 refine r_seq ?_
 refine r_region ?_
 refine o_q _ rfl rfl rfl (v_assign rfl rfl) ?_
 refine o_nil ?_
 with_reducible refine r_then ?_
 refine r_seq ?_
 refine r_cond rfl (fun hcconst_false_ => ?_) (fun hcconst_false_ => ?_)
 ·
  (exfalso; revert hcconst_false_; decide)
 ·
  refine r_skip ?_
  with_reducible refine r_then ?_
  refine r_seq ?_
  refine r_region ?_
  refine o_q _ rfl rfl rfl (v_move rfl rfl) ?_
  refine o_q _ rfl rfl rfl (OpQ.fn (ones64_v m hm) rfl rfl SubRC.sub) ?_
  refine o_q _ rfl rfl rfl (v_assign rfl rfl) ?_
  refine o_nil ?_
  with_reducible refine r_then ?_
  refine r_ret ?_
  exact r_retv2 (Rd.tmp rfl rfl) rfl SelMC.sel SubRC.sub
set_option maxHeartbeats 4000000 in
theorem most2_v (a b : Nat) (ha : a < 64) (hb : b < 64) : FnV Tryd.prog 62 [u64 a, u64 b] [] (.bool (decide ((pop a : Int) > (pop b : Int)))) := by
 refine FnV.intro Tryd.call62 Tryd.func62 rfl Tryd.ntmps62 rfl ?_
 intro W M Rf
 refine r_seq ?_
 refine r_region ?_
 refine o_q _ rfl rfl rfl (v_assign rfl rfl) ?_
 refine o_nil ?_
 with_reducible refine r_then ?_
 refine r_seq ?_
 refine r_region ?_
 refine o_q _ rfl rfl rfl (v_move rfl rfl) ?_
 refine o_q _ rfl rfl rfl (OpQ.fn (ones_v a ha) rfl rfl SubRC.sub) ?_
 refine o_q _ rfl rfl rfl (v_move rfl rfl) ?_
 refine o_q _ rfl rfl rfl (OpQ.fn (ones_v b hb) rfl rfl SubRC.sub) ?_
 refine o_q _ rfl rfl rfl (v_gtr rfl rfl rfl) ?_
 refine o_q _ rfl rfl rfl (v_assign rfl rfl) ?_
 refine o_nil ?_
 with_reducible refine r_then ?_
 refine r_ret ?_
 exact r_retv2 (Rd.tmp rfl rfl) rfl SelMC.sel SubRC.sub
set_option maxHeartbeats 4000000 in
theorem isNaNU_v (a : Nat) : FnV Tryd.prog 111 [u64 a] [] (.bool false) := by
 refine FnV.intro Tryd.call111 Tryd.func111 rfl Tryd.ntmps111 rfl ?_
 intro W M Rf
 refine r_seq ?_
 refine r_region ?_
 refine o_q _ rfl rfl rfl (v_assign rfl rfl) ?_
 refine o_nil ?_
 with_reducible refine r_then ?_
 refine r_seq ?_
 refine r_region ?_
 refine o_q _ rfl rfl rfl (v_move rfl rfl) ?_
 refine o_q _ rfl rfl rfl (v_move rfl rfl) ?_
 refine o_q _ rfl rfl rfl (v_neq rfl rfl rfl) ?_
 refine o_q _ rfl rfl rfl (v_assign rfl rfl) ?_
 refine o_nil ?_
 with_reducible refine r_then ?_
 refine r_ret ?_
 exact r_retv2 (Rd.tmp rfl rfl) (congrArg Value.bool (decide_eq_false (by omega))) SelMC.sel SubRC.sub
set_option maxHeartbeats 4000000 in
theorem lessU_v (a b : Nat) : FnV Tryd.prog 93 [u64 a, u64 b] [] (.bool (decide ((a : Int) < (b : Int)))) := by
 refine FnV.intro Tryd.call93 Tryd.func93 rfl Tryd.ntmps93 rfl ?_
 intro W M Rf
 refine r_seq ?_
 refine r_region ?_
 refine o_q _ rfl rfl rfl (v_assign rfl rfl) ?_
 refine o_nil ?_
 with_reducible refine r_then ?_
 refine r_seq ?_
 refine r_region ?_
 refine o_q _ rfl rfl rfl (v_move rfl rfl) ?_
 refine o_q _ rfl rfl rfl (OpQ.fn (isNaNU_v _) rfl rfl SubRC.sub) ?_
 refine o_q _ rfl rfl rfl (v_move rfl rfl) ?_
 refine o_gn rfl rfl rfl rfl ?_
 refine o_gn rfl rfl rfl rfl ?_
 refine o_gn rfl rfl rfl rfl ?_
 refine o_q _ rfl rfl rfl (v_pick_f rfl rfl rfl) ?_
 refine o_q _ rfl rfl rfl (v_move rfl rfl) ?_
 refine o_g _ rfl rfl rfl rfl (v_move rfl rfl) ?_
 refine o_g _ rfl rfl rfl rfl (v_move rfl rfl) ?_
 refine o_g _ rfl rfl rfl rfl (v_lss rfl rfl rfl) ?_
 refine o_q _ rfl rfl rfl (v_pick_f rfl rfl rfl) ?_
 refine o_q _ rfl rfl rfl (v_assign rfl rfl) ?_
 refine o_nil ?_
 with_reducible refine r_then ?_
 refine r_ret ?_
 exact r_retv2 (Rd.tmp rfl rfl) rfl SelMC.sel SubRC.sub
def encU (x : Nat) : List Value := [u64 x]
theorem encU_len (x : Nat) : (encU x).length = 1 := rfl
def swapU (l : List Nat) (j : Nat) : List Nat := (l.set (j + 1) (l.getD j default)).set j (l.getD (j + 1) default)
theorem swapU_len (l : List Nat) (j : Nat) : (swapU l j).length = l.length := by simp [swapU]
/-- An entry sinks as far as a. -/
def sinkA (a : Nat) : Nat → List Nat → List Nat
  | 0, l => l
  | j + 1, l => if a < j + 1 ∧ l.getD (j + 1) default < l.getD j default then sinkA a j (swapU l j) else l
theorem sinkA_y {a j : Nat} {l : List Nat} (h : a < j + 1) (h2 : l.getD (j + 1) default < l.getD j default) : sinkA a (j + 1) l = sinkA a j (swapU l j) := if_pos ⟨h, h2⟩
theorem sinkA_n {a j : Nat} {l : List Nat} (h : ¬ (a < j ∧ l.getD j default < l.getD (j - 1) default)) : sinkA a j l = l := by
  cases j with
  | zero => rfl
  | succ j => exact if_neg h
theorem sinkA_len (a : Nat) : ∀ (j : Nat) (l : List Nat), (sinkA a j l).length = l.length
  | 0, _ => rfl
  | j + 1, l => by
    unfold sinkA
    split
    · rw [sinkA_len, swapU_len]
    · rfl
def insA (a : Nat) (l : List Nat) : Nat → List Nat
  | 0 => l
  | k + 1 => sinkA a (a + 1 + k) (insA a l k)
theorem insA_len (a : Nat) (l : List Nat) : ∀ k, (insA a l k).length = l.length
  | 0 => rfl
  | k + 1 => by unfold insA; rw [sinkA_len, insA_len a l k]
theorem boxU_get {c : List Nat} {sp : List Value} {j : Nat} (h : j < c.length) : (c.flatMap encU ++ sp)[j * 1]? = some (u64 (c.getD j default)) := by
  have h1 := flat_get (sp := sp) encU_len (xs := c) h (show 0 < 1 by decide)
  exact h1
theorem boxU_set {c : List Nat} {sp : List Value} {j x : Nat} (h : j < c.length) : splice (c.flatMap encU ++ sp) (j * 1) [u64 x] = (c.set j x).flatMap encU ++ sp := flat_set (y := x) encU_len c j 0 h (by decide) rfl
theorem boxU_ble {c : List Nat} {sp : List Value} {j : Nat} (h : j < c.length) : Nat.ble (j * 1 + 1) (c.flatMap encU ++ sp).length = true := by
  refine Nat.ble_eq_true_of_le ?_
  rw [List.length_append, flat_len encU_len]; omega
theorem float_sub {P : Program} {n : Nat} {L : Tm} {o : Oper} {t u : TypeId} {x y : Operand} {b c e : Int} (ho : o.op = .binOp .sub t x y u) (hx : ev L x = some (.int .i64 b)) (hy : ev L y = some (.int .i64 c)) (h : -9223372036854775808 ≤ b - c ∧ b - c ≤ 9223372036854775807) (he : b - c = e) : ∀ a, FSat n L a → ∀ w, (execOp a.eval o).run P w = .ok (.value (.int .i64 e)) w := fun f h1 w => by
  subst he
  have hw : IntKind.wrap .i64 (b - c) = b - c := IntWalk.i64_in _ h
  simp [execOp, ho, h1.ev hx, h1.ev hy, eqGuard, binOp, Op.intArith, hw]
set_option maxHeartbeats 4000000 in
theorem insertU_s (l : List Nat) (hl : l.length ≤ 1000) (bb cap : Nat) (sp : List Value) (a b : Nat) (hab : a ≤ b) (hb : b ≤ l.length) : FnC Tryd.prog 87 [.slice (some ⟨bb, 0, none⟩) l.length cap, i64 (a : Int), i64 (b : Int)] (bx bb 89 ((l).flatMap encU ++ sp)) [] (.tuple #[]) (bx bb 89 ((insA a l (b - a - 1)).flatMap encU ++ sp)) := by
 refine FnC.intro Tryd.call87 Tryd.func87 rfl Tryd.ntmps87 rfl ?_
 intro W M Rf
 refine r_seq ?_
 refine r_region ?_
 refine o_q _ rfl rfl rfl (v_move rfl rfl) ?_
 refine o_q _ rfl rfl rfl (v_add rfl rfl rfl (by omega)) ?_
 refine o_q _ rfl rfl rfl (v_assign rfl rfl) ?_
 refine o_nil ?_
 with_reducible refine r_then ?_
 refine r_block ?_
 refine r_loop (ι := Nat) (fun k => a + k + 1 ≤ b ∨ k = 0) (fun k => [(0, .slice (some ⟨bb, 0, none⟩) l.length cap), (1, i64 (a : Int)), (2, i64 (b : Int)), (6, i64 ((a + 1 + k : Nat) : Int))]) (fun k => bx bb 89 ((insA a l k).flatMap encU ++ sp) :: M) (fun k => Rf) (fun k => b + 1 - k) 0 ?_ ?_ ?_
 ·
  refine Imp.box_to bb ((insA a l 0).flatMap encU ++ sp) rfl ?_
  exact r_here (by repeat (first | exact FSub.nil | refine FSub.cons rfl ?_ | refine FSub.cons2 rfl (congrArg (Value.int .i64) (by omega)) ?_)) SelMC.sel SubRC.sub
 ·
  omega
 ·
  rintro k hI0
  have hkl := insA_len a l k
  refine r_seq ?_
  refine r_seq ?_
  refine r_region ?_
  refine o_q _ rfl rfl rfl (v_move rfl rfl) ?_
  refine o_q _ rfl rfl rfl (v_move rfl rfl) ?_
  refine o_q _ rfl rfl rfl (v_lss rfl rfl rfl) ?_
  refine o_nil ?_
  with_reducible refine r_then ?_
  refine r_condd rfl (fun hc12 => ?_) (fun hc12 => ?_)
  ·
   refine r_skip ?_
   with_reducible refine r_then ?_
   refine r_seq ?_
   refine r_block ?_
   refine r_seq ?_
   refine r_region ?_
   refine o_q _ rfl rfl rfl (v_move rfl rfl) ?_
   refine o_q _ rfl rfl rfl (v_assign rfl rfl) ?_
   refine o_nil ?_
   with_reducible refine r_then ?_
   refine r_block ?_
   refine r_loop (ι := Nat × List Nat) (fun gh => a ≤ gh.1 ∧ gh.1 ≤ a + 1 + k ∧ gh.2.length = l.length ∧ sinkA a gh.1 gh.2 = insA a l (k + 1)) (fun gh => [(0, .slice (some ⟨bb, 0, none⟩) l.length cap), (1, i64 (a : Int)), (2, i64 (b : Int)), (6, i64 ((a + 1 + k : Nat) : Int)), (7, i64 (gh.1 : Int))]) (fun gh => bx bb 89 (gh.2.flatMap encU ++ sp) :: M) (fun gh => Rf) (fun gh => gh.1) (a + 1 + k, insA a l k) ?_ ?_ ?_
   ·
    exact r_here (by repeat (first | exact FSub.nil | refine FSub.cons rfl ?_ | refine FSub.cons2 rfl (congrArg (Value.int .i64) (by omega)) ?_)) SelMC.sel SubRC.sub
   ·
    exact ⟨by omega, Nat.le_refl _, hkl, rfl⟩
   ·
    rintro ⟨j, c⟩ hI1
    dsimp only at hI1
    dsimp only
    obtain ⟨hj1, hj2, hj3, hj4⟩ := hI1
    refine r_seq ?_
    refine r_seq ?_
    refine r_region_q mixed (by kernel_rfl) ?_
    refine q_q _ rfl rfl rfl (v_move rfl rfl) ?_
    refine q_q _ rfl rfl rfl (v_move rfl rfl) ?_
    refine q_test rfl rfl rfl (v_gtr rfl rfl rfl) (fun h18 => ?_) (fun h18 => ?_)
    all_goals
     refine q_q _ rfl rfl rfl (v_move rfl rfl) ?_
     first | refine q_gn rfl rfl rfl rfl ?_ | refine q_g _ rfl rfl rfl rfl (v_move rfl rfl) ?_
     first | refine q_gn rfl rfl rfl rfl ?_ | refine q_g _ rfl rfl rfl rfl (v_move rfl rfl) ?_
     first | refine q_gn rfl rfl rfl rfl ?_ | refine q_g _ rfl rfl rfl rfl (v_indexAddrB rfl Tryd.underlying87 inf89 rfl rfl (by omega)) ?_
     first | refine q_gn rfl rfl rfl rfl ?_ | refine q_g _ rfl rfl rfl rfl (v_ld1 (v := u64 (c.getD j default)) rfl Tryd.underlying89 rfl rfl (boxU_get (by omega))) ?_
     first | refine q_gn rfl rfl rfl rfl ?_ | refine q_g _ rfl rfl rfl rfl (v_move rfl rfl) ?_
     first | refine q_gn rfl rfl rfl rfl ?_ | refine q_g _ rfl rfl rfl rfl (v_move rfl rfl) ?_
     first | refine q_gn rfl rfl rfl rfl ?_ | refine q_g _ rfl rfl rfl rfl (v_cast (v := i64 ((j - 1 : Nat) : Int)) (v_sub rfl rfl rfl (by omega)) (congrArg (Value.int .i64) (by omega))) ?_
     first | refine q_gn rfl rfl rfl rfl ?_ | refine q_g _ rfl rfl rfl rfl (v_indexAddrB rfl Tryd.underlying87 inf89 rfl rfl (by omega)) ?_
     first | refine q_gn rfl rfl rfl rfl ?_ | refine q_g _ rfl rfl rfl rfl (v_ld1 (v := u64 (c.getD (j - 1) default)) rfl Tryd.underlying89 rfl rfl (boxU_get (by omega))) ?_
     first | refine q_gn rfl rfl rfl rfl ?_ | refine q_gtest rfl rfl rfl rfl (OpQ.fn (lessU_v (c.getD j default) (c.getD (j - 1) default)) rfl rfl SubRC.sub) (fun h29 => ?_) (fun h29 => ?_)
     all_goals
      first | refine q_q _ rfl rfl rfl (v_pick_t rfl rfl rfl) ?_ | refine q_q _ rfl rfl rfl (v_pick_f rfl rfl rfl) ?_
      refine q_nil ?_
      with_reducible refine r_then ?_
      refine r_cond rfl (fun hc30 => ?_) (fun hc30 => ?_)
      ·
       first
       | (exfalso; revert hc30; decide)
       |
        skip
        refine r_skip ?_
        with_reducible refine r_then ?_
        refine r_seq ?_
        refine r_block ?_
        obtain ⟨i1, rfl⟩ : ∃ i1, j = i1 + 1 := ⟨j - 1, by omega⟩
        have hsw := swapU_len c i1
        have hcd : c.getD (i1 + 1 - 1) default = c.getD i1 default := rfl
        refine r_parF [2, 3, 4] 14 (by kernel_rfl) (by kernel_rfl) (by kernel_rfl) (by kernel_rfl) (by kernel_rfl) mixed (by kernel_rfl) (by rfl) ?_
        refine p_q _ rfl rfl rfl (fun _ _ => v_move rfl rfl) ?_
        refine p_q _ rfl rfl rfl (fun _ _ => v_move rfl rfl) ?_
        refine p_q _ rfl rfl rfl (fun _ _ => v_move rfl rfl) ?_
        refine p_q _ rfl rfl rfl (fun _ _ => v_move rfl rfl) ?_
        refine p_q _ rfl rfl rfl (fun _ _ => v_cast (v := i64 ((i1 : Nat) : Int)) (v_sub rfl rfl rfl (by omega)) (congrArg (Value.int .i64) (by omega))) ?_
        refine p_q _ rfl rfl rfl (fun _ _ => v_move rfl rfl) ?_
        refine p_q _ rfl rfl rfl (fun _ _ => v_move rfl rfl) ?_
        refine p_q _ rfl rfl rfl (fun _ _ => v_cast (v := i64 ((i1 : Nat) : Int)) (v_sub rfl rfl rfl (by omega)) (congrArg (Value.int .i64) (by omega))) ?_
        refine p_q _ rfl rfl rfl (fun _ _ => v_indexAddrB rfl Tryd.underlying87 inf89 rfl rfl (by omega)) ?_
        refine p_q _ rfl rfl rfl (fun _ _ => v_ld1 (v := u64 (c.getD i1 default)) rfl Tryd.underlying89 rfl rfl (boxU_get (by omega))) ?_
        refine p_q _ rfl rfl rfl (fun _ _ => v_move rfl rfl) ?_
        refine p_q _ rfl rfl rfl (fun _ _ => v_move rfl rfl) ?_
        refine p_q _ rfl rfl rfl (fun _ _ => v_indexAddrB rfl Tryd.underlying87 inf89 rfl rfl (by omega)) ?_
        refine p_q _ rfl rfl rfl (fun _ _ => v_ld1 (v := u64 (c.getD (i1 + 1) default)) rfl Tryd.underlying89 rfl rfl (boxU_get (by omega))) ?_
        refine p_nilF (by simp only [List.nil_append, List.cons_append]; rfl) rfl ⟨⟨_, _, _, rfl, rfl, rfl, rfl, rfl, float_move rfl rfl⟩, ⟨_, _, _, rfl, rfl, rfl, rfl, rfl, float_move rfl rfl⟩, ⟨_, _, _, rfl, rfl, rfl, rfl, rfl, float_sub rfl rfl rfl (by omega) (show _ = ((i1 : Nat) : Int) by omega)⟩, trivial⟩ ?_
        refine f_q rfl ?_
        refine f_q rfl ?_
        refine f_q rfl ?_
        refine f_q rfl ?_
        refine f_q rfl ?_
        refine f_q rfl ?_
        refine f_q rfl ?_
        refine f_q rfl ?_
        refine f_q rfl ?_
        refine f_q rfl ?_
        refine f_q rfl ?_
        refine f_q rfl ?_
        refine f_q rfl ?_
        refine f_q rfl ?_
        refine f_nil ?_
        refine o_q _ rfl rfl rfl (v_indexAddrB rfl Tryd.underlying87 inf89 rfl rfl (by omega)) ?_
        refine o_st rfl inf89 rfl rfl rfl rfl rfl rfl rfl (boxU_ble (by omega)) ?_
        refine Imp.box_to bb ((c.set (i1 + 1) (c.getD i1 default)).flatMap encU ++ sp) (boxU_set (by omega)) ?_
        refine o_q _ rfl rfl rfl (v_indexAddrB rfl Tryd.underlying87 inf89 rfl rfl (by omega)) ?_
        refine o_st rfl inf89 rfl rfl rfl rfl rfl rfl rfl (boxU_ble (by rw [List.length_set]; omega)) ?_
        refine o_nil ?_
        refine r_nop ?_
        with_reducible refine r_in_normal ?_; refine r_then ?_
        refine Imp.box_to bb ((swapU c i1).flatMap encU ++ sp) (boxU_set (by rw [List.length_set]; omega)) ?_
        refine r_region ?_
        refine o_q _ rfl rfl rfl (v_move rfl rfl) ?_
        refine o_q _ rfl rfl rfl (v_cast (v := i64 ((i1 : Nat) : Int)) (v_sub rfl rfl rfl (by omega)) (congrArg (Value.int .i64) (by omega))) ?_
        refine o_q _ rfl rfl rfl (v_assign rfl rfl) ?_
        refine o_nil ?_
        with_reducible refine r_then ?_
        exact r_next ((i1, swapU c i1)) (by exact r_here (by repeat (first | exact FSub.nil | refine FSub.cons rfl ?_ | refine FSub.cons2 rfl (congrArg (Value.int .i64) (by omega)) ?_)) SelMC.sel SubRC.sub) (by exact ⟨by omega, by omega, by rw [hsw]; exact hj3, by rw [← sinkA_y (j := i1) (l := c) (by omega) (by omega)]; exact hj4⟩) (by show i1 < i1 + 1; omega)
      ·
       first
       | (exfalso; revert hc30; decide)
       |
        skip
        refine r_exit ?_
        with_reducible refine r_then_exit ?_; refine r_then_exit ?_; refine r_in_here ?_; refine r_in_normal ?_; refine r_then ?_
        refine r_region ?_
        refine o_q _ rfl rfl rfl (v_move rfl rfl) ?_
        refine o_q _ rfl rfl rfl (v_add rfl rfl rfl (by omega)) ?_
        refine o_q _ rfl rfl rfl (v_assign rfl rfl) ?_
        refine o_nil ?_
        with_reducible refine r_then ?_
        refine r_next (k + 1) ?_ ?_ ?_
        ·
         refine Imp.box_to bb ((insA a l (k + 1)).flatMap encU ++ sp) (by rw [← hj4, sinkA_n (by omega)]) ?_
         exact r_here (by repeat (first | exact FSub.nil | refine FSub.cons rfl ?_ | refine FSub.cons2 rfl (congrArg (Value.int .i64) (by omega)) ?_)) SelMC.sel SubRC.sub
        ·
         omega
        ·
         omega
  ·
   refine r_exit ?_
   with_reducible refine r_then_exit ?_; refine r_then_exit ?_; refine r_in_here ?_
   refine Imp.box_to bb ((insA a l (b - a - 1)).flatMap encU ++ sp) (by rw [show b - a - 1 = k from by omega]) ?_
   exact r_ende [bx bb 89 ((insA a l (b - a - 1)).flatMap encU ++ sp)] [] (Rd.none rfl) ⟨rfl, rfl, rfl⟩ SelMC.sel SubRC.sub
theorem v_idxS {P : Program} {W : World} {n : Nat} {L : Tm} {M : List Res} {R : List Fact} {o : Oper} {T : TypeId} {x ix : Operand} {s : ByteArray} {k : Nat} {b : UInt8} {kd : IntKind} (ho : o.op = .index T x ix) (hT : P.underlying T = some .string) (hx : ev L x = some (.string s)) (hk : ev L ix = some (.int kd (k : Int))) (hv : s[k]? = some b) : OpQ P W n L M R o (.int .u8 b.toNat) :=
  OpQ.of_value fun g w h1 _ => by
    simp [execOp, ho, h1.ev hx, h1.ev hk, Instr.index, asIntOf, run_underlying hT, hv]
/-- The length of a number in bits, as far as 16. -/
def bitL (k : Nat) : Nat := [0, 1, 2, 2, 3, 3, 3, 3, 4, 4, 4, 4, 4, 4, 4, 4, 5].getD k 0
theorem bitL_lt (k : Nat) : bitL k < 256 := by
  unfold bitL
  by_cases h : k < 17
  · revert k; decide
  · rw [List.getD_eq_getElem?_getD, List.getElem?_eq_none (by simpa using Nat.le_of_not_lt h)]; decide
theorem bitL_at {s : ByteArray} (h : (List.range 17).all (fun k => s[k]? == some (UInt8.ofNat (bitL k))) = true) {k : Nat} (hk : k < 17) : s[k]? = some (UInt8.ofNat (bitL k)) := by
  have := List.all_eq_true.1 h k (List.mem_range.2 hk)
  simpa using this
theorem bitL_u8 (k : Nat) : ((UInt8.ofNat (bitL k)).toNat : Int) = (bitL k : Int) := by
  have := bitL_lt k
  simp [UInt8.toNat_ofNat']
  omega
set_option maxHeartbeats 4000000 in
theorem len64_v (k : Nat) (hk : k < 17) : FnV Tryd.prog 97 [u64 k] [] (i64 (bitL k : Nat)) := by
 refine FnV.intro Tryd.call97 Tryd.func97 rfl Tryd.ntmps97 rfl ?_
 intro W M Rf
 refine r_seq ?_
 refine r_region ?_
 refine o_q _ rfl rfl rfl (v_assign rfl rfl) ?_
 refine o_nil ?_
 with_reducible refine r_then ?_
 refine r_seq ?_
 refine r_seq ?_
 refine r_region ?_
 refine o_q _ rfl rfl rfl (v_move rfl rfl) ?_
 refine o_q _ rfl rfl rfl (v_geq rfl rfl rfl) ?_
 refine o_nil ?_
 with_reducible refine r_then ?_
 refine r_condd rfl (fun hc4 => ?_) (fun hc4 => ?_)
 ·
  (exfalso; omega)
 ·
  refine r_skip ?_
  with_reducible refine r_then ?_
  refine r_seq ?_
  refine r_seq ?_
  refine r_region ?_
  refine o_q _ rfl rfl rfl (v_move rfl rfl) ?_
  refine o_q _ rfl rfl rfl (v_geq rfl rfl rfl) ?_
  refine o_nil ?_
  with_reducible refine r_then ?_
  refine r_condd rfl (fun hc8 => ?_) (fun hc8 => ?_)
  ·
   (exfalso; omega)
  ·
   refine r_skip ?_
   with_reducible refine r_then ?_
   refine r_seq ?_
   refine r_seq ?_
   refine r_region ?_
   refine o_q _ rfl rfl rfl (v_move rfl rfl) ?_
   refine o_q _ rfl rfl rfl (v_geq rfl rfl rfl) ?_
   refine o_nil ?_
   with_reducible refine r_then ?_
   refine r_condd rfl (fun hc14 => ?_) (fun hc14 => ?_)
   ·
    (exfalso; omega)
   ·
    refine r_skip ?_
    with_reducible refine r_then ?_
    refine r_seq ?_
    refine r_region ?_
    refine o_q _ rfl rfl rfl (v_move rfl rfl) ?_
    refine o_q _ rfl rfl rfl (v_move rfl rfl) ?_
    refine o_q _ rfl rfl rfl (v_conv rfl Tryd.underlying121 Tryd.underlying5 rfl (IntWalk.u8_in _ (by omega))) ?_
    refine o_q _ rfl rfl rfl (v_cast (v := .int .u8 (bitL k : Nat)) (v_idxS (kd := .u8) rfl Tryd.underlying9 rfl rfl (bitL_at (by decide +kernel) hk)) (congrArg (Value.int .u8) (bitL_u8 k))) ?_
    refine o_q _ rfl rfl rfl (v_conv rfl Tryd.underlying5 Tryd.underlying3 rfl (IntWalk.i64_in _ (by have := bitL_lt k; omega))) ?_
    refine o_q _ rfl rfl rfl (v_cast (v := i64 (bitL k : Nat)) (v_add rfl rfl rfl (by have := bitL_lt k; omega)) (congrArg (Value.int .i64) (by omega))) ?_
    refine o_q _ rfl rfl rfl (v_assign rfl rfl) ?_
    refine o_nil ?_
    with_reducible refine r_then ?_
    refine r_ret ?_
    exact r_retv2 (Rd.tmp rfl rfl) rfl SelMC.sel SubRC.sub
set_option maxHeartbeats 4000000 in
theorem len_v (k : Nat) (hk : k < 17) : FnV Tryd.prog 77 [u64 k] [] (i64 (bitL k : Nat)) := by
 refine FnV.intro Tryd.call77 Tryd.func77 rfl Tryd.ntmps77 rfl ?_
 intro W M Rf
 refine r_seq ?_
 refine r_region ?_
 refine o_q _ rfl rfl rfl (v_assign rfl rfl) ?_
 refine o_nil ?_
 with_reducible refine r_then ?_
 refine r_seq ?_
 refine r_cond rfl (fun hcconst_false_ => ?_) (fun hcconst_false_ => ?_)
 ·
  (exfalso; revert hcconst_false_; decide)
 ·
  refine r_skip ?_
  with_reducible refine r_then ?_
  refine r_seq ?_
  refine r_region ?_
  refine o_q _ rfl rfl rfl (v_move rfl rfl) ?_
  refine o_q _ rfl rfl rfl (OpQ.fn (len64_v k hk) rfl rfl SubRC.sub) ?_
  refine o_q _ rfl rfl rfl (v_assign rfl rfl) ?_
  refine o_nil ?_
  with_reducible refine r_then ?_
  refine r_ret ?_
  exact r_retv2 (Rd.tmp rfl rfl) rfl SelMC.sel SubRC.sub
set_option maxHeartbeats 4000000 in
theorem pdq_ins (l : List Nat) (hl : l.length ≤ 1000) (bb cap : Nat) (sp : List Value) (a b : Nat) (m : Int) (hab : a ≤ b) (hb : b ≤ l.length) (hs : b - a ≤ 12) : FnC Tryd.prog 76 [.slice (some ⟨bb, 0, none⟩) l.length cap, i64 (a : Int), i64 (b : Int), i64 m] (bx bb 89 ((l).flatMap encU ++ sp)) [] (.tuple #[]) (bx bb 89 ((insA a l (b - a - 1)).flatMap encU ++ sp)) := by
 refine FnC.intro Tryd.call76 Tryd.func76 rfl Tryd.ntmps76 rfl ?_
 intro W M Rf
 refine r_seq ?_
 refine r_region ?_
 refine o_q _ rfl rfl rfl (v_assign rfl rfl) ?_
 refine o_nil ?_
 with_reducible refine r_then ?_
 refine r_seq ?_
 refine r_region ?_
 refine o_q _ rfl rfl rfl (v_assign rfl rfl) ?_
 refine o_nil ?_
 with_reducible refine r_then ?_
 refine r_block ?_
 refine r_loop (ι := Unit) (fun uu => True) (fun uu => [(0, .slice (some ⟨bb, 0, none⟩) l.length cap), (1, i64 (a : Int)), (2, i64 (b : Int)), (3, i64 m), (8, .bool true), (9, .bool true)]) (fun uu => bx bb 89 ((l).flatMap encU ++ sp) :: M) (fun uu => Rf) (fun uu => 0) () ?_ ?_ ?_
 ·
  exact r_here (by repeat (first | exact FSub.nil | refine FSub.cons rfl ?_)) SelMC.sel SubRC.sub
 ·
  trivial
 ·
  rintro uu hI0
  refine r_block ?_
  refine r_seq ?_
  refine r_region ?_
  refine o_q _ rfl rfl rfl (v_move rfl rfl) ?_
  refine o_q _ rfl rfl rfl (v_move rfl rfl) ?_
  refine o_q _ rfl rfl rfl (v_sub rfl rfl rfl (by omega)) ?_
  refine o_q _ rfl rfl rfl (v_assign rfl rfl) ?_
  refine o_nil ?_
  with_reducible refine r_then ?_
  refine r_seq ?_
  refine r_seq ?_
  refine r_region ?_
  refine o_q _ rfl rfl rfl (v_move rfl rfl) ?_
  refine o_q _ rfl rfl rfl (v_leq rfl rfl rfl) ?_
  refine o_nil ?_
  with_reducible refine r_then ?_
  refine r_condd rfl (fun hc23 => ?_) (fun hc23 => ?_)
  ·
   refine r_seq ?_
   refine r_region ?_
   refine o_q _ rfl rfl rfl (v_move rfl rfl) ?_
   refine o_q _ rfl rfl rfl (v_move rfl rfl) ?_
   refine o_q _ rfl rfl rfl (v_move rfl rfl) ?_
   refine o_fnc (insertU_s l hl bb cap sp a b hab hb) rfl [] [] rfl rfl rfl rfl rfl rfl SubRC.sub ?_
   refine o_nil ?_
   with_reducible refine r_then ?_
   refine r_ret ?_
   with_reducible refine r_then_ret ?_; refine r_in_ret ?_; refine r_then_ret ?_; refine r_in_ret ?_
   exact r_rete [bx bb 89 ((insA a l (b - a - 1)).flatMap encU ++ sp)] [] (Rd.none rfl) ⟨rfl, rfl, rfl⟩ SelMC.sel SubRC.sub
  ·
   (exfalso; omega)
set_option maxHeartbeats 4000000 in
theorem sortU_ins (l : List Nat) (hl : l.length ≤ 1000) (bb cap : Nat) (sp : List Value) (hs : l.length ≤ 12) : FnC Tryd.prog 60 [.slice (some ⟨bb, 0, none⟩) l.length cap] (bx bb 89 ((l).flatMap encU ++ sp)) [] (.tuple #[]) (bx bb 89 ((insA 0 l (l.length - 1)).flatMap encU ++ sp)) := by
 refine FnC.intro Tryd.call60 Tryd.func60 rfl Tryd.ntmps60 rfl ?_
 intro W M Rf
 refine r_seq ?_
 refine r_region ?_
 refine o_q _ rfl rfl rfl (v_move rfl rfl) ?_
 refine o_q _ rfl rfl rfl (v_len rfl rfl Tryd.underlying87 rfl) ?_
 refine o_q _ rfl rfl rfl (v_assign rfl rfl) ?_
 refine o_nil ?_
 with_reducible refine r_then ?_
 refine r_region ?_
 refine o_q _ rfl rfl rfl (v_move rfl rfl) ?_
 refine o_q _ rfl rfl rfl (v_move rfl rfl) ?_
 refine o_q _ rfl rfl rfl (v_move rfl rfl) ?_
 refine o_q _ rfl rfl rfl (v_conv rfl Tryd.underlying3 Tryd.underlying89 rfl (IntWalk.u64_in _ (by omega))) ?_
 refine o_q _ rfl rfl rfl (OpQ.fn (len_v l.length (by omega)) rfl rfl SubRC.sub) ?_
 refine o_fnc (pdq_ins l hl bb cap sp 0 l.length (bitL l.length : Nat) (Nat.zero_le _) (Nat.le_refl _) (by omega)) rfl [] [] rfl rfl rfl rfl rfl rfl SubRC.sub ?_
 refine o_nil ?_
 exact r_ende [bx bb 89 ((insA 0 l (l.length - 1)).flatMap encU ++ sp)] [] (Rd.none rfl) ⟨rfl, rfl, rfl⟩ SelMC.sel SubRC.sub
end Go.Proofs.YtpfgiednfjfdmaaDoor


namespace Go.Proofs.YtpfgiednfjfdmaaDoor
open Go.G Debt10
set_option maxRecDepth 1000000
attribute [local irreducible] G.ParO G.Fin
/-- The sets of people, of those from who on with what is in m, whose needs are covered. -/
def onL (f : Nat → Int) : Nat → Nat → Int → Nat → List Nat
  | 0, _, left, m => if left < 0 then [] else [m]
  | k + 1, who, left, m => if left < 0 then [] else onL f k (who + 1) left m ++ onL f k (who + 1) (left - f who) (m ||| 2 ^ who)
theorem onL_neg {f : Nat → Int} {k who : Nat} {left : Int} {m : Nat} (h : left < 0) : onL f k who left m = [] := by
  cases k with
  | zero => exact if_pos h
  | succ k => exact if_pos h
theorem onL_0 {f : Nat → Int} {who : Nat} {left : Int} {m : Nat} (h : ¬ left < 0) : onL f 0 who left m = [m] := if_neg h
theorem onL_s {f : Nat → Int} {k who : Nat} {left : Int} {m : Nat} (h : ¬ left < 0) : onL f (k + 1) who left m = onL f k (who + 1) left m ++ onL f k (who + 1) (left - f who) (m ||| 2 ^ who) := if_neg h
theorem onL_len (f : Nat → Int) : ∀ (k who : Nat) (left : Int) (m : Nat), (onL f k who left m).length ≤ 2 ^ k
  | 0, _, left, m => by unfold onL; split <;> simp
  | k + 1, who, left, m => by
    unfold onL
    split
    · simp
    · rw [List.length_append, Nat.pow_succ]
      have h1 := onL_len f k (who + 1) left m
      have h2 := onL_len f k (who + 1) (left - f who) (m ||| 2 ^ who)
      omega
theorem onL_ne (f : Nat → Int) : ∀ (k who : Nat) (left : Int) (m : Nat), 0 ≤ left → 0 < (onL f k who left m).length
  | 0, _, left, m, h => by rw [onL_0 (by omega)]; simp
  | k + 1, who, left, m, h => by
    rw [onL_s (by omega), List.length_append]
    have := onL_ne f k (who + 1) left m h
    omega
theorem or_lt {m who : Nat} (h : m < 2 ^ who) : m ||| 2 ^ who < 2 ^ (who + 1) := Nat.or_lt_two_pow (by rw [Nat.pow_succ]; omega) (Nat.pow_lt_pow_right (by decide) (by omega))
theorem onL_lt (f : Nat → Int) : ∀ (k who : Nat) (left : Int) (m : Nat), m < 2 ^ who → ∀ x ∈ onL f k who left m, x < 2 ^ (who + k)
  | 0, who, left, m, h, x, hx => by
    unfold onL at hx
    split at hx
    · cases hx
    · rw [List.mem_singleton.1 hx]; exact h
  | k + 1, who, left, m, h, x, hx => by
    unfold onL at hx
    split at hx
    · cases hx
    · rw [show who + (k + 1) = who + 1 + k from by omega]
      rcases List.mem_append.1 hx with hx | hx
      · exact onL_lt f k (who + 1) left m (by rw [Nat.pow_succ]; omega) x hx
      · exact onL_lt f k (who + 1) _ _ (or_lt h) x hx
variable (D : Debt) (uo po : Option Addr) (uc pc : Nat)
variable (lb mb : Nat)
/-- What the closure works on: the memo, the variable and its sets. -/
def onR (b4 : Nat) (G : Cont) (xs : List Nat) : Res := exR fun v : Value => [mapG Tryd.prog 113 mb G, bx b4 87 [v], ownL v 89 1 encU xs]
abbrev needN (D : Debt) (dn : Nat) (w : Nat) : Int := needT D (w : Int) dn
@[reducible] def cloV (b3 b4 b5 b6 b7 : Nat) : Value := .func (.func 59) #[] #[pt b3 0, pt b4 0, pt b5 0, pt b6 0, pt b7 0]
variable {W : World} {n : Nat} {Df : List Deferred} {L : Tm} {M M' : List Res} {R : List Fact} {X : Act → World → Prop}
theorem on_unpk {b4 : Nat} {G : Cont} {xs : List Nat} [hM : DelC M (onR mb b4 G xs) M'] (h : ∀ v, Imp W n Df L (mapG Tryd.prog 113 mb G :: bx b4 87 [v] :: ownL v 89 1 encU xs :: M') R X) : Imp W n Df L M R X := by
  have h2 : Imp W n Df L (onR mb b4 G xs :: M') R X := Imp.unpk (N := fun v : Value => [mapG Tryd.prog 113 mb G, bx b4 87 [v], ownL v 89 1 encU xs]) h
  exact fun a w h1 h3 h4 => h2 a w h1 h3 (h4.perm hM.del.perm)
theorem on_pk {b4 : Nat} {G : Cont} {xs : List Nat} {v : Value} (hM : SelM M (mapG Tryd.prog 113 mb G :: bx b4 87 [v] :: ownL v 89 1 encU xs :: M')) (h : Imp W n Df L (onR mb b4 G xs :: M') R X) : Imp W n Df L M R X := Imp.pk1 (N := fun v : Value => [mapG Tryd.prog 113 mb G, bx b4 87 [v], ownL v 89 1 encU xs]) v hM h
set_option maxHeartbeats 4000000 in
theorem on_0 (b3 b4 b5 b6 b7 dn : Nat) (hg : GoodD D) (hdn : dn ≤ 30) (G : Cont) (who : Nat) (left : Int) (m : Nat) (xs : List Nat) (hw : (who : Int) = D.people) (hl0 : -6000 ≤ left ∧ left ≤ 5000) (hm : m < 2 ^ who) (hx : xs.length ≤ 100) : FnS Tryd.prog 59 [i64 (who : Int), i64 left, u64 m, pt b3 0, pt b4 0, pt b5 0, pt b6 0, pt b7 0] [onR mb b4 G xs] [entF D G, boxF b5 88 [cloV b3 b4 b5 b6 b7], boxF b6 69 [pt lb 0], boxF b7 3 [i64 (dn : Int)], boxF b3 25 (cellsD D uo po uc pc), boxF lb 108 [i64 D.people, .slice uo D.dues.length uc, .slice po D.paid.length pc, .map (some mb)], rowD uo 5 encD D.dues, rowD po 4 encP D.paid, rowD (some ⟨0, 0, none⟩) 1 encE ([0, 1] : List Nat)] (fun e M' R' => ∃ x : Cont, e = .returned (.tuple #[]) ∧ True ∧ M' = [onR mb b4 x (xs ++ onL (needN D dn) 0 who left m)] ∧ R' = [entF D x]) := by
 refine FnS.intro1 Tryd.call59 Tryd.func59 rfl Tryd.ntmps59 rfl ?_
 intro W M Rf
 refine r_seq ?_
 refine r_seq ?_
 refine on_unpk (mb := mb) (b4 := b4) (G := G) (xs := xs) (fun v => ?_)
 refine r_region ?_
 refine o_q _ rfl rfl rfl (v_move rfl rfl) ?_
 refine o_q _ rfl rfl rfl (v_lss rfl rfl rfl) ?_
 refine o_nil ?_
 with_reducible refine r_then ?_
 refine r_condd rfl (fun hc12 => ?_) (fun hc12 => ?_)
 ·
  refine r_ret ?_
  with_reducible refine r_then_ret ?_
  (refine Imp.own_to v (xs ++ onL (needN D dn) 0 who left m) (by rw [onL_neg (by omega), List.append_nil]) ?_; refine on_pk (M' := M) (mb := mb) (b4 := b4) (v := v) (G := G) (xs := (xs ++ onL (needN D dn) 0 who left m)) SelMC.sel ?_; exact r_rete [onR mb b4 G (xs ++ onL (needN D dn) (0) who left m)] [entF D G] (Rd.none rfl) ⟨G, rfl, trivial, rfl, rfl⟩ SelMC.sel SubRC.sub)
 ·
  refine r_skip ?_
  with_reducible refine r_then ?_
  refine r_seq ?_
  refine r_seq ?_
  refine r_region ?_
  refine o_q _ rfl rfl rfl (v_move rfl rfl) ?_
  refine o_q _ rfl rfl rfl (v_fieldAddr rfl Tryd.underlying25 inf3 rfl rfl rfl rfl) ?_
  refine o_q _ rfl rfl rfl (v_lf1 rfl Tryd.underlying3 rfl rfl rfl) ?_
  refine o_q _ rfl rfl rfl (v_eql rfl rfl rfl) ?_
  refine o_nil ?_
  with_reducible refine r_then ?_
  refine r_condd rfl (fun hc16 => ?_) (fun hc16 => ?_)
  ·
   refine r_seq ?_
   refine r_region ?_
   refine o_q _ rfl rfl rfl (v_ld1 rfl Tryd.underlying87 rfl rfl rfl) ?_
   refine o_q _ rfl rfl rfl (v_move rfl rfl) ?_
   refine o_lit rfl Tryd.underlying87 inf89 rfl rfl rfl rfl rfl rfl rfl rfl (by repeat (first | exact trivial | refine ⟨rfl, ?_⟩)) (by rfl) (fun b19 => ?_)
   refine o_app1 (m) rfl Tryd.underlying87 inf89 rfl (by rfl) (by rfl) rfl rfl rfl rfl rfl (by rfl) (by rfl) (by rfl) (by first | omega | (constructor <;> first | omega | decide)) (fun v20 => ?_)
   refine Imp.own_is v20 (fun hs20 => ?_)
   obtain ⟨oa20, cp20, rfl⟩ := hs20
   refine o_st rfl inf87 rfl rfl rfl rfl rfl rfl rfl rfl ?_
   refine o_nil ?_
   with_reducible refine r_then ?_
   refine r_ret ?_
   with_reducible refine r_then_ret ?_
   (refine Imp.own_to (.slice oa20 (xs ++ [m]).length cp20) (xs ++ onL (needN D dn) 0 who left m) (by rw [onL_0 (by omega)]) ?_; refine Imp.box_to b4 [.slice oa20 (xs ++ [m]).length cp20] rfl ?_; refine on_pk (M' := M) (mb := mb) (b4 := b4) (v := .slice oa20 (xs ++ [m]).length cp20) (G := G) (xs := (xs ++ onL (needN D dn) 0 who left m)) SelMC.sel ?_; exact r_rete [onR mb b4 G (xs ++ onL (needN D dn) (0) who left m)] [entF D G] (Rd.none rfl) ⟨G, rfl, trivial, rfl, rfl⟩ SelMC.sel SubRC.sub)
  ·
   (exfalso; omega)
theorem float_addN {P : Program} {n : Nat} {L : Tm} {o : Oper} {Z : World → Prop} {t u : TypeId} {x y : Operand} {b : Nat} (ho : o.op = .binOp .add t x y u) (hx : ev L x = some (i64 (b : Int))) (hy : ev L y = some (i64 1)) (h : b < 1000) : ∀ a, FSat n L a → ∀ w, Z w → (execOp a.eval o).run P w = .ok (.value (i64 ((b + 1 : Nat) : Int))) w := by
  rw [show ((b + 1 : Nat) : Int) = (b : Int) + 1 from by omega]
  exact float_addZ ho hx hy (by omega)
set_option maxHeartbeats 4000000 in
theorem on_k (b3 b4 b5 b6 b7 dn : Nat) (hg : GoodD D) (hdn : dn ≤ 30) (G : Cont) (k who : Nat) (left : Int) (m : Nat) (xs : List Nat) (hw : (who : Int) < D.people) (hl0 : -6000 ≤ left ∧ left ≤ 5000) (hm : m < 2 ^ who) (hx : xs.length + 2 ^ (k + 1) ≤ 100) (ih : ∀ (G : Cont) (left : Int) (m : Nat) (xs : List Nat), -6000 ≤ left ∧ left ≤ 5000 → m < 2 ^ (who + 1) → xs.length + 2 ^ k ≤ 100 → FnS Tryd.prog 59 [i64 ((who + 1 : Nat) : Int), i64 left, u64 m, pt b3 0, pt b4 0, pt b5 0, pt b6 0, pt b7 0] [onR mb b4 G xs] [entF D G, boxF b5 88 [cloV b3 b4 b5 b6 b7], boxF b6 69 [pt lb 0], boxF b7 3 [i64 (dn : Int)], boxF b3 25 (cellsD D uo po uc pc), boxF lb 108 [i64 D.people, .slice uo D.dues.length uc, .slice po D.paid.length pc, .map (some mb)], rowD uo 5 encD D.dues, rowD po 4 encP D.paid, rowD (some ⟨0, 0, none⟩) 1 encE ([0, 1] : List Nat)] (fun e M' R' => ∃ x : Cont, e = .returned (.tuple #[]) ∧ True ∧ M' = [onR mb b4 x (xs ++ onL (needN D dn) k (who + 1) left m)] ∧ R' = [entF D x])) : FnS Tryd.prog 59 [i64 (who : Int), i64 left, u64 m, pt b3 0, pt b4 0, pt b5 0, pt b6 0, pt b7 0] [onR mb b4 G xs] [entF D G, boxF b5 88 [cloV b3 b4 b5 b6 b7], boxF b6 69 [pt lb 0], boxF b7 3 [i64 (dn : Int)], boxF b3 25 (cellsD D uo po uc pc), boxF lb 108 [i64 D.people, .slice uo D.dues.length uc, .slice po D.paid.length pc, .map (some mb)], rowD uo 5 encD D.dues, rowD po 4 encP D.paid, rowD (some ⟨0, 0, none⟩) 1 encE ([0, 1] : List Nat)] (fun e M' R' => ∃ x : Cont, e = .returned (.tuple #[]) ∧ True ∧ M' = [onR mb b4 x (xs ++ onL (needN D dn) (k + 1) who left m)] ∧ R' = [entF D x]) := by
 refine FnS.intro1 Tryd.call59 Tryd.func59 rfl Tryd.ntmps59 rfl ?_
 intro W M Rf
 refine r_seq ?_
 refine r_seq ?_
 refine r_region ?_
 refine o_q _ rfl rfl rfl (v_move rfl rfl) ?_
 refine o_q _ rfl rfl rfl (v_lss rfl rfl rfl) ?_
 refine o_nil ?_
 with_reducible refine r_then ?_
 refine r_condd rfl (fun hc12 => ?_) (fun hc12 => ?_)
 ·
  refine r_ret ?_
  with_reducible refine r_then_ret ?_
  exact r_rete [onR mb b4 G (xs ++ onL (needN D dn) (k + 1) who left m)] [entF D G] (Rd.none rfl) ⟨G, rfl, trivial, rfl, rfl⟩ (by rw [onL_neg (by omega), List.append_nil]; exact SelMC.sel) SubRC.sub
 ·
  refine r_skip ?_
  with_reducible refine r_then ?_
  refine r_seq ?_
  refine r_seq ?_
  refine r_region ?_
  refine o_q _ rfl rfl rfl (v_move rfl rfl) ?_
  refine o_q _ rfl rfl rfl (v_fieldAddr rfl Tryd.underlying25 inf3 rfl rfl rfl rfl) ?_
  refine o_q _ rfl rfl rfl (v_lf1 rfl Tryd.underlying3 rfl rfl rfl) ?_
  refine o_q _ rfl rfl rfl (v_eql rfl rfl rfl) ?_
  refine o_nil ?_
  with_reducible refine r_then ?_
  refine r_condd rfl (fun hc16 => ?_) (fun hc16 => ?_)
  ·
   (exfalso; omega)
  ·
   refine r_skip ?_
   with_reducible refine r_then ?_
   refine r_seq ?_
   have hq1 := hg.np
   have hwp : 2 ^ who ≤ 2 ^ 4 := Nat.pow_le_pow_right (by decide) (by omega)
   have hnb := need_bd hg (who : Int) hdn
   have hle := onL_len (needN D dn) k (who + 1) left m
   refine r_region ?_
   refine o_q _ rfl rfl rfl (v_lf1 rfl Tryd.underlying88 rfl rfl rfl) ?_
   refine o_q _ rfl rfl rfl (v_move rfl rfl) ?_
   refine o_q _ rfl rfl rfl (v_cast (v := i64 ((who + 1 : Nat) : Int)) (v_add rfl rfl rfl (by omega)) (congrArg (Value.int .i64) (by omega))) ?_
   refine o_q _ rfl rfl rfl (v_move rfl rfl) ?_
   refine o_q _ rfl rfl rfl (v_move rfl rfl) ?_
   refine o_fnXV [pt b3 0, pt b4 0, pt b5 0, pt b6 0, pt b7 0] (ih G left m xs hl0 (by rw [Nat.pow_succ]; omega) (by rw [Nat.pow_succ] at hx; omega)) rfl rfl rfl rfl rfl rfl rfl SubRC.sub (fun x26 _ => ?_)
   refine o_nil ?_
   with_reducible refine r_then ?_
   refine on_unpk (mb := mb) (b4 := b4) (G := x26) (xs := (xs ++ onL (needN D dn) k (who + 1) left m)) (fun v => ?_)
   refine r_parPZ [0, 1, 2, 3, 4, 5, 6, 9, 10, 11, 12, 7, 8, 13] (by kernel_rfl) rfl (fun w => w.heap[b5]? = some (.cells ([cloV b3 b4 b5 b6 b7] : List Value).toArray 88 (0, 0))) (fun X F w h => h.fact (φ := boxF b5 88 [cloV b3 b4 b5 b6 b7]) (List.mem_append_right _ InR.mem)) [0, 1, 2, 3, 7, 8, 9, 10] 11 (by kernel_rfl) (by kernel_rfl) (by kernel_rfl) (by kernel_rfl) (by kernel_rfl) mixed (by kernel_rfl) (by rfl) ?_
   refine p_q _ rfl rfl rfl (fun _ _ => v_lf1 rfl Tryd.underlying88 rfl rfl rfl) ?_
   refine p_q _ rfl rfl rfl (fun _ _ => v_move rfl rfl) ?_
   refine p_q _ rfl rfl rfl (fun _ _ => v_cast (v := i64 ((who + 1 : Nat) : Int)) (v_add rfl rfl rfl (by omega)) (congrArg (Value.int .i64) (by omega))) ?_
   refine p_q _ rfl rfl rfl (fun _ _ => v_move rfl rfl) ?_
   refine p_q _ rfl rfl rfl (fun _ _ => v_lf1 rfl Tryd.underlying69 rfl rfl rfl) ?_
   refine p_q _ rfl rfl rfl (fun _ _ => v_move rfl rfl) ?_
   refine p_q _ rfl rfl rfl (fun _ _ => v_lf1 rfl Tryd.underlying3 rfl rfl rfl) ?_
   refine p_q _ rfl rfl rfl (fun _ _ => v_move rfl rfl) ?_
   refine p_q _ rfl rfl rfl (fun _ _ => v_move rfl rfl) ?_
   refine p_q _ rfl rfl rfl (fun _ _ => v_shlU (h := who) (m := 2 ^ who) rfl rfl rfl (by omega) rfl) ?_
   refine p_q _ rfl rfl rfl (fun _ _ => v_orU (a := m) (b := 2 ^ who) rfl rfl rfl (by omega) (by omega)) ?_
   refine p_nilF (by simp only [List.nil_append, List.cons_append]; rfl) rfl ⟨⟨_, _, _, rfl, rfl, rfl, rfl, rfl, float_cell (vs := [cloV b3 b4 b5 b6 b7]) (B := 88) rfl Tryd.underlying88 rfl rfl rfl (fun _ h => h)⟩, ⟨_, _, _, rfl, rfl, rfl, rfl, rfl, float_mv rfl rfl⟩, ⟨_, _, _, rfl, rfl, rfl, rfl, rfl, float_addN rfl rfl rfl (by omega)⟩, ⟨_, _, _, rfl, rfl, rfl, rfl, rfl, float_mv rfl rfl⟩, ⟨_, _, _, rfl, rfl, rfl, rfl, rfl, float_mv rfl rfl⟩, ⟨_, _, _, rfl, rfl, rfl, rfl, rfl, float_mv rfl rfl⟩, ⟨_, _, _, rfl, rfl, rfl, rfl, rfl, float_shlU (h := who) (m := 2 ^ who) rfl rfl rfl (by omega) rfl⟩, ⟨_, _, _, rfl, rfl, rfl, rfl, rfl, float_orU (a := m) (b := 2 ^ who) rfl rfl rfl (by omega) (by omega)⟩, trivial⟩ ?_
   refine f_q rfl ?_
   refine f_q rfl ?_
   refine f_q rfl ?_
   refine f_q rfl ?_
   refine f_q rfl ?_
   refine f_q rfl ?_
   refine f_q rfl ?_
   refine f_q rfl ?_
   refine f_q rfl ?_
   refine f_q rfl ?_
   refine f_q rfl ?_
   refine f_nil ?_
   refine oz_lift (fun w h => h.fact (φ := boxF b5 88 [cloV b3 b4 b5 b6 b7]) InR.mem) ?_
   refine o_fnX (need_s D uo po uc pc lb mb x26 (who : Int) dn hg (by omega) hdn) rfl rfl rfl rfl rfl SubRC.sub (fun x34 _ => ?_)
   refine o_nil ?_
   refine r_then ?_
   refine oz_lift (fun w h => h.fact (φ := boxF b5 88 [cloV b3 b4 b5 b6 b7]) InR.mem) ?_
   refine o_q _ rfl rfl rfl (v_sub rfl rfl rfl (by omega)) ?_
   refine o_nil ?_
   refine r_then ?_
   refine on_pk (M' := M) (mb := mb) (b4 := b4) (v := v) (G := x34) (xs := (xs ++ onL (needN D dn) k (who + 1) left m)) SelMC.sel ?_
   refine oz_lift (fun w h => h.fact (φ := boxF b5 88 [cloV b3 b4 b5 b6 b7]) InR.mem) ?_
   refine o_fnXV [pt b3 0, pt b4 0, pt b5 0, pt b6 0, pt b7 0] (ih x34 (left - needT D (who : Int) dn) (m ||| 2 ^ who) (xs ++ onL (needN D dn) k (who + 1) left m) (by omega) (or_lt hm) (by rw [List.length_append]; rw [Nat.pow_succ] at hx; omega)) rfl rfl rfl rfl rfl rfl rfl SubRC.sub (fun x40 _ => ?_)
   refine o_nil ?_
   refine r_then ?_
   refine oz_nil (fun w h => h.fact (φ := boxF b5 88 [cloV b3 b4 b5 b6 b7]) InR.mem) ?_
   refine r_nop ?_
   exact r_ende [onR mb b4 x40 (xs ++ onL (needN D dn) (k + 1) who left m)] [entF D x40] (Rd.none rfl) ⟨x40, rfl, trivial, rfl, rfl⟩ (by rw [onL_s (by omega), ← List.append_assoc]; exact SelMC.sel) SubRC.sub
theorem on_s (b3 b4 b5 b6 b7 dn : Nat) (hg : GoodD D) (hdn : dn ≤ 30) : ∀ (k : Nat) (G : Cont) (who : Nat) (left : Int) (m : Nat) (xs : List Nat), (who : Int) + k = D.people → (-6000 ≤ left ∧ left ≤ 5000) → m < 2 ^ who → xs.length + 2 ^ k ≤ 100 → FnS Tryd.prog 59 [i64 (who : Int), i64 left, u64 m, pt b3 0, pt b4 0, pt b5 0, pt b6 0, pt b7 0] [onR mb b4 G xs] [entF D G, boxF b5 88 [cloV b3 b4 b5 b6 b7], boxF b6 69 [pt lb 0], boxF b7 3 [i64 (dn : Int)], boxF b3 25 (cellsD D uo po uc pc), boxF lb 108 [i64 D.people, .slice uo D.dues.length uc, .slice po D.paid.length pc, .map (some mb)], rowD uo 5 encD D.dues, rowD po 4 encP D.paid, rowD (some ⟨0, 0, none⟩) 1 encE ([0, 1] : List Nat)] (fun e M' R' => ∃ x : Cont, e = .returned (.tuple #[]) ∧ True ∧ M' = [onR mb b4 x (xs ++ onL (needN D dn) k who left m)] ∧ R' = [entF D x])
  | 0, G, who, left, m, xs, hw, hl0, hm, hx => on_0 D uo po uc pc lb mb b3 b4 b5 b6 b7 dn hg hdn G who left m xs (by omega) hl0 hm (by omega)
  | k + 1, G, who, left, m, xs, hw, hl0, hm, hx => on_k D uo po uc pc lb mb b3 b4 b5 b6 b7 dn hg hdn G k who left m xs (by omega) hl0 hm hx
      (fun G2 left2 m2 xs2 h1 h2 h3 => on_s b3 b4 b5 b6 b7 dn hg hdn k G2 (who + 1) left2 m2 xs2 (by push_cast; omega) h1 h2 h3)
end Go.Proofs.YtpfgiednfjfdmaaDoor


namespace Go.G
variable {P : Program} {W : World} {n : Nat} {D : List Deferred} {L : Tm} {M : List Res} {R : List Fact} {Q : Exit → Act → World → Prop} {o : Oper}
theorem p_open1 {ops : Array Oper} {K : List Spc → Prop} {rest : List Oper} {acc : List Spc} {k : FuncId} {args : List Value} {R0 : List Fact} {res : Nat → Res} {xs : List Operand} {ts : Array TypeId} {d : Nat}
    (h : FnS P k args [] R0 (fun e M' R' => ∃ b, e = .returned (pt b 0) ∧ M' = [res b] ∧ R' = [])) (ho : o.op = .call { callee := .value (.func k), args := xs.toArray, argTypes := ts })
    (hx : evs L xs = some args) (hg : o.guard = none) (hdst : o.dst = some d) (hd : Nat.blt d n = true) (hs : SubR R R0)
    (hr : ParO P W n M R ops K rest (acc ++ [Spc.g isPt (fun v => [res (blk v)]) (fun _ => [])]) L) : ParO P W n M R ops K (o :: rest) acc L := by
  refine ⟨Spc.g isPt (fun v => [res (blk v)]) (fun _ => []), by simp [hdst, hd], .inl ⟨rfl, .inl ⟨.inl hg, ?_⟩⟩, by simpa [addL, Spc.g] using hr⟩
  intro Mx Rx a w h1 h2
  have h2 : St W (Mx ++ M) (Rx ++ R) w := h2
  rw [exec_call [] [] ho rfl (h1.evs hx) h.enter]
  simp only [List.nil_append, List.append_nil]
  have h3 : St W ([] ++ (Mx ++ M)) (R0 ++ (Rx ++ R)) w := h2.both (fun φ hφ => List.mem_append_right _ (hs φ hφ))
  refine ⟨rfl, (h.calls W (Mx ++ M) (Rx ++ R) w h3).mono ?_⟩
  rintro e w' ⟨M1, R1, ⟨b, rfl, rfl, rfl⟩, hw'⟩
  refine .inl ⟨pt b 0, rfl, ⟨b, rfl⟩, ?_⟩
  exact hw'.weak (fun φ hφ => List.mem_append_right _ (List.mem_append_right _ hφ))
theorem f_open1 {X : Act → World → Prop} {os : List Oper} {ss : List Spc} {res : Nat → Res} {d : Nat} (hdst : o.dst = some d) (h : ∀ b, Fin W n D X os ss ((d, pt b 0) :: L) (res b :: M) R) : Fin W n D X (o :: os) (Spc.g isPt (fun v => [res (blk v)]) (fun _ => []) :: ss) L M R :=
  f_g hdst (by rintro v ⟨b, rfl⟩; exact h b)
end Go.G


namespace Go.Proofs.YtpfgiednfjfdmaaDoor
open Go.G Debt10
set_option maxRecDepth 1000000
attribute [local irreducible] G.ParO G.Fin
/-- The first of some sets of which there is most. -/
def bestU (f : Nat → Nat) (l : List Nat) : Nat → Nat
  | 0 => 0
  | k + 1 => if k = 0 ∨ f (bestU f l k) < f (l.getD k default) then l.getD k default else bestU f l k
theorem bestU_y {f : Nat → Nat} {l : List Nat} {k : Nat} (h : k = 0 ∨ f (bestU f l k) < f (l.getD k default)) : bestU f l (k + 1) = l.getD k default := if_pos h
theorem bestU_n {f : Nat → Nat} {l : List Nat} {k : Nat} (h : ¬ (k = 0 ∨ f (bestU f l k) < f (l.getD k default))) : bestU f l (k + 1) = bestU f l k := if_neg h
theorem bestU_lt {f : Nat → Nat} {l : List Nat} {n : Nat} (hn : 0 < n) (hl : ∀ k, k < l.length → l.getD k default < n) : ∀ k, k ≤ l.length → bestU f l k < n
  | 0, _ => hn
  | k + 1, h => by
    unfold bestU
    split
    · exact hl k (by omega)
    · exact bestU_lt hn hl k (by omega)
theorem getD_all {l : List Nat} {c : Nat} (hc : 0 < c) (h : ∀ x ∈ l, x < c) (k : Nat) : l.getD k default < c := by
  rw [List.getD_eq_getElem?_getD]
  cases hk : l[k]? with
  | none => exact hc
  | some x => exact h x (List.mem_of_getElem? hk)
theorem swapU_all {l : List Nat} {c j : Nat} (hc : 0 < c) (h : ∀ x ∈ l, x < c) : ∀ x ∈ swapU l j, x < c := fun x hx => by
  rcases List.mem_or_eq_of_mem_set hx with hx | rfl
  · rcases List.mem_or_eq_of_mem_set hx with hx | rfl
    · exact h x hx
    · exact getD_all hc h _
  · exact getD_all hc h _
theorem sinkA_all {a c : Nat} (hc : 0 < c) : ∀ (j : Nat) (l : List Nat), (∀ x ∈ l, x < c) → ∀ x ∈ sinkA a j l, x < c
  | 0, _, h => h
  | j + 1, l, h => by
    unfold sinkA
    split
    · exact sinkA_all hc j _ (swapU_all hc h)
    · exact h
theorem insA_all {a c : Nat} {l : List Nat} (hc : 0 < c) (h : ∀ x ∈ l, x < c) : ∀ k, ∀ x ∈ insA a l k, x < c
  | 0 => h
  | k + 1 => sinkA_all hc _ _ (insA_all hc h k)
/-- Those whose needs are covered, in order; and the first of those of which there are most. -/
def setsT (D : Debt) (dn : Nat) (s : Int) : List Nat := onL (needN D dn) D.people.toNat 0 s 0
def sortT (l : List Nat) : List Nat := insA 0 l (l.length - 1)
theorem sortT_len (l : List Nat) : (sortT l).length = l.length := insA_len ..
def mostS (D : Debt) (dn : Nat) (s : Int) : Nat := bestU pop (sortT (setsT D dn s)) (sortT (setsT D dn s)).length
theorem sets_lt {D : Debt} (hg : GoodD D) {dn : Nat} {s : Int} : ∀ x ∈ setsT D dn s, x < 16 := fun x hx => by
  have h1 := onL_lt (needN D dn) D.people.toNat 0 s 0 (by decide) x hx
  have h2 : 2 ^ (0 + D.people.toNat) ≤ 2 ^ 4 := Nat.pow_le_pow_right (by decide) (by have := hg.np; omega)
  omega
theorem sets_len {D : Debt} (hg : GoodD D) {dn : Nat} {s : Int} : (setsT D dn s).length ≤ 16 := by
  have h1 := onL_len (needN D dn) D.people.toNat 0 s 0
  have h2 : 2 ^ D.people.toNat ≤ 2 ^ 4 := Nat.pow_le_pow_right (by decide) (by have := hg.np; omega)
  exact Nat.le_trans h1 h2
theorem sort_lt {D : Debt} (hg : GoodD D) {dn : Nat} {s : Int} (k : Nat) : (sortT (setsT D dn s)).getD k default < 16 := getD_all (by decide) (insA_all (by decide) (sets_lt hg) _) k
theorem most_lt {D : Debt} (hg : GoodD D) {dn : Nat} {s : Int} : mostS D dn s < 16 := bestU_lt (by decide) (fun k _ => sort_lt hg k) _ (Nat.le_refl _)
abbrev isSd (s : Int) : Bool := decide (0 ≤ s ∧ s ≤ 5000)
abbrev okMD (d s : Int) : Bool := isDy d && isSd s
theorem okMT {d s : Int} (h1 : isDy d = true) (h2 : isSd s = true) : okMD d s = true := by unfold okMD; rw [h1, h2]; rfl
theorem okM1 {d s : Int} (h1 : isDy d = false) : okMD d s = false := by unfold okMD; rw [h1]; rfl
theorem okM2 {d s : Int} (h2 : isSd s = false) : okMD d s = false := by unfold okMD; rw [h2, Bool.and_false]
def mostB (D : Debt) (d s : Int) : (Int × Int) × Int := ansD D (okMD d s) (0, 0) ((pop (mostS D d.toNat s) : Int), (mostS D d.toNat s : Int))
set_option maxHeartbeats 4000000 in
theorem best61_v (xs : List Nat) (hl : xs.length ≤ 1000) (hx : ∀ k, k < xs.length → xs.getD k default < 64) (oa : Option Addr) (cc : Nat) : FnV Tryd.prog 61 [.slice oa xs.length cc, .agg #[.func (.func 62) #[] #[]]] [rowD oa 1 encU xs] (u64 (bestU pop xs xs.length)) := by
 refine FnV.intro Tryd.call61 Tryd.func61 rfl Tryd.ntmps61 rfl ?_
 intro W M Rf
 refine r_seq ?_
 refine r_region ?_
 refine o_boxA rfl rfl rfl rfl rfl (fun b3 => ?_)
 refine o_q _ rfl rfl rfl (v_assign rfl rfl) ?_
 refine o_nil ?_
 with_reducible refine r_then ?_
 refine r_seq ?_
 refine r_seq ?_
 refine r_region ?_
 refine o_q _ rfl rfl rfl (v_move rfl rfl) ?_
 refine o_q _ rfl rfl rfl (v_len rfl rfl Tryd.underlying87 rfl) ?_
 refine o_q _ rfl rfl rfl (v_move rfl rfl) ?_
 refine o_nil ?_
 with_reducible refine r_then ?_
 refine r_block ?_
 refine r_loop (ι := Nat) (fun k => k ≤ xs.length) (fun k => [(3, pt b3 0), (4, u64 (bestU pop xs k)), (7, .slice oa xs.length cc), (8, i64 xs.length), (9, i64 k)]) (fun k => bx b3 95 [.func (.func 62) #[] #[]] :: M) (fun k => [rowD oa 1 encU xs] ++ Rf) (fun k => xs.length - k) 0 ?_ ?_ ?_
 ·
  exact r_here (by repeat (first | exact FSub.nil | refine FSub.cons rfl ?_)) SelMC.sel SubRC.sub
 ·
  omega
 ·
  rintro k hI0
  refine r_seq ?_
  refine r_region ?_
  refine o_q _ rfl rfl rfl (v_lss rfl rfl rfl) ?_
  refine o_nil ?_
  with_reducible refine r_then ?_
  refine r_seq ?_
  refine r_condd rfl (fun hc10 => ?_) (fun hc10 => ?_)
  ·
   refine r_skip ?_
   with_reducible refine r_then ?_
   refine r_seq ?_
   refine r_block ?_
   refine r_seq ?_
   refine r_region ?_
   refine o_q _ rfl rfl rfl (v_move rfl rfl) ?_
   refine o_q _ rfl rfl rfl (v_indexAddrSn rfl Tryd.underlying87 inf89 rfl rfl rfl (by omega) rfl) ?_
   refine o_q _ rfl rfl rfl (v_loadE1 (v := u64 (xs.getD k default)) rfl Tryd.underlying89 rfl rfl (by omega) rfl rfl) ?_
   refine o_q _ rfl rfl rfl (v_assign rfl rfl) ?_
   refine o_q _ rfl rfl rfl (v_assign rfl rfl) ?_
   refine o_nil ?_
   with_reducible refine r_then ?_
   refine r_seq ?_
   refine r_region ?_
   refine o_q _ rfl rfl rfl (v_move rfl rfl) ?_
   refine o_test rfl rfl rfl (v_eql rfl rfl rfl) (fun h15 => ?_) (fun h15 => ?_)
   all_goals
    refine o_q _ rfl rfl rfl (v_move rfl rfl) ?_
    first | refine o_gn rfl rfl rfl rfl ?_ | refine o_g _ rfl rfl rfl rfl (v_fieldAddr rfl Tryd.underlying95 inf93 rfl rfl rfl rfl) ?_
    first | refine o_gn rfl rfl rfl rfl ?_ | refine o_g _ rfl rfl rfl rfl (v_ld1 rfl Tryd.underlying93 rfl rfl rfl) ?_
    first | refine o_gn rfl rfl rfl rfl ?_ | refine o_g _ rfl rfl rfl rfl (v_move rfl rfl) ?_
    first | refine o_gn rfl rfl rfl rfl ?_ | refine o_g _ rfl rfl rfl rfl (v_move rfl rfl) ?_
    first | refine o_gn rfl rfl rfl rfl ?_ | refine o_gtest rfl rfl rfl rfl (OpQ.call (most2_v (xs.getD k default) (bestU pop xs k) (hx k (by omega)) (bestU_lt (by decide) hx k (by omega))) rfl [] [] rfl rfl rfl SubRC.sub) (fun h21 => ?_) (fun h21 => ?_)
    all_goals
     first | refine o_q _ rfl rfl rfl (v_pick_t rfl rfl rfl) ?_ | refine o_q _ rfl rfl rfl (v_pick_f rfl rfl rfl) ?_
     refine o_nil ?_
     with_reducible refine r_then ?_
     refine r_cond rfl (fun hc22 => ?_) (fun hc22 => ?_)
     ·
      first
      | (exfalso; revert hc22; decide)
      |
       skip
       refine r_region ?_
       refine o_q _ rfl rfl rfl (v_move rfl rfl) ?_
       refine o_q _ rfl rfl rfl (v_assign rfl rfl) ?_
       refine o_nil ?_
       with_reducible refine r_in_normal ?_; refine r_then ?_
       refine r_region ?_
       refine o_q _ rfl rfl rfl (v_add rfl rfl rfl (by omega)) ?_
       refine o_q _ rfl rfl rfl (v_move rfl rfl) ?_
       refine o_nil ?_
       with_reducible refine r_then ?_
       refine r_next (k + 1) ?_ ?_ ?_
       ·
        exact r_here (by repeat (first | exact FSub.nil | refine FSub.cons rfl ?_ | refine FSub.cons2 rfl (congrArg (fun x : Nat => u64 x) (by first | rw [bestU_y (Or.inl (by omega))] | rw [bestU_y (Or.inr (by omega))] | (rw [bestU_n (by omega)]))) ?_ | refine FSub.cons2 rfl (congrArg (Value.int .i64) (by omega)) ?_)) SelMC.sel SubRC.sub
       ·
        omega
       ·
        omega
     ·
      first
      | (exfalso; revert hc22; decide)
      |
       skip
       refine r_skip ?_
       with_reducible refine r_in_normal ?_; refine r_then ?_
       refine r_region ?_
       refine o_q _ rfl rfl rfl (v_add rfl rfl rfl (by omega)) ?_
       refine o_q _ rfl rfl rfl (v_move rfl rfl) ?_
       refine o_nil ?_
       with_reducible refine r_then ?_
       refine r_next (k + 1) ?_ ?_ ?_
       ·
        exact r_here (by repeat (first | exact FSub.nil | refine FSub.cons rfl ?_ | refine FSub.cons2 rfl (congrArg (fun x : Nat => u64 x) (by first | rw [bestU_y (Or.inl (by omega))] | rw [bestU_y (Or.inr (by omega))] | (rw [bestU_n (by omega)]))) ?_ | refine FSub.cons2 rfl (congrArg (Value.int .i64) (by omega)) ?_)) SelMC.sel SubRC.sub
       ·
        omega
       ·
        omega
  ·
   refine r_exit ?_
   with_reducible refine r_then_exit ?_; refine r_then_exit ?_; refine r_in_here ?_; refine r_then ?_
   refine r_seq ?_
   refine r_region ?_
   refine o_q _ rfl rfl rfl (v_move rfl rfl) ?_
   refine o_q _ rfl rfl rfl (v_assign rfl rfl) ?_
   refine o_nil ?_
   with_reducible refine r_then ?_
   refine r_ret ?_
   obtain rfl : k = xs.length := by omega
   exact r_retv2 (Rd.tmp rfl rfl) rfl SelMC.sel SubRC.sub
variable (D : Debt) (uo po : Option Addr) (uc pc : Nat)
set_option maxHeartbeats 4000000 in
theorem most26_x1a (d s : Int) (hl1 : D.dues.length ≤ 40) (hl2 : D.paid.length ≤ 40) (hng : ¬ GoodD D) (h1 : isDy d = false) : FnV Tryd.prog 26 [valD D uo po uc pc, i64 d, i64 s] [rowD uo 5 encD D.dues, rowD po 4 encP D.paid, rowD (some ⟨0, 0, none⟩) 1 encE ([0, 1] : List Nat)] (.tuple #[i64 (mostB D d s).1.1, i64 (mostB D d s).1.2, i64 (mostB D d s).2]) := by
 refine FnV.introD Tryd.call26 Tryd.func26 rfl Tryd.ntmps26 rfl ?_
 intro W M Rf
 refine r_seq ?_
 refine r_region ?_
 refine o_boxA rfl rfl rfl rfl rfl (fun b3 => ?_)
 refine o_box1 rfl rfl rfl rfl rfl rfl (fun b4 => ?_)
 refine o_q _ rfl rfl rfl (v_assign rfl rfl) ?_
 refine o_q _ rfl rfl rfl (v_assign rfl rfl) ?_
 refine o_alloc rfl inf30 rfl rfl rfl rfl rfl (fun b8 => ?_)
 refine o_nil ?_
 with_reducible refine r_then ?_
 refine r_seq ?_
 refine r_region ?_
 refine o_defer rfl rfl rfl rfl ?_
 refine o_nil ?_
 with_reducible refine r_then ?_
 refine r_seq ?_
 refine r_parX 9 mixed (by kernel_rfl) (by rfl) ?_
 refine p_q _ rfl rfl rfl (fun _ _ => v_ldW rfl Tryd.underlying25 rfl inf25 rfl rfl) ?_
 refine p_q _ rfl rfl rfl (fun _ _ => v_ld1 rfl Tryd.underlying3 rfl rfl rfl) ?_
 refine p_q _ rfl rfl rfl (fun _ _ => v_cast (v := .bool false) (OpQ.fn (isDay_v _) rfl rfl SubRC.sub) (congrArg Value.bool h1)) ?_
 refine p_q _ rfl rfl rfl (fun _ _ => v_move rfl rfl) ?_
 refine p_gn rfl rfl rfl rfl ?_
 refine p_gn rfl rfl rfl rfl ?_
 refine p_q _ rfl rfl rfl (fun _ _ => v_pick_f rfl rfl rfl) ?_
 refine p_deadX (look_x1 D uo po uc pc _ hl1 hl2 hng) rfl rfl rfl rfl rfl SubRC.sub ?_
 refine p_alloc rfl inf69 rfl rfl rfl rfl rfl ?_
 refine p_nilX (panOf (.iface 103 (i64 1))) (by simp only [List.nil_append, List.cons_append]; rfl) rfl (by kernel_rfl) rfl ?_ ?_
 ·
  with_reducible refine r_then_panic ?_
  exact d_panv answer_ans (Rd.three rfl (RdI.tmp rfl) (RdI.tmp rfl) (RdI.cell1 Tryd.underlying30 rfl rfl rfl)) (by rw [mostB, ansD_n (chkD_1 hng) (by decide)]; try rfl) SelMC.sel SubRC.sub
 ·
  refine f_q rfl ?_
  refine f_q rfl ?_
  refine f_q rfl ?_
  refine f_q rfl ?_
  refine f_q rfl ?_
  refine f_q rfl ?_
  refine f_q rfl ?_
  exact f_dead
set_option maxHeartbeats 4000000 in
theorem most26_x1b (d s : Int) (hl1 : D.dues.length ≤ 40) (hl2 : D.paid.length ≤ 40) (hng : ¬ GoodD D) (h1 : isDy d = true) : FnV Tryd.prog 26 [valD D uo po uc pc, i64 d, i64 s] [rowD uo 5 encD D.dues, rowD po 4 encP D.paid, rowD (some ⟨0, 0, none⟩) 1 encE ([0, 1] : List Nat)] (.tuple #[i64 (mostB D d s).1.1, i64 (mostB D d s).1.2, i64 (mostB D d s).2]) := by
 refine FnV.introD Tryd.call26 Tryd.func26 rfl Tryd.ntmps26 rfl ?_
 intro W M Rf
 refine r_seq ?_
 refine r_region ?_
 refine o_boxA rfl rfl rfl rfl rfl (fun b3 => ?_)
 refine o_box1 rfl rfl rfl rfl rfl rfl (fun b4 => ?_)
 refine o_q _ rfl rfl rfl (v_assign rfl rfl) ?_
 refine o_q _ rfl rfl rfl (v_assign rfl rfl) ?_
 refine o_alloc rfl inf30 rfl rfl rfl rfl rfl (fun b8 => ?_)
 refine o_nil ?_
 with_reducible refine r_then ?_
 refine r_seq ?_
 refine r_region ?_
 refine o_defer rfl rfl rfl rfl ?_
 refine o_nil ?_
 with_reducible refine r_then ?_
 refine r_seq ?_
 refine r_parX 9 mixed (by kernel_rfl) (by rfl) ?_
 refine p_q _ rfl rfl rfl (fun _ _ => v_ldW rfl Tryd.underlying25 rfl inf25 rfl rfl) ?_
 refine p_q _ rfl rfl rfl (fun _ _ => v_ld1 rfl Tryd.underlying3 rfl rfl rfl) ?_
 refine p_q _ rfl rfl rfl (fun _ _ => v_cast (v := .bool true) (OpQ.fn (isDay_v _) rfl rfl SubRC.sub) (congrArg Value.bool h1)) ?_
 refine p_q _ rfl rfl rfl (fun _ _ => v_move rfl rfl) ?_
 refine p_g _ rfl rfl rfl rfl (fun _ _ => v_move rfl rfl) ?_
 refine p_g _ rfl rfl rfl rfl (fun _ _ => OpQ.fn (within_v s 0 5000) rfl rfl SubRC.sub) ?_
 refine p_q _ rfl rfl rfl (fun _ _ => v_pick_t rfl rfl rfl) ?_
 refine p_deadX (look_x1 D uo po uc pc _ hl1 hl2 hng) rfl rfl rfl rfl rfl SubRC.sub ?_
 refine p_alloc rfl inf69 rfl rfl rfl rfl rfl ?_
 refine p_nilX (panOf (.iface 103 (i64 1))) (by simp only [List.nil_append, List.cons_append]; rfl) rfl (by kernel_rfl) rfl ?_ ?_
 ·
  with_reducible refine r_then_panic ?_
  exact d_panv answer_ans (Rd.three rfl (RdI.tmp rfl) (RdI.tmp rfl) (RdI.cell1 Tryd.underlying30 rfl rfl rfl)) (by rw [mostB, ansD_n (chkD_1 hng) (by decide)]; try rfl) SelMC.sel SubRC.sub
 ·
  refine f_q rfl ?_
  refine f_q rfl ?_
  refine f_q rfl ?_
  refine f_q rfl ?_
  refine f_q rfl ?_
  refine f_q rfl ?_
  refine f_q rfl ?_
  exact f_dead
set_option maxHeartbeats 4000000 in
theorem most26_x2a (d s : Int) (hl1 : D.dues.length ≤ 40) (hl2 : D.paid.length ≤ 40) (hg : GoodD D) (h1 : isDy d = false) : FnV Tryd.prog 26 [valD D uo po uc pc, i64 d, i64 s] [rowD uo 5 encD D.dues, rowD po 4 encP D.paid, rowD (some ⟨0, 0, none⟩) 1 encE ([0, 1] : List Nat)] (.tuple #[i64 (mostB D d s).1.1, i64 (mostB D d s).1.2, i64 (mostB D d s).2]) := by
 refine FnV.introD Tryd.call26 Tryd.func26 rfl Tryd.ntmps26 rfl ?_
 intro W M Rf
 refine r_seq ?_
 refine r_region ?_
 refine o_boxA rfl rfl rfl rfl rfl (fun b3 => ?_)
 refine o_box1 rfl rfl rfl rfl rfl rfl (fun b4 => ?_)
 refine o_q _ rfl rfl rfl (v_assign rfl rfl) ?_
 refine o_q _ rfl rfl rfl (v_assign rfl rfl) ?_
 refine o_alloc rfl inf30 rfl rfl rfl rfl rfl (fun b8 => ?_)
 refine o_nil ?_
 with_reducible refine r_then ?_
 refine r_seq ?_
 refine r_region ?_
 refine o_defer rfl rfl rfl rfl ?_
 refine o_nil ?_
 with_reducible refine r_then ?_
 refine r_seq ?_
 refine r_parX 9 mixed (by kernel_rfl) (by rfl) ?_
 refine p_q _ rfl rfl rfl (fun _ _ => v_ldW rfl Tryd.underlying25 rfl inf25 rfl rfl) ?_
 refine p_q _ rfl rfl rfl (fun _ _ => v_ld1 rfl Tryd.underlying3 rfl rfl rfl) ?_
 refine p_q _ rfl rfl rfl (fun _ _ => v_cast (v := .bool false) (OpQ.fn (isDay_v _) rfl rfl SubRC.sub) (congrArg Value.bool h1)) ?_
 refine p_q _ rfl rfl rfl (fun _ _ => v_move rfl rfl) ?_
 refine p_gn rfl rfl rfl rfl ?_
 refine p_gn rfl rfl rfl rfl ?_
 refine p_q _ rfl rfl rfl (fun _ _ => v_pick_f rfl rfl rfl) ?_
 refine p_deadX (look_x2 D uo po uc pc hl1 hl2 hg) rfl rfl rfl rfl rfl SubRC.sub ?_
 refine p_alloc rfl inf69 rfl rfl rfl rfl rfl ?_
 refine p_nilX (panOf (.iface 103 (i64 2))) (by simp only [List.nil_append, List.cons_append]; rfl) rfl (by kernel_rfl) rfl ?_ ?_
 ·
  with_reducible refine r_then_panic ?_
  exact d_panv answer_ans (Rd.three rfl (RdI.tmp rfl) (RdI.tmp rfl) (RdI.cell1 Tryd.underlying30 rfl rfl rfl)) (by rw [mostB, ansD_n (chkD_2 hg (okM1 h1)) (by decide)]; try rfl) SelMC.sel SubRC.sub
 ·
  refine f_q rfl ?_
  refine f_q rfl ?_
  refine f_q rfl ?_
  refine f_q rfl ?_
  refine f_q rfl ?_
  refine f_q rfl ?_
  refine f_q rfl ?_
  exact f_dead
set_option maxHeartbeats 4000000 in
theorem most26_x2b (d s : Int) (hl1 : D.dues.length ≤ 40) (hl2 : D.paid.length ≤ 40) (hg : GoodD D) (h1 : isDy d = true) (h2 : isSd s = false) : FnV Tryd.prog 26 [valD D uo po uc pc, i64 d, i64 s] [rowD uo 5 encD D.dues, rowD po 4 encP D.paid, rowD (some ⟨0, 0, none⟩) 1 encE ([0, 1] : List Nat)] (.tuple #[i64 (mostB D d s).1.1, i64 (mostB D d s).1.2, i64 (mostB D d s).2]) := by
 refine FnV.introD Tryd.call26 Tryd.func26 rfl Tryd.ntmps26 rfl ?_
 intro W M Rf
 refine r_seq ?_
 refine r_region ?_
 refine o_boxA rfl rfl rfl rfl rfl (fun b3 => ?_)
 refine o_box1 rfl rfl rfl rfl rfl rfl (fun b4 => ?_)
 refine o_q _ rfl rfl rfl (v_assign rfl rfl) ?_
 refine o_q _ rfl rfl rfl (v_assign rfl rfl) ?_
 refine o_alloc rfl inf30 rfl rfl rfl rfl rfl (fun b8 => ?_)
 refine o_nil ?_
 with_reducible refine r_then ?_
 refine r_seq ?_
 refine r_region ?_
 refine o_defer rfl rfl rfl rfl ?_
 refine o_nil ?_
 with_reducible refine r_then ?_
 refine r_seq ?_
 refine r_parX 9 mixed (by kernel_rfl) (by rfl) ?_
 refine p_q _ rfl rfl rfl (fun _ _ => v_ldW rfl Tryd.underlying25 rfl inf25 rfl rfl) ?_
 refine p_q _ rfl rfl rfl (fun _ _ => v_ld1 rfl Tryd.underlying3 rfl rfl rfl) ?_
 refine p_q _ rfl rfl rfl (fun _ _ => v_cast (v := .bool true) (OpQ.fn (isDay_v _) rfl rfl SubRC.sub) (congrArg Value.bool h1)) ?_
 refine p_q _ rfl rfl rfl (fun _ _ => v_move rfl rfl) ?_
 refine p_g _ rfl rfl rfl rfl (fun _ _ => v_move rfl rfl) ?_
 refine p_g _ rfl rfl rfl rfl (fun _ _ => v_cast (v := .bool false) (OpQ.fn (within_v s 0 5000) rfl rfl SubRC.sub) (congrArg Value.bool h2)) ?_
 refine p_q _ rfl rfl rfl (fun _ _ => v_pick_t rfl rfl rfl) ?_
 refine p_deadX (look_x2 D uo po uc pc hl1 hl2 hg) rfl rfl rfl rfl rfl SubRC.sub ?_
 refine p_alloc rfl inf69 rfl rfl rfl rfl rfl ?_
 refine p_nilX (panOf (.iface 103 (i64 2))) (by simp only [List.nil_append, List.cons_append]; rfl) rfl (by kernel_rfl) rfl ?_ ?_
 ·
  with_reducible refine r_then_panic ?_
  exact d_panv answer_ans (Rd.three rfl (RdI.tmp rfl) (RdI.tmp rfl) (RdI.cell1 Tryd.underlying30 rfl rfl rfl)) (by rw [mostB, ansD_n (chkD_2 hg (okM2 h2)) (by decide)]; try rfl) SelMC.sel SubRC.sub
 ·
  refine f_q rfl ?_
  refine f_q rfl ?_
  refine f_q rfl ?_
  refine f_q rfl ?_
  refine f_q rfl ?_
  refine f_q rfl ?_
  refine f_q rfl ?_
  exact f_dead
set_option maxHeartbeats 4000000 in
theorem most26_ok (d s : Int) (hl1 : D.dues.length ≤ 40) (hl2 : D.paid.length ≤ 40) (hg : GoodD D) (h1 : isDy d = true) (h2 : isSd s = true) (hsrt : ∀ (bb cap : Nat) (sp : List Value), FnC Tryd.prog 60 [.slice (some ⟨bb, 0, none⟩) (setsT D d.toNat s).length cap] (bx bb 89 ((setsT D d.toNat s).flatMap encU ++ sp)) [] (.tuple #[]) (bx bb 89 ((sortT (setsT D d.toNat s)).flatMap encU ++ sp))) : FnV Tryd.prog 26 [valD D uo po uc pc, i64 d, i64 s] [rowD uo 5 encD D.dues, rowD po 4 encP D.paid, rowD (some ⟨0, 0, none⟩) 1 encE ([0, 1] : List Nat)] (.tuple #[i64 (mostB D d s).1.1, i64 (mostB D d s).1.2, i64 (mostB D d s).2]) := by
 obtain ⟨dn, rfl⟩ : ∃ n : Nat, d = n := ⟨d.toNat, by have := of_decide_eq_true h1; omega⟩
 have hd := of_decide_eq_true h1
 have hs5 := of_decide_eq_true h2
 have hq1 := hg.np
 have hdn : dn ≤ 30 := by omega
 rw [Int.toNat_natCast] at hsrt
 refine FnV.introD Tryd.call26 Tryd.func26 rfl Tryd.ntmps26 rfl ?_
 intro W M Rf
 refine r_seq ?_
 refine r_region ?_
 refine o_boxA rfl rfl rfl rfl rfl (fun b3 => ?_)
 refine o_box1 rfl rfl rfl rfl rfl rfl (fun b4 => ?_)
 refine o_q _ rfl rfl rfl (v_assign rfl rfl) ?_
 refine o_q _ rfl rfl rfl (v_assign rfl rfl) ?_
 refine o_alloc rfl inf30 rfl rfl rfl rfl rfl (fun b8 => ?_)
 refine o_nil ?_
 with_reducible refine r_then ?_
 refine r_seq ?_
 refine r_region ?_
 refine o_defer rfl rfl rfl rfl ?_
 refine o_nil ?_
 with_reducible refine r_then ?_
 refine r_seq ?_
 refine r_par' 9 mixed (by kernel_rfl) (by rfl) ?_
 refine p_q _ rfl rfl rfl (fun _ _ => v_ldW rfl Tryd.underlying25 rfl inf25 rfl rfl) ?_
 refine p_q _ rfl rfl rfl (fun _ _ => v_ld1 rfl Tryd.underlying3 rfl rfl rfl) ?_
 refine p_q _ rfl rfl rfl (fun _ _ => v_cast (v := .bool true) (OpQ.fn (isDay_v _) rfl rfl SubRC.sub) (congrArg Value.bool h1)) ?_
 refine p_q _ rfl rfl rfl (fun _ _ => v_move rfl rfl) ?_
 refine p_g _ rfl rfl rfl rfl (fun _ _ => v_move rfl rfl) ?_
 refine p_g _ rfl rfl rfl rfl (fun _ _ => v_cast (v := .bool true) (OpQ.fn (within_v s 0 5000) rfl rfl SubRC.sub) (congrArg Value.bool h2)) ?_
 refine p_q _ rfl rfl rfl (fun _ _ => v_pick_t rfl rfl rfl) ?_
 refine p_open1 (look_ok D uo po uc pc hl1 hl2 hg) rfl rfl rfl rfl rfl SubRC.sub ?_
 refine p_alloc rfl inf69 rfl rfl rfl rfl rfl ?_
 refine p_nil2 (by simp only [List.nil_append, List.cons_append]; rfl) rfl ?_
 refine f_q rfl ?_
 refine f_q rfl ?_
 refine f_q rfl ?_
 refine f_q rfl ?_
 refine f_q rfl ?_
 refine f_q rfl ?_
 refine f_q rfl ?_
 refine f_open1 rfl (fun b20 => ?_)
 refine f_alloc rfl (fun b9 => ?_)
 refine f_nil ?_
 refine o_st rfl inf69 rfl rfl rfl rfl rfl rfl rfl rfl ?_
 refine o_nil ?_
 with_reducible refine r_then ?_
 refine r_seq ?_
 refine opened D uo po uc pc b20 (fun mb => ?_)
 refine Imp.box_to b9 [pt b20 0] rfl ?_
 refine r_region ?_
 refine o_alloc rfl inf87 rfl rfl rfl rfl rfl (fun b10 => ?_)
 refine o_nil ?_
 with_reducible refine r_then ?_
 refine r_seq ?_
 refine r_region ?_
 refine o_alloc rfl inf88 rfl rfl rfl rfl rfl (fun b11 => ?_)
 refine o_nil ?_
 with_reducible refine r_then ?_
 refine r_seq ?_
 refine r_region ?_
 refine o_q _ rfl rfl rfl (v_makeFunc rfl rfl rfl) ?_
 refine o_st rfl inf88 rfl rfl rfl rfl rfl rfl rfl rfl ?_
 refine o_nil ?_
 with_reducible refine r_then ?_
 refine r_seq ?_
 refine Imp.box_to b11 [cloV b3 b10 b11 b9 b4] rfl ?_
 refine Imp.box_to b10 [.slice none 0 0] rfl ?_
 refine Imp.box_to b4 [i64 (dn : Int)] rfl ?_
 refine Imp.sealB b3 ?_
 refine Imp.sealB b11 ?_
 refine Imp.sealB b9 ?_
 refine Imp.sealB b4 ?_
 refine Imp.box_to b8 [i64 0] rfl ?_
 refine Imp.nilL 89 1 encU ?_
 refine on_pk (M' := bx b8 30 [i64 0] :: M) (mb := mb) (b4 := b10) (v := .slice none 0 0) (G := fun _ => none) (xs := []) SelMC.sel ?_
 refine r_region ?_
 refine o_q _ rfl rfl rfl (v_lf1 rfl Tryd.underlying88 rfl rfl rfl) ?_
 refine o_q _ rfl rfl rfl (v_move rfl rfl) ?_
 refine o_fnXV [pt b3 0, pt b10 0, pt b11 0, pt b9 0, pt b4 0] (on_s D uo po uc pc b20 mb b3 b10 b11 b9 b4 dn hg hdn D.people.toNat (fun _ => none) 0 s 0 [] (by omega) (by omega) (by decide) (by have h4 : 2 ^ D.people.toNat ≤ 2 ^ 4 := Nat.pow_le_pow_right (by decide) (by omega); simp only [List.length_nil]; omega)) rfl rfl rfl rfl rfl rfl rfl SubRC.sub (fun x24 _ => ?_)
 refine o_nil ?_
 with_reducible refine r_then ?_
 refine r_seq ?_
 refine on_unpk (mb := mb) (b4 := b10) (G := x24) (xs := [] ++ onL (needN D dn) D.people.toNat 0 s 0) (fun v => ?_)
 refine Imp.own_to v (setsT D dn s) (List.nil_append _) ?_
 refine Imp.unownB (xs := setsT D dn s) v (onL_ne (needN D dn) D.people.toNat 0 s 0 (by omega)) (fun bb cap sp hv => ?_)
 subst hv
 refine r_region ?_
 refine o_q _ rfl rfl rfl (v_ld1 rfl Tryd.underlying87 rfl rfl rfl) ?_
 refine o_fnc (hsrt bb cap sp) rfl [] [] rfl rfl rfl rfl rfl rfl SubRC.sub ?_
 refine o_nil ?_
 with_reducible refine r_then ?_
 refine r_seq ?_
 refine Imp.sealB bb ?_
 refine Imp.rowP (b := bb) (sortT (setsT D dn s)) encU_len rfl ?_
 refine Imp.box_to b10 [.slice (some ⟨bb, 0, none⟩) (sortT (setsT D dn s)).length cap] (by rw [sortT_len]) ?_
 refine r_region ?_
 refine o_q _ rfl rfl rfl (v_ld1 rfl Tryd.underlying87 rfl rfl rfl) ?_
 refine o_q _ rfl rfl rfl (v_bS rfl Tryd.underlying95 inf95 plt95 rfl rfl rfl (by repeat (first | exact trivial | refine ⟨rfl, ?_⟩)) (by rfl)) ?_
 refine o_q _ rfl rfl rfl (OpQ.fn (best61_v (sortT (setsT D dn s)) (by rw [sortT_len]; have := sets_len (dn := dn) (s := s) hg; omega) (fun k _ => Nat.lt_trans (sort_lt hg k) (by decide)) (some ⟨bb, 0, none⟩) cap) rfl rfl SubRC.sub) ?_
 refine o_q _ rfl rfl rfl (v_assign rfl rfl) ?_
 refine o_nil ?_
 with_reducible refine r_then ?_
 refine r_seq ?_
 refine r_region ?_
 refine o_q _ rfl rfl rfl (v_move rfl rfl) ?_
 refine o_q _ rfl rfl rfl (OpQ.fn (ones_v (mostS D dn s) (by have := most_lt (dn := dn) (s := s) hg; omega)) rfl rfl SubRC.sub) ?_
 refine o_q _ rfl rfl rfl (v_move rfl rfl) ?_
 refine o_q _ rfl rfl rfl (v_conv rfl Tryd.underlying89 Tryd.underlying3 rfl (IntWalk.i64_in _ (by have h9 : bestU pop (sortT (setsT D dn s)) (sortT (setsT D dn s)).length < 16 := most_lt hg; omega))) ?_
 refine o_q _ rfl rfl rfl (v_assign rfl rfl) ?_
 refine o_q _ rfl rfl rfl (v_assign rfl rfl) ?_
 refine o_st rfl inf30 rfl rfl rfl rfl rfl rfl rfl rfl ?_
 refine o_nil ?_
 with_reducible refine r_then ?_
 refine r_ret ?_
 refine Imp.box_to b8 [i64 0] rfl ?_
 exact d_retv answer_ans (Rd.three rfl (RdI.tmp rfl) (RdI.tmp rfl) (RdI.cell1 Tryd.underlying30 rfl rfl rfl)) (by rw [mostB, ansD_0 (chkD_0 hg (okMT h1 h2)), Int.toNat_natCast]; try rfl) SelMC.sel SubRC.sub
theorem most26_g (d s : Int) (hl1 : D.dues.length ≤ 40) (hl2 : D.paid.length ≤ 40) (hsrt : GoodD D → isDy d = true → isSd s = true → ∀ (bb cap : Nat) (sp : List Value), FnC Tryd.prog 60 [.slice (some ⟨bb, 0, none⟩) (setsT D d.toNat s).length cap] (bx bb 89 ((setsT D d.toNat s).flatMap encU ++ sp)) [] (.tuple #[]) (bx bb 89 ((sortT (setsT D d.toNat s)).flatMap encU ++ sp))) : FnV Tryd.prog 26 [valD D uo po uc pc, i64 d, i64 s] [rowD uo 5 encD D.dues, rowD po 4 encP D.paid, rowD (some ⟨0, 0, none⟩) 1 encE ([0, 1] : List Nat)] (.tuple #[i64 (mostB D d s).1.1, i64 (mostB D d s).1.2, i64 (mostB D d s).2]) := by
  by_cases hg : GoodD D
  · cases h1 : isDy d
    · exact most26_x2a D uo po uc pc d s hl1 hl2 hg h1
    · cases h2 : isSd s
      · exact most26_x2b D uo po uc pc d s hl1 hl2 hg h1 h2
      · exact most26_ok D uo po uc pc d s hl1 hl2 hg h1 h2 (hsrt hg h1 h2)
  · cases h1 : isDy d
    · exact most26_x1a D uo po uc pc d s hl1 hl2 hg h1
    · exact most26_x1b D uo po uc pc d s hl1 hl2 hg h1
theorem most26_12 (d s : Int) (hl1 : D.dues.length ≤ 40) (hl2 : D.paid.length ≤ 40) (h12 : (setsT D d.toNat s).length ≤ 12) : FnV Tryd.prog 26 [valD D uo po uc pc, i64 d, i64 s] [rowD uo 5 encD D.dues, rowD po 4 encP D.paid, rowD (some ⟨0, 0, none⟩) 1 encE ([0, 1] : List Nat)] (.tuple #[i64 (mostB D d s).1.1, i64 (mostB D d s).1.2, i64 (mostB D d s).2]) := most26_g D uo po uc pc d s hl1 hl2 (fun _ _ _ bb cap sp => sortU_ins (setsT D d.toNat s) (by omega) bb cap sp h12)
end Go.Proofs.YtpfgiednfjfdmaaDoor


namespace Go.Proofs.YtpfgiednfjfdmaaDoor
open Go.G Debt10
set_option maxRecDepth 1000000
attribute [local irreducible] G.ParO G.Fin
theorem guard29 : Tryd.prog.eqGuardType Tryd.prog.depth 29 = false := by kernel_rfl
theorem pc3 {w : World} {us : Array Value} {k : Nat} {v : Value} (h : us[k]? = some v) : (part 3 us k).run Tryd.prog w = .ok v w := run_partC Tryd.underlying3 rfl h
theorem eqIn29 (dd : Nat) (a b c d : Int) (w : World) : (Op.equalIn (dd + 1 + 1) 29 (.agg #[i64 a, i64 b]) (.agg #[i64 c, i64 d])).run Tryd.prog w = .ok (decide (a = c ∧ b = d ∧ True)) w := by
  refine eq_struct Tryd.underlying29 (by kernel_rfl) ?_
  exact fields_cons rfl (pc3 rfl) (pc3 rfl) (eq_int Tryd.underlying3) (fields_cons rfl (pc3 rfl) (pc3 rfl) (eq_int Tryd.underlying3) fields_nil)
theorem eq29 (a b c d : Int) (w : World) : (Op.equal 29 (.agg #[i64 a, i64 b]) (.agg #[i64 c, i64 d])).run Tryd.prog w = .ok (decide ((⟨a, b⟩ : Debt10.Span) = ⟨c, d⟩)) w :=
  eq_to (fun w => eqIn29 9998 a b c d w) (by simp) w
set_option maxHeartbeats 4000000 in
theorem rin_v (a b c : Int) : FnV Tryd.prog 68 [i64 a, i64 b, i64 c] [] (.bool (decide (b ≤ a ∧ a ≤ c))) := by
 refine FnV.intro Tryd.call68 Tryd.func68 rfl Tryd.ntmps68 rfl ?_
 intro W M Rf
 refine r_seq ?_
 refine r_region ?_
 refine o_q _ rfl rfl rfl (v_assign rfl rfl) ?_
 refine o_nil ?_
 with_reducible refine r_then ?_
 refine r_seq ?_
 refine r_region ?_
 refine o_q _ rfl rfl rfl (v_move rfl rfl) ?_
 refine o_q _ rfl rfl rfl (v_move rfl rfl) ?_
 refine o_test rfl rfl rfl (v_leq rfl rfl rfl) (fun h9 => ?_) (fun h9 => ?_)
 all_goals
  refine o_q _ rfl rfl rfl (v_move rfl rfl) ?_
  first | refine o_gn rfl rfl rfl rfl ?_ | refine o_g _ rfl rfl rfl rfl (v_move rfl rfl) ?_
  first | refine o_gn rfl rfl rfl rfl ?_ | refine o_g _ rfl rfl rfl rfl (v_move rfl rfl) ?_
  first | refine o_gn rfl rfl rfl rfl ?_ | refine o_gtest rfl rfl rfl rfl (v_leq rfl rfl rfl) (fun h13 => ?_) (fun h13 => ?_)
  all_goals
   first | refine o_q _ rfl rfl rfl (v_pick_t rfl rfl rfl) ?_ | refine o_q _ rfl rfl rfl (v_pick_f rfl rfl rfl) ?_
   refine o_q _ rfl rfl rfl (v_assign rfl rfl) ?_
   refine o_nil ?_
   with_reducible refine r_then ?_
   refine r_ret ?_
   first | exact r_retv2 (Rd.tmp rfl rfl) (congrArg Value.bool (decide_eq_true (by omega)).symm) SelMC.sel SubRC.sub | exact r_retv2 (Rd.tmp rfl rfl) (congrArg Value.bool (decide_eq_false (by omega)).symm) SelMC.sel SubRC.sub
set_option maxHeartbeats 4000000 in
theorem rnum_v (lo hi : Int) : FnV Tryd.prog 69 [.agg #[i64 lo, i64 hi]] [] (.bool (decide (1 ≤ lo ∧ lo ≤ hi ∧ hi ≤ 500 ∧ hi - lo ≤ 20))) := by
 refine FnV.intro Tryd.call69 Tryd.func69 rfl Tryd.ntmps69 rfl ?_
 intro W M Rf
 refine r_seq ?_
 refine r_region ?_
 refine o_boxA rfl rfl rfl rfl rfl (fun b1 => ?_)
 refine o_q _ rfl rfl rfl (v_assign rfl rfl) ?_
 refine o_nil ?_
 with_reducible refine r_then ?_
 refine r_seq ?_
 refine r_region ?_
 refine o_q _ rfl rfl rfl (v_fieldAddr rfl Tryd.underlying29 inf3 rfl rfl rfl rfl) ?_
 refine o_q _ rfl rfl rfl (v_ld1 rfl Tryd.underlying3 rfl rfl rfl) ?_
 refine o_test rfl rfl rfl (v_leq rfl rfl rfl) (fun h5 => ?_) (fun h5 => ?_)
 all_goals
  refine o_q _ rfl rfl rfl (v_move rfl rfl) ?_
  first | refine o_gn rfl rfl rfl rfl ?_ | refine o_g _ rfl rfl rfl rfl (v_fieldAddr rfl Tryd.underlying29 inf3 rfl rfl rfl rfl) ?_
  first | refine o_gn rfl rfl rfl rfl ?_ | refine o_g _ rfl rfl rfl rfl (v_ld1 rfl Tryd.underlying3 rfl rfl rfl) ?_
  first | refine o_gn rfl rfl rfl rfl ?_ | refine o_g _ rfl rfl rfl rfl (v_fieldAddr rfl Tryd.underlying29 inf3 rfl rfl rfl rfl) ?_
  first | refine o_gn rfl rfl rfl rfl ?_ | refine o_g _ rfl rfl rfl rfl (v_ld1 rfl Tryd.underlying3 rfl rfl rfl) ?_
  first | refine o_gn rfl rfl rfl rfl ?_ | refine o_gtest rfl rfl rfl rfl (v_leq rfl rfl rfl) (fun h11 => ?_) (fun h11 => ?_)
  all_goals
   first | refine o_q _ rfl rfl rfl (v_pick_t rfl rfl rfl) ?_ | refine o_q _ rfl rfl rfl (v_pick_f rfl rfl rfl) ?_
   refine o_q _ rfl rfl rfl (v_move rfl rfl) ?_
   first | refine o_gn rfl rfl rfl rfl ?_ | refine o_g _ rfl rfl rfl rfl (v_fieldAddr rfl Tryd.underlying29 inf3 rfl rfl rfl rfl) ?_
   first | refine o_gn rfl rfl rfl rfl ?_ | refine o_g _ rfl rfl rfl rfl (v_ld1 rfl Tryd.underlying3 rfl rfl rfl) ?_
   first | refine o_gn rfl rfl rfl rfl ?_ | refine o_gtest rfl rfl rfl rfl (v_leq rfl rfl rfl) (fun h16 => ?_) (fun h16 => ?_)
   all_goals
    first | refine o_q _ rfl rfl rfl (v_pick_t rfl rfl rfl) ?_ | refine o_q _ rfl rfl rfl (v_pick_f rfl rfl rfl) ?_
    refine o_q _ rfl rfl rfl (v_move rfl rfl) ?_
    first | refine o_gn rfl rfl rfl rfl ?_ | refine o_g _ rfl rfl rfl rfl (v_fieldAddr rfl Tryd.underlying29 inf3 rfl rfl rfl rfl) ?_
    first | refine o_gn rfl rfl rfl rfl ?_ | refine o_g _ rfl rfl rfl rfl (v_ld1 rfl Tryd.underlying3 rfl rfl rfl) ?_
    first | refine o_gn rfl rfl rfl rfl ?_ | refine o_g _ rfl rfl rfl rfl (v_fieldAddr rfl Tryd.underlying29 inf3 rfl rfl rfl rfl) ?_
    first | refine o_gn rfl rfl rfl rfl ?_ | refine o_g _ rfl rfl rfl rfl (v_ld1 rfl Tryd.underlying3 rfl rfl rfl) ?_
    first | refine o_gn rfl rfl rfl rfl ?_ | refine o_g _ rfl rfl rfl rfl (v_sub rfl rfl rfl (by omega)) ?_
    first | refine o_gn rfl rfl rfl rfl ?_ | refine o_gtest rfl rfl rfl rfl (v_leq rfl rfl rfl) (fun h24 => ?_) (fun h24 => ?_)
    all_goals
     first | refine o_q _ rfl rfl rfl (v_pick_t rfl rfl rfl) ?_ | refine o_q _ rfl rfl rfl (v_pick_f rfl rfl rfl) ?_
     refine o_q _ rfl rfl rfl (v_assign rfl rfl) ?_
     refine o_nil ?_
     with_reducible refine r_then ?_
     refine r_ret ?_
     first | exact r_retv2 (Rd.tmp rfl rfl) (congrArg Value.bool (decide_eq_true (by omega)).symm) SelMC.sel SubRC.sub | exact r_retv2 (Rd.tmp rfl rfl) (congrArg Value.bool (decide_eq_false (by omega)).symm) SelMC.sel SubRC.sub
set_option maxHeartbeats 4000000 in
theorem rDay_v (n : Int) : FnV Tryd.prog 50 [i64 n] [] (.bool (isDy n)) := by
 refine FnV.intro Tryd.call50 Tryd.func50 rfl Tryd.ntmps50 rfl ?_
 intro W M Rf
 refine r_seq ?_
 refine r_region ?_
 refine o_q _ rfl rfl rfl (v_assign rfl rfl) ?_
 refine o_nil ?_
 with_reducible refine r_then ?_
 refine r_seq ?_
 refine r_region ?_
 refine o_q _ rfl rfl rfl (v_move rfl rfl) ?_
 refine o_q _ rfl rfl rfl (OpQ.fn (rin_v _ _ _) rfl rfl SubRC.sub) ?_
 refine o_q _ rfl rfl rfl (v_assign rfl rfl) ?_
 refine o_nil ?_
 with_reducible refine r_then ?_
 refine r_ret ?_
 exact r_retv2 (Rd.tmp rfl rfl) rfl SelMC.sel SubRC.sub
variable (D : Debt) (uo po : Option Addr) (uc pc : Nat)
set_option maxHeartbeats 4000000 in
theorem rWho_v (n : Int) : FnV Tryd.prog 49 [valD D uo po uc pc, i64 n] [] (.bool (isW D n)) := by
 refine FnV.intro Tryd.call49 Tryd.func49 rfl Tryd.ntmps49 rfl ?_
 intro W M Rf
 refine r_seq ?_
 refine r_region ?_
 refine o_boxA rfl rfl rfl rfl rfl (fun b2 => ?_)
 refine o_q _ rfl rfl rfl (v_assign rfl rfl) ?_
 refine o_nil ?_
 with_reducible refine r_then ?_
 refine r_seq ?_
 refine r_region ?_
 refine o_q _ rfl rfl rfl (v_move rfl rfl) ?_
 refine o_q _ rfl rfl rfl (v_fieldAddr rfl Tryd.underlying25 inf3 rfl rfl rfl rfl) ?_
 refine o_q _ rfl rfl rfl (v_ld1 rfl Tryd.underlying3 rfl rfl rfl) ?_
 refine o_q _ rfl rfl rfl (v_subW rfl rfl rfl) ?_
 refine o_q _ rfl rfl rfl (OpQ.fn (rin_v _ _ _) rfl rfl SubRC.sub) ?_
 refine o_q _ rfl rfl rfl (v_assign rfl rfl) ?_
 refine o_nil ?_
 with_reducible refine r_then ?_
 refine r_ret ?_
 exact r_retv2 (Rd.tmp rfl rfl) rfl SelMC.sel SubRC.sub
theorem rWho_g (n : Int) (h : 1 ≤ D.people ∧ D.people ≤ 4) : FnV Tryd.prog 49 [valD D uo po uc pc, i64 n] [] (.bool (decide (0 ≤ n ∧ n ≤ D.people - 1))) := by
  have h1 := rWho_v D uo po uc pc n
  unfold isW at h1
  rw [show IntKind.i64.wrap (D.people - 1) = D.people - 1 from IntWalk.i64_in _ (by omega)] at h1
  exact h1
set_option maxHeartbeats 4000000 in
theorem Debt_v (hl1 : D.dues.length ≤ 40) (hl2 : D.paid.length ≤ 40) : FnV Tryd.prog 34 [valD D uo po uc pc] [rowD uo 5 encD D.dues, rowD po 4 encP D.paid] (.bool (decide (GoodD D))) := by
 refine FnV.intro Tryd.call34 Tryd.func34 rfl Tryd.ntmps34 rfl ?_
 intro W M Rf
 refine r_seq ?_
 refine r_region ?_
 refine o_boxA rfl rfl rfl rfl rfl (fun b1 => ?_)
 refine o_q _ rfl rfl rfl (v_assign rfl rfl) ?_
 refine o_nil ?_
 with_reducible refine r_then ?_
 refine r_seq ?_
 refine r_seq ?_
 refine r_region ?_
 refine o_q _ rfl rfl rfl (v_fieldAddr rfl Tryd.underlying25 inf3 rfl rfl rfl rfl) ?_
 refine o_q _ rfl rfl rfl (v_ld1 rfl Tryd.underlying3 rfl rfl rfl) ?_
 refine o_test rfl rfl rfl (OpQ.fn (rin_v _ _ _) rfl rfl SubRC.sub) (fun h9 => ?_) (fun h9 => ?_)
 all_goals
  refine o_q _ rfl rfl rfl (v_not rfl rfl) ?_
  refine o_q _ rfl rfl rfl (v_move rfl rfl) ?_
  first | refine o_gn rfl rfl rfl rfl ?_ | refine o_g _ rfl rfl rfl rfl (v_fieldAddr rfl Tryd.underlying25 inf22 rfl rfl rfl rfl) ?_
  first | refine o_gn rfl rfl rfl rfl ?_ | refine o_g _ rfl rfl rfl rfl (v_ld1 rfl Tryd.underlying22 rfl rfl rfl) ?_
  first | refine o_gn rfl rfl rfl rfl ?_ | refine o_g _ rfl rfl rfl rfl (v_len rfl rfl Tryd.underlying22 rfl) ?_
  first | refine o_gn rfl rfl rfl rfl ?_ | refine o_gtest rfl rfl rfl rfl (v_gtr rfl rfl rfl) (fun h15 => ?_) (fun h15 => ?_)
  all_goals
   first | refine o_q _ rfl rfl rfl (v_pick_t rfl rfl rfl) ?_ | refine o_q _ rfl rfl rfl (v_pick_f rfl rfl rfl) ?_
   refine o_q _ rfl rfl rfl (v_move rfl rfl) ?_
   first | refine o_gn rfl rfl rfl rfl ?_ | refine o_g _ rfl rfl rfl rfl (v_fieldAddr rfl Tryd.underlying25 inf23 rfl rfl rfl rfl) ?_
   first | refine o_gn rfl rfl rfl rfl ?_ | refine o_g _ rfl rfl rfl rfl (v_ld1 rfl Tryd.underlying23 rfl rfl rfl) ?_
   first | refine o_gn rfl rfl rfl rfl ?_ | refine o_g _ rfl rfl rfl rfl (v_len rfl rfl Tryd.underlying23 rfl) ?_
   first | refine o_gn rfl rfl rfl rfl ?_ | refine o_gtest rfl rfl rfl rfl (v_gtr rfl rfl rfl) (fun h21 => ?_) (fun h21 => ?_)
   all_goals
    first | refine o_q _ rfl rfl rfl (v_pick_t rfl rfl rfl) ?_ | refine o_q _ rfl rfl rfl (v_pick_f rfl rfl rfl) ?_
    refine o_nil ?_
    with_reducible refine r_then ?_
    refine r_cond rfl (fun hc22 => ?_) (fun hc22 => ?_)
    ·
     first
     | (exfalso; revert hc22; decide)
     |
      skip
      refine r_seq ?_
      refine r_region ?_
      refine o_q _ rfl rfl rfl (v_assign rfl rfl) ?_
      refine o_nil ?_
      with_reducible refine r_then ?_
      refine r_ret ?_
      with_reducible refine r_then_ret ?_
      exact r_retv2 (Rd.tmp rfl rfl) (congrArg Value.bool (decide_eq_false (fun g : GoodD D => by have g1 := g.np; have g2 := g.nd; have g3 := g.ny; first | omega | (have g9 := g.dues k1 (by omega); unfold DueOk SodsOk at g9; omega) | (have g9 := g.paid k2 (by omega); unfold PaidOk SodsOk at g9; omega))).symm) SelMC.sel SubRC.sub
    ·
     first
     | (exfalso; revert hc22; decide)
     |
      skip
      refine r_skip ?_
      with_reducible refine r_then ?_
      refine r_seq ?_
      refine r_seq ?_
      refine r_region ?_
      refine o_q _ rfl rfl rfl (v_assign rfl rfl) ?_
      refine o_nil ?_
      with_reducible refine r_then ?_
      refine r_block ?_
      refine r_loop (ι := Nat) (fun k1 => k1 ≤ D.dues.length ∧ ∀ j, j < k1 → DueOk D (D.dues.getD j default)) (fun k1 => [(1, pt b1 0), (3, i64 k1)]) (fun k1 => bx b1 25 (cellsD D uo po uc pc) :: M) (fun k1 => [rowD uo 5 encD D.dues, rowD po 4 encP D.paid] ++ Rf) (fun k1 => D.dues.length - k1) 0 ?_ ?_ ?_
      ·
       exact r_here (by repeat (first | exact FSub.nil | refine FSub.cons rfl ?_)) SelMC.sel SubRC.sub
      ·
       exact ⟨Nat.zero_le _, fun j hj => absurd hj (by omega)⟩
      ·
       rintro k1 hI0
       refine r_seq ?_
       refine r_seq ?_
       refine r_region ?_
       refine o_q _ rfl rfl rfl (v_move rfl rfl) ?_
       refine o_q _ rfl rfl rfl (v_fieldAddr rfl Tryd.underlying25 inf22 rfl rfl rfl rfl) ?_
       refine o_q _ rfl rfl rfl (v_ld1 rfl Tryd.underlying22 rfl rfl rfl) ?_
       refine o_q _ rfl rfl rfl (v_len rfl rfl Tryd.underlying22 rfl) ?_
       refine o_q _ rfl rfl rfl (v_lss rfl rfl rfl) ?_
       refine o_nil ?_
       with_reducible refine r_then ?_
       refine r_condd rfl (fun hc27 => ?_) (fun hc27 => ?_)
       ·
        refine r_skip ?_
        with_reducible refine r_then ?_
        refine r_seq ?_
        refine r_block ?_
        refine r_seq ?_
        refine r_region ?_
        refine o_q _ rfl rfl rfl (v_fieldAddr rfl Tryd.underlying25 inf22 rfl rfl rfl rfl) ?_
        refine o_q _ rfl rfl rfl (v_ld1 rfl Tryd.underlying22 rfl rfl rfl) ?_
        refine o_q _ rfl rfl rfl (v_move rfl rfl) ?_
        refine o_q _ rfl rfl rfl (v_indexAddrSn rfl Tryd.underlying22 inf62 rfl rfl rfl (by omega) rfl) ?_
        refine o_q _ rfl rfl rfl (v_loadEN (us := encD (D.dues.getD k1 default)) rfl Tryd.underlying62 rfl inf62 rfl (by omega) rfl rfl rfl) ?_
        refine o_alloc rfl inf62 rfl rfl rfl rfl rfl (fun b4 => ?_)
        refine o_st rfl inf62 rfl rfl rfl rfl rfl rfl rfl rfl ?_
        refine o_nil ?_
        with_reducible refine r_then ?_
        refine r_seq ?_
        refine Imp.box_to b4 (encD (D.dues.getD k1 default)) rfl ?_
        refine r_region ?_
        refine o_q _ rfl rfl rfl (v_ldW rfl Tryd.underlying25 rfl inf25 rfl rfl) ?_
        refine o_q _ rfl rfl rfl (v_fieldAddr rfl Tryd.underlying62 inf3 rfl rfl rfl rfl) ?_
        refine o_q _ rfl rfl rfl (v_ld1 rfl Tryd.underlying3 rfl rfl rfl) ?_
        refine o_test rfl rfl rfl (OpQ.fn (rWho_g D uo po uc pc _ (by omega)) rfl rfl SubRC.sub) (fun h38 => ?_) (fun h38 => ?_)
        all_goals
         refine o_q _ rfl rfl rfl (v_not rfl rfl) ?_
         refine o_q _ rfl rfl rfl (v_move rfl rfl) ?_
         first | refine o_gn rfl rfl rfl rfl ?_ | refine o_g _ rfl rfl rfl rfl (v_fieldAddr rfl Tryd.underlying62 inf3 rfl rfl rfl rfl) ?_
         first | refine o_gn rfl rfl rfl rfl ?_ | refine o_g _ rfl rfl rfl rfl (v_ld1 rfl Tryd.underlying3 rfl rfl rfl) ?_
         first | refine o_gn rfl rfl rfl rfl ?_ | refine o_gtest rfl rfl rfl rfl (OpQ.fn (rDay_v _) rfl rfl SubRC.sub) (fun h43 => ?_) (fun h43 => ?_)
         all_goals
          first | refine o_gn rfl rfl rfl rfl ?_ | refine o_g _ rfl rfl rfl rfl (v_not rfl rfl) ?_
          first | refine o_q _ rfl rfl rfl (v_pick_t rfl rfl rfl) ?_ | refine o_q _ rfl rfl rfl (v_pick_f rfl rfl rfl) ?_
          refine o_q _ rfl rfl rfl (v_move rfl rfl) ?_
          first | refine o_gn rfl rfl rfl rfl ?_ | refine o_g _ rfl rfl rfl rfl (v_fieldAddr rfl Tryd.underlying62 inf29 rfl rfl rfl rfl) ?_
          first | refine o_gn rfl rfl rfl rfl ?_ | refine o_g _ rfl rfl rfl rfl (v_ldN rfl Tryd.underlying29 rfl inf29 rfl rfl rfl) ?_
          first | refine o_gn rfl rfl rfl rfl ?_ | refine o_gtest rfl rfl rfl rfl (OpQ.fn (rnum_v _ _) rfl rfl SubRC.sub) (fun h49 => ?_) (fun h49 => ?_)
          all_goals
           first | refine o_gn rfl rfl rfl rfl ?_ | refine o_g _ rfl rfl rfl rfl (v_not rfl rfl) ?_
           first | refine o_q _ rfl rfl rfl (v_pick_t rfl rfl rfl) ?_ | refine o_q _ rfl rfl rfl (v_pick_f rfl rfl rfl) ?_
           refine o_q _ rfl rfl rfl (v_move rfl rfl) ?_
           first | refine o_gn rfl rfl rfl rfl ?_ | refine o_g _ rfl rfl rfl rfl (v_fieldAddr rfl Tryd.underlying62 inf3 rfl rfl rfl rfl) ?_
           first | refine o_gn rfl rfl rfl rfl ?_ | refine o_g _ rfl rfl rfl rfl (v_ld1 rfl Tryd.underlying3 rfl rfl rfl) ?_
           first | refine o_gn rfl rfl rfl rfl ?_ | refine o_gtest rfl rfl rfl rfl (OpQ.fn (rin_v _ _ _) rfl rfl SubRC.sub) (fun h55 => ?_) (fun h55 => ?_)
           all_goals
            first | refine o_gn rfl rfl rfl rfl ?_ | refine o_g _ rfl rfl rfl rfl (v_not rfl rfl) ?_
            first | refine o_q _ rfl rfl rfl (v_pick_t rfl rfl rfl) ?_ | refine o_q _ rfl rfl rfl (v_pick_f rfl rfl rfl) ?_
            refine o_nil ?_
            with_reducible refine r_then ?_
            refine r_cond rfl (fun hc57 => ?_) (fun hc57 => ?_)
            ·
             first
             | (exfalso; revert hc57; decide)
             |
              skip
              refine r_seq ?_
              refine r_region ?_
              refine o_q _ rfl rfl rfl (v_assign rfl rfl) ?_
              refine o_nil ?_
              with_reducible refine r_then ?_
              refine r_ret ?_
              with_reducible refine r_in_ret ?_; refine r_then_ret ?_; refine r_then_ret ?_; refine r_in_ret ?_; refine r_then_ret ?_
              exact r_retv2 (Rd.tmp rfl rfl) (congrArg Value.bool (decide_eq_false (fun g : GoodD D => by have g1 := g.np; have g2 := g.nd; have g3 := g.ny; first | omega | (have g9 := g.dues k1 (by omega); unfold DueOk SodsOk at g9; omega) | (have g9 := g.paid k2 (by omega); unfold PaidOk SodsOk at g9; omega))).symm) SelMC.sel SubRC.sub
            ·
             first
             | (exfalso; revert hc57; decide)
             |
              skip
              refine r_skip ?_
              with_reducible refine r_in_normal ?_; refine r_then ?_
              refine r_region ?_
              refine o_q _ rfl rfl rfl (v_move rfl rfl) ?_
              refine o_q _ rfl rfl rfl (v_add rfl rfl rfl (by omega)) ?_
              refine o_q _ rfl rfl rfl (v_assign rfl rfl) ?_
              refine o_nil ?_
              with_reducible refine r_then ?_
              refine r_next (k1 + 1) ?_ ?_ ?_
              ·
               exact r_here (by repeat (first | exact FSub.nil | refine FSub.cons rfl ?_)) SelMC.sel SubRC.sub
              ·
               exact ⟨by omega, all_step hI0.2 (by unfold DueOk SodsOk; omega)⟩
              ·
               omega
       ·
        refine r_exit ?_
        with_reducible refine r_then_exit ?_; refine r_then_exit ?_; refine r_in_here ?_; refine r_then ?_
        refine r_seq ?_
        refine r_seq ?_
        refine r_region ?_
        refine o_q _ rfl rfl rfl (v_assign rfl rfl) ?_
        refine o_nil ?_
        with_reducible refine r_then ?_
        refine r_block ?_
        refine r_loop (ι := Nat) (fun k2 => k2 ≤ D.paid.length ∧ ∀ j, j < k2 → PaidOk D (D.paid.getD j default)) (fun k2 => [(1, pt b1 0), (5, i64 k2)]) (fun k2 => bx b1 25 (cellsD D uo po uc pc) :: M) (fun k2 => [rowD uo 5 encD D.dues, rowD po 4 encP D.paid] ++ Rf) (fun k2 => D.paid.length - k2) 0 ?_ ?_ ?_
        ·
         exact r_here (by repeat (first | exact FSub.nil | refine FSub.cons rfl ?_)) SelMC.sel SubRC.sub
        ·
         exact ⟨Nat.zero_le _, fun j hj => absurd hj (by omega)⟩
        ·
         rintro k2 hI1
         refine r_seq ?_
         refine r_seq ?_
         refine r_region ?_
         refine o_q _ rfl rfl rfl (v_move rfl rfl) ?_
         refine o_q _ rfl rfl rfl (v_fieldAddr rfl Tryd.underlying25 inf23 rfl rfl rfl rfl) ?_
         refine o_q _ rfl rfl rfl (v_ld1 rfl Tryd.underlying23 rfl rfl rfl) ?_
         refine o_q _ rfl rfl rfl (v_len rfl rfl Tryd.underlying23 rfl) ?_
         refine o_q _ rfl rfl rfl (v_lss rfl rfl rfl) ?_
         refine o_nil ?_
         with_reducible refine r_then ?_
         refine r_condd rfl (fun hc62 => ?_) (fun hc62 => ?_)
         ·
          refine r_skip ?_
          with_reducible refine r_then ?_
          refine r_seq ?_
          refine r_block ?_
          refine r_seq ?_
          refine r_region ?_
          refine o_q _ rfl rfl rfl (v_fieldAddr rfl Tryd.underlying25 inf23 rfl rfl rfl rfl) ?_
          refine o_q _ rfl rfl rfl (v_ld1 rfl Tryd.underlying23 rfl rfl rfl) ?_
          refine o_q _ rfl rfl rfl (v_move rfl rfl) ?_
          refine o_q _ rfl rfl rfl (v_indexAddrSn rfl Tryd.underlying23 inf54 rfl rfl rfl (by omega) rfl) ?_
          refine o_q _ rfl rfl rfl (v_loadEN (us := encP (D.paid.getD k2 default)) rfl Tryd.underlying54 rfl inf54 rfl (by omega) rfl rfl rfl) ?_
          refine o_alloc rfl inf54 rfl rfl rfl rfl rfl (fun b6 => ?_)
          refine o_st rfl inf54 rfl rfl rfl rfl rfl rfl rfl rfl ?_
          refine o_nil ?_
          with_reducible refine r_then ?_
          refine r_seq ?_
          refine Imp.box_to b6 (encP (D.paid.getD k2 default)) rfl ?_
          refine r_region ?_
          refine o_q _ rfl rfl rfl (v_ldW rfl Tryd.underlying25 rfl inf25 rfl rfl) ?_
          refine o_q _ rfl rfl rfl (v_fieldAddr rfl Tryd.underlying54 inf3 rfl rfl rfl rfl) ?_
          refine o_q _ rfl rfl rfl (v_ld1 rfl Tryd.underlying3 rfl rfl rfl) ?_
          refine o_test rfl rfl rfl (OpQ.fn (rWho_g D uo po uc pc _ (by omega)) rfl rfl SubRC.sub) (fun h73 => ?_) (fun h73 => ?_)
          all_goals
           refine o_q _ rfl rfl rfl (v_not rfl rfl) ?_
           refine o_q _ rfl rfl rfl (v_move rfl rfl) ?_
           first | refine o_gn rfl rfl rfl rfl ?_ | refine o_g _ rfl rfl rfl rfl (v_fieldAddr rfl Tryd.underlying54 inf3 rfl rfl rfl rfl) ?_
           first | refine o_gn rfl rfl rfl rfl ?_ | refine o_g _ rfl rfl rfl rfl (v_ld1 rfl Tryd.underlying3 rfl rfl rfl) ?_
           first | refine o_gn rfl rfl rfl rfl ?_ | refine o_gtest rfl rfl rfl rfl (OpQ.fn (rDay_v _) rfl rfl SubRC.sub) (fun h78 => ?_) (fun h78 => ?_)
           all_goals
            first | refine o_gn rfl rfl rfl rfl ?_ | refine o_g _ rfl rfl rfl rfl (v_not rfl rfl) ?_
            first | refine o_q _ rfl rfl rfl (v_pick_t rfl rfl rfl) ?_ | refine o_q _ rfl rfl rfl (v_pick_f rfl rfl rfl) ?_
            refine o_q _ rfl rfl rfl (v_move rfl rfl) ?_
            first | refine o_gn rfl rfl rfl rfl ?_ | refine o_g _ rfl rfl rfl rfl (v_fieldAddr rfl Tryd.underlying54 inf29 rfl rfl rfl rfl) ?_
            first | refine o_gn rfl rfl rfl rfl ?_ | refine o_g _ rfl rfl rfl rfl (v_ldN rfl Tryd.underlying29 rfl inf29 rfl rfl rfl) ?_
            first | refine o_gn rfl rfl rfl rfl ?_ | refine o_gtest rfl rfl rfl rfl (OpQ.fn (rnum_v _ _) rfl rfl SubRC.sub) (fun h84 => ?_) (fun h84 => ?_)
            all_goals
             first | refine o_gn rfl rfl rfl rfl ?_ | refine o_g _ rfl rfl rfl rfl (v_not rfl rfl) ?_
             first | refine o_q _ rfl rfl rfl (v_pick_t rfl rfl rfl) ?_ | refine o_q _ rfl rfl rfl (v_pick_f rfl rfl rfl) ?_
             refine o_nil ?_
             with_reducible refine r_then ?_
             refine r_cond rfl (fun hc86 => ?_) (fun hc86 => ?_)
             ·
              first
              | (exfalso; revert hc86; decide)
              |
               skip
               refine r_seq ?_
               refine r_region ?_
               refine o_q _ rfl rfl rfl (v_assign rfl rfl) ?_
               refine o_nil ?_
               with_reducible refine r_then ?_
               refine r_ret ?_
               with_reducible refine r_in_ret ?_; refine r_then_ret ?_; refine r_then_ret ?_; refine r_in_ret ?_; refine r_then_ret ?_
               exact r_retv2 (Rd.tmp rfl rfl) (congrArg Value.bool (decide_eq_false (fun g : GoodD D => by have g1 := g.np; have g2 := g.nd; have g3 := g.ny; first | omega | (have g9 := g.dues k1 (by omega); unfold DueOk SodsOk at g9; omega) | (have g9 := g.paid k2 (by omega); unfold PaidOk SodsOk at g9; omega))).symm) SelMC.sel SubRC.sub
             ·
              first
              | (exfalso; revert hc86; decide)
              |
               skip
               refine r_skip ?_
               with_reducible refine r_in_normal ?_; refine r_then ?_
               refine r_region ?_
               refine o_q _ rfl rfl rfl (v_move rfl rfl) ?_
               refine o_q _ rfl rfl rfl (v_add rfl rfl rfl (by omega)) ?_
               refine o_q _ rfl rfl rfl (v_assign rfl rfl) ?_
               refine o_nil ?_
               with_reducible refine r_then ?_
               refine r_next (k2 + 1) ?_ ?_ ?_
               ·
                exact r_here (by repeat (first | exact FSub.nil | refine FSub.cons rfl ?_)) SelMC.sel SubRC.sub
               ·
                exact ⟨by omega, all_step hI1.2 (by unfold PaidOk SodsOk; omega)⟩
               ·
                omega
         ·
          refine r_exit ?_
          with_reducible refine r_then_exit ?_; refine r_then_exit ?_; refine r_in_here ?_; refine r_then ?_
          refine r_seq ?_
          refine r_region ?_
          refine o_q _ rfl rfl rfl (v_assign rfl rfl) ?_
          refine o_nil ?_
          with_reducible refine r_then ?_
          refine r_ret ?_
          exact r_retv2 (Rd.tmp rfl rfl) (congrArg Value.bool (decide_eq_true (⟨by omega, by omega, by omega, fun j hj => hI0.2 j (by omega), fun j hj => hI1.2 j (by omega)⟩ : GoodD D)).symm) SelMC.sel SubRC.sub
/-- There is far too much of something. -/
def farD (D : Debt) : Prop := 40 < max (D.dues.length : Int) D.paid.length
instance (D : Debt) : Decidable (farD D) := by unfold farD; infer_instance
set_option maxHeartbeats 4000000 in
theorem far_v  : FnV Tryd.prog 12 [valD D uo po uc pc] [] (.bool (decide (40 < max (D.dues.length : Int) D.paid.length))) := by
 refine FnV.intro Tryd.call12 Tryd.func12 rfl Tryd.ntmps12 rfl ?_
 intro W M Rf
 refine r_seq ?_
 refine r_region ?_
 refine o_boxA rfl rfl rfl rfl rfl (fun b1 => ?_)
 refine o_q _ rfl rfl rfl (v_assign rfl rfl) ?_
 refine o_nil ?_
 with_reducible refine r_then ?_
 refine r_seq ?_
 refine r_region ?_
 refine o_q _ rfl rfl rfl (v_fieldAddr rfl Tryd.underlying25 inf22 rfl rfl rfl rfl) ?_
 refine o_q _ rfl rfl rfl (v_ld1 rfl Tryd.underlying22 rfl rfl rfl) ?_
 refine o_q _ rfl rfl rfl (v_len rfl rfl Tryd.underlying22 rfl) ?_
 refine o_q _ rfl rfl rfl (v_fieldAddr rfl Tryd.underlying25 inf23 rfl rfl rfl rfl) ?_
 refine o_q _ rfl rfl rfl (v_ld1 rfl Tryd.underlying23 rfl rfl rfl) ?_
 refine o_q _ rfl rfl rfl (v_len rfl rfl Tryd.underlying23 rfl) ?_
 refine o_q _ rfl rfl rfl (v_max2 rfl rfl rfl) ?_
 refine o_q _ rfl rfl rfl (v_gtr rfl rfl rfl) ?_
 refine o_q _ rfl rfl rfl (v_assign rfl rfl) ?_
 refine o_nil ?_
 with_reducible refine r_then ?_
 refine r_ret ?_
 exact r_retv2 (Rd.tmp rfl rfl) rfl SelMC.sel SubRC.sub
set_option maxHeartbeats 4000000 in
theorem fine_v  : FnV Tryd.prog 30 [valD D uo po uc pc] [rowD uo 5 encD D.dues, rowD po 4 encP D.paid] (.bool (decide (¬ farD D ∧ GoodD D))) := by
 refine FnV.intro Tryd.call30 Tryd.func30 rfl Tryd.ntmps30 rfl ?_
 intro W M Rf
 refine r_seq ?_
 refine r_region ?_
 refine o_boxA rfl rfl rfl rfl rfl (fun b1 => ?_)
 refine o_q _ rfl rfl rfl (v_assign rfl rfl) ?_
 refine o_nil ?_
 with_reducible refine r_then ?_
 refine r_seq ?_
 refine r_region ?_
 refine o_q _ rfl rfl rfl (v_ldW rfl Tryd.underlying25 rfl inf25 rfl rfl) ?_
 refine o_test rfl rfl rfl (OpQ.fn (far_v D uo po uc pc) rfl rfl SubRC.sub) (fun h4 => ?_) (fun h4 => ?_)
 all_goals
  refine o_q _ rfl rfl rfl (v_not rfl rfl) ?_
  refine o_q _ rfl rfl rfl (v_move rfl rfl) ?_
  first | refine o_gn rfl rfl rfl rfl ?_ | refine o_g _ rfl rfl rfl rfl (v_ldW rfl Tryd.underlying25 rfl inf25 rfl rfl) ?_
  first | refine o_gn rfl rfl rfl rfl ?_ | refine o_gtest rfl rfl rfl rfl (OpQ.fn (Debt_v D uo po uc pc (by omega) (by omega)) rfl rfl SubRC.sub) (fun h8 => ?_) (fun h8 => ?_)
  all_goals
   first | refine o_q _ rfl rfl rfl (v_pick_t rfl rfl rfl) ?_ | refine o_q _ rfl rfl rfl (v_pick_f rfl rfl rfl) ?_
   refine o_q _ rfl rfl rfl (v_assign rfl rfl) ?_
   refine o_nil ?_
   with_reducible refine r_then ?_
   refine r_ret ?_
   first
   | exact r_retv2 (Rd.tmp rfl rfl) (congrArg Value.bool (decide_eq_true (by unfold farD; constructor <;> assumption)).symm) SelMC.sel SubRC.sub
   | exact r_retv2 (Rd.tmp rfl rfl) (congrArg Value.bool (decide_eq_false (by unfold farD; rintro ⟨g1, g2⟩; contradiction)).symm) SelMC.sel SubRC.sub
set_option maxHeartbeats 4000000 in
theorem lspan_v (lo hi : Int) : FnV Tryd.prog 38 [i64 lo, i64 hi] [] (.agg #[i64 lo, i64 hi]) := by
 refine FnV.intro Tryd.call38 Tryd.func38 rfl Tryd.ntmps38 rfl ?_
 intro W M Rf
 refine r_seq ?_
 refine r_region ?_
 refine o_alloc rfl inf29 rfl rfl rfl rfl rfl (fun b4 => ?_)
 refine o_nil ?_
 with_reducible refine r_then ?_
 refine r_seq ?_
 refine r_region ?_
 refine o_q _ rfl rfl rfl (v_move rfl rfl) ?_
 refine o_q _ rfl rfl rfl (v_move rfl rfl) ?_
 refine o_q _ rfl rfl rfl (v_bS rfl Tryd.underlying29 inf29 plt29 rfl rfl rfl (by repeat (first | exact trivial | refine ⟨rfl, ?_⟩)) (by rfl)) ?_
 refine o_st rfl inf29 rfl rfl rfl rfl rfl rfl rfl rfl ?_
 refine o_nil ?_
 with_reducible refine r_then ?_
 refine r_ret ?_
 exact r_retv2 (Rd.one rfl (RdI.cellW Tryd.underlying29 rfl inf29 rfl rfl)) rfl SelMC.sel SubRC.sub
end Go.Proofs.YtpfgiednfjfdmaaDoor


namespace Go.Proofs.YtpfgiednfjfdmaaDoor
open Go.G Debt10
set_option maxRecDepth 1000000
attribute [local irreducible] G.ParO G.Fin
def smpD : Debt := ⟨2, [⟨0, 2, ⟨10, 12⟩, 1⟩, ⟨0, 5, ⟨8, 8⟩, 0⟩, ⟨1, 0, ⟨20, 25⟩, 2⟩], [⟨0, 4, ⟨6, 8⟩⟩, ⟨1, 0, ⟨20, 20⟩⟩, ⟨0, 6, ⟨20, 20⟩⟩]⟩
theorem ex1 : leftB smpD 0 5 = (⟨13, 17⟩, 0) := by decide +kernel
theorem ex2 : aheadB smpD 0 6 = (⟨3, 7⟩, 0) := by decide +kernel
theorem ex3 : setlB smpD 1 0 = (1, 0) := by decide +kernel
theorem ex4 : openB smpD 1 0 = ((0, 4), 0) := by decide +kernel
theorem ex5 : sumB smpD 5 = (⟨13, 32⟩, 0) := by decide +kernel
theorem ex6 : needB smpD 0 4 = (7, 0) := by decide +kernel
theorem ex7 : mostB smpD 4 7 = ((1, 1), 0) := by decide +kernel
theorem ex7n : (setsT smpD (4 : Int).toNat 7).length ≤ 12 := by decide +kernel
theorem ex8 : checkB smpD = ((2, 2), 0) := by decide +kernel
theorem encD_len' (x : Due) : (encD x).length = 5 := rfl
theorem encP_len' (x : Paid) : (encP x).length = 4 := rfl
set_option maxHeartbeats 4000000 in
theorem sample_r  : FnR Tryd.prog 42 [] [] (fun v => ∃ uo po, v = valD smpD uo po 3 3) (fun v => [rowD (adrAt v 1) 5 encD smpD.dues, rowD (adrAt v 2) 4 encP smpD.paid]) := by
 refine FnR.intro Tryd.call42 Tryd.func42 rfl Tryd.ntmps42 rfl ?_
 intro W M Rf
 refine r_seq ?_
 refine r_region ?_
 refine o_alloc rfl inf25 rfl rfl rfl rfl rfl (fun b0 => ?_)
 refine o_nil ?_
 with_reducible refine r_then ?_
 refine r_seq ?_
 refine r_region ?_
 refine o_q _ rfl rfl rfl (OpQ.fn (lspan_v _ _) rfl rfl SubRC.sub) ?_
 refine o_q _ rfl rfl rfl (v_bS rfl Tryd.underlying62 inf62 plt62 rfl rfl rfl (by repeat (first | exact trivial | refine ⟨rfl, ?_⟩)) (by rfl)) ?_
 refine o_q _ rfl rfl rfl (OpQ.fn (lspan_v _ _) rfl rfl SubRC.sub) ?_
 refine o_q _ rfl rfl rfl (v_bSp (us := [i64 0, i64 5, i64 8, i64 8, i64 0]) rfl Tryd.underlying62 inf62 plt62 rfl rfl rfl (by repeat (first | exact trivial | refine ⟨rfl, ?_⟩)) (by show 4 ≤ 5; decide) rfl) ?_
 refine o_q _ rfl rfl rfl (OpQ.fn (lspan_v _ _) rfl rfl SubRC.sub) ?_
 refine o_q _ rfl rfl rfl (v_bS rfl Tryd.underlying62 inf62 plt62 rfl rfl rfl (by repeat (first | exact trivial | refine ⟨rfl, ?_⟩)) (by rfl)) ?_
 refine o_lit rfl Tryd.underlying22 inf62 rfl rfl rfl rfl rfl rfl rfl rfl (by repeat (first | exact trivial | refine ⟨rfl, ?_⟩)) (by rfl) (fun b7 => ?_)
 refine o_q _ rfl rfl rfl (OpQ.fn (lspan_v _ _) rfl rfl SubRC.sub) ?_
 refine o_q _ rfl rfl rfl (v_bS rfl Tryd.underlying54 inf54 plt54 rfl rfl rfl (by repeat (first | exact trivial | refine ⟨rfl, ?_⟩)) (by rfl)) ?_
 refine o_q _ rfl rfl rfl (OpQ.fn (lspan_v _ _) rfl rfl SubRC.sub) ?_
 refine o_q _ rfl rfl rfl (v_bS rfl Tryd.underlying54 inf54 plt54 rfl rfl rfl (by repeat (first | exact trivial | refine ⟨rfl, ?_⟩)) (by rfl)) ?_
 refine o_q _ rfl rfl rfl (OpQ.fn (lspan_v _ _) rfl rfl SubRC.sub) ?_
 refine o_q _ rfl rfl rfl (v_bS rfl Tryd.underlying54 inf54 plt54 rfl rfl rfl (by repeat (first | exact trivial | refine ⟨rfl, ?_⟩)) (by rfl)) ?_
 refine o_lit rfl Tryd.underlying23 inf54 rfl rfl rfl rfl rfl rfl rfl rfl (by repeat (first | exact trivial | refine ⟨rfl, ?_⟩)) (by rfl) (fun b14 => ?_)
 refine o_q _ rfl rfl rfl (v_bS rfl Tryd.underlying25 inf25 plt25 rfl rfl rfl (by repeat (first | exact trivial | refine ⟨rfl, ?_⟩)) (by rfl)) ?_
 refine o_st rfl inf25 rfl rfl rfl rfl rfl rfl rfl rfl ?_
 refine o_nil ?_
 with_reducible refine r_then ?_
 refine r_ret ?_
 refine Imp.box_to b0 (cellsD smpD (some ⟨b7, 0, none⟩) (some ⟨b14, 0, none⟩) 3 3) rfl ?_
 refine Imp.sealB b7 ?_
 refine Imp.rowN (b := b7) smpD.dues encD_len' rfl ?_
 refine Imp.sealB b14 ?_
 refine Imp.rowN (b := b14) smpD.paid encP_len' rfl ?_
 exact r_retr (Rd.one rfl (RdI.cellW Tryd.underlying25 rfl inf25 rfl rfl)) ⟨some ⟨b7, 0, none⟩, some ⟨b14, 0, none⟩, rfl⟩ SelMC.sel (by show SubR _ ([rowD (some ⟨b7, 0, none⟩) 5 encD smpD.dues, rowD (some ⟨b14, 0, none⟩) 4 encP smpD.paid] ++ _); exact SubRC.sub)
theorem o_sample {W : World} {n : Nat} {Df : List Deferred} {L : Tm} {M : List Res} {R : List Fact} {Q : Exit → Act → World → Prop} {o : Oper} {ops : Array Oper} {rest : List Oper} {ts : Array TypeId} {d : Nat}
    (ho : o.op = .call { callee := .value (.func 42), args := #[], argTypes := ts }) (hg : o.guard = none) (hdst : o.dst = some d) (hd : Nat.blt d n = true)
    (hret : ∀ uo po, Imp W n Df ((d, valD smpD uo po 3 3) :: L) M (rowD uo 5 encD smpD.dues :: rowD po 4 encP smpD.paid :: R) (wpList Tryd.prog ops Q rest)) : Imp W n Df L M R (wpList Tryd.prog ops Q (o :: rest)) :=
  o_fn sample_r (xs := []) ho rfl hg hdst hd SubR.nil (fun v ⟨uo, po, hv⟩ => by subst hv; exact hret uo po)
theorem smpL (uo po : Option Addr) : FnV Tryd.prog 14 [valD smpD uo po 3 3, i64 0, i64 5] [rowD uo 5 encD smpD.dues, rowD po 4 encP smpD.paid, rowD (some ⟨0, 0, none⟩) 1 encE ([0, 1] : List Nat)] (.tuple #[.agg #[i64 13, i64 17], i64 0]) := by
  have h := left14_v smpD uo po 3 3 0 5 (by decide) (by decide)
  rw [ex1] at h; exact h
theorem smpA (uo po : Option Addr) : FnV Tryd.prog 16 [valD smpD uo po 3 3, i64 0, i64 6] [rowD uo 5 encD smpD.dues, rowD po 4 encP smpD.paid, rowD (some ⟨0, 0, none⟩) 1 encE ([0, 1] : List Nat)] (.tuple #[.agg #[i64 3, i64 7], i64 0]) := by
  have h := ahead16_v smpD uo po 3 3 0 6 (by decide) (by decide)
  rw [ex2] at h; exact h
theorem smpS (uo po : Option Addr) : FnV Tryd.prog 18 [valD smpD uo po 3 3, i64 1, i64 0] [rowD uo 5 encD smpD.dues, rowD po 4 encP smpD.paid, rowD (some ⟨0, 0, none⟩) 1 encE ([0, 1] : List Nat)] (.tuple #[i64 1, i64 0]) := by
  have h := setl18_v smpD uo po 3 3 1 0 (by decide) (by decide)
  rw [ex3] at h; exact h
theorem smpO (uo po : Option Addr) : FnV Tryd.prog 20 [valD smpD uo po 3 3, i64 1, i64 0] [rowD uo 5 encD smpD.dues, rowD po 4 encP smpD.paid, rowD (some ⟨0, 0, none⟩) 1 encE ([0, 1] : List Nat)] (.tuple #[i64 (0 : Nat), i64 (4 : Nat), i64 0]) := by
  have h := open20_v smpD uo po 3 3 1 0 (by decide) (by decide)
  rw [ex4] at h; exact h
theorem smpU (uo po : Option Addr) : FnV Tryd.prog 24 [valD smpD uo po 3 3, i64 5] [rowD uo 5 encD smpD.dues, rowD po 4 encP smpD.paid, rowD (some ⟨0, 0, none⟩) 1 encE ([0, 1] : List Nat)] (.tuple #[.agg #[i64 13, i64 32], i64 0]) := by
  have h := sum24_v smpD uo po 3 3 5 (by decide) (by decide)
  rw [ex5] at h; exact h
theorem smpN (uo po : Option Addr) : FnV Tryd.prog 22 [valD smpD uo po 3 3, i64 0, i64 4] [rowD uo 5 encD smpD.dues, rowD po 4 encP smpD.paid, rowD (some ⟨0, 0, none⟩) 1 encE ([0, 1] : List Nat)] (.tuple #[i64 7, i64 0]) := by
  have h := need22_v smpD uo po 3 3 0 4 (by decide) (by decide)
  rw [ex6] at h; exact h
theorem smpM (uo po : Option Addr) : FnV Tryd.prog 26 [valD smpD uo po 3 3, i64 4, i64 7] [rowD uo 5 encD smpD.dues, rowD po 4 encP smpD.paid, rowD (some ⟨0, 0, none⟩) 1 encE ([0, 1] : List Nat)] (.tuple #[i64 1, i64 1, i64 0]) := by
  have h := most26_12 smpD uo po 3 3 4 7 (by decide) (by decide) ex7n
  rw [ex7] at h; exact h
theorem smpC (uo po : Option Addr) : FnV Tryd.prog 28 [valD smpD uo po 3 3] [rowD uo 5 encD smpD.dues, rowD po 4 encP smpD.paid, rowD (some ⟨0, 0, none⟩) 1 encE ([0, 1] : List Nat)] (.tuple #[i64 2, i64 2, i64 0]) := by
  have h := check28_v smpD uo po 3 3 (by decide) (by decide)
  rw [ex8] at h; exact h
set_option maxHeartbeats 4000000 in
theorem awake_v  : FnV Tryd.prog 13 [] [rowD (some ⟨0, 0, none⟩) 1 encE ([0, 1] : List Nat)] (.bool true) := by
 refine FnV.intro Tryd.call13 Tryd.func13 rfl Tryd.ntmps13 rfl ?_
 intro W M Rf
 refine r_seq ?_
 refine r_region ?_
 refine o_q _ rfl rfl rfl (v_assign rfl rfl) ?_
 refine o_nil ?_
 with_reducible refine r_then ?_
 refine r_seq ?_
 refine r_region ?_
 refine o_sample rfl rfl rfl rfl (fun uo po => ?_)
 refine o_alloc rfl inf25 rfl rfl rfl rfl rfl (fun b1 => ?_)
 refine o_st rfl inf25 rfl rfl rfl rfl rfl rfl rfl rfl ?_
 refine o_nil ?_
 with_reducible refine r_then ?_
 refine r_seq ?_
 refine r_region ?_
 refine o_q _ rfl rfl rfl (v_ldW rfl Tryd.underlying25 rfl inf25 rfl rfl) ?_
 refine o_q _ rfl rfl rfl (OpQ.fn (smpL uo po) rfl rfl SubRC.sub) ?_
 refine o_q _ rfl rfl rfl (v_move rfl rfl) ?_
 refine o_q _ rfl rfl rfl (v_extract rfl rfl rfl) ?_
 refine o_q _ rfl rfl rfl (v_extract rfl rfl rfl) ?_
 refine o_alloc rfl inf29 rfl rfl rfl rfl rfl (fun b2 => ?_)
 refine o_st rfl inf29 rfl rfl rfl rfl rfl rfl rfl rfl ?_
 refine o_q _ rfl rfl rfl (v_assign rfl rfl) ?_
 refine o_nil ?_
 with_reducible refine r_then ?_
 refine r_seq ?_
 refine r_region ?_
 refine o_q _ rfl rfl rfl (v_ldW rfl Tryd.underlying25 rfl inf25 rfl rfl) ?_
 refine o_q _ rfl rfl rfl (OpQ.fn (smpA uo po) rfl rfl SubRC.sub) ?_
 refine o_q _ rfl rfl rfl (v_move rfl rfl) ?_
 refine o_q _ rfl rfl rfl (v_extract rfl rfl rfl) ?_
 refine o_q _ rfl rfl rfl (v_extract rfl rfl rfl) ?_
 refine o_alloc rfl inf29 rfl rfl rfl rfl rfl (fun b4 => ?_)
 refine o_st rfl inf29 rfl rfl rfl rfl rfl rfl rfl rfl ?_
 refine o_q _ rfl rfl rfl (v_assign rfl rfl) ?_
 refine o_nil ?_
 with_reducible refine r_then ?_
 refine r_seq ?_
 refine r_region ?_
 refine o_q _ rfl rfl rfl (v_ldW rfl Tryd.underlying25 rfl inf25 rfl rfl) ?_
 refine o_q _ rfl rfl rfl (OpQ.fn (smpS uo po) rfl rfl SubRC.sub) ?_
 refine o_q _ rfl rfl rfl (v_move rfl rfl) ?_
 refine o_q _ rfl rfl rfl (v_extract rfl rfl rfl) ?_
 refine o_q _ rfl rfl rfl (v_extract rfl rfl rfl) ?_
 refine o_q _ rfl rfl rfl (v_assign rfl rfl) ?_
 refine o_q _ rfl rfl rfl (v_assign rfl rfl) ?_
 refine o_nil ?_
 with_reducible refine r_then ?_
 refine r_seq ?_
 refine r_region ?_
 refine o_q _ rfl rfl rfl (v_ldW rfl Tryd.underlying25 rfl inf25 rfl rfl) ?_
 refine o_q _ rfl rfl rfl (OpQ.fn (smpO uo po) rfl rfl SubRC.sub) ?_
 refine o_q _ rfl rfl rfl (v_move rfl rfl) ?_
 refine o_q _ rfl rfl rfl (v_extract rfl rfl rfl) ?_
 refine o_q _ rfl rfl rfl (v_extract rfl rfl rfl) ?_
 refine o_q _ rfl rfl rfl (v_extract rfl rfl rfl) ?_
 refine o_q _ rfl rfl rfl (v_assign rfl rfl) ?_
 refine o_q _ rfl rfl rfl (v_assign rfl rfl) ?_
 refine o_q _ rfl rfl rfl (v_assign rfl rfl) ?_
 refine o_nil ?_
 with_reducible refine r_then ?_
 refine r_seq ?_
 refine r_region ?_
 refine o_q _ rfl rfl rfl (v_ldW rfl Tryd.underlying25 rfl inf25 rfl rfl) ?_
 refine o_q _ rfl rfl rfl (OpQ.fn (smpU uo po) rfl rfl SubRC.sub) ?_
 refine o_q _ rfl rfl rfl (v_move rfl rfl) ?_
 refine o_q _ rfl rfl rfl (v_extract rfl rfl rfl) ?_
 refine o_q _ rfl rfl rfl (v_extract rfl rfl rfl) ?_
 refine o_alloc rfl inf29 rfl rfl rfl rfl rfl (fun b11 => ?_)
 refine o_st rfl inf29 rfl rfl rfl rfl rfl rfl rfl rfl ?_
 refine o_q _ rfl rfl rfl (v_assign rfl rfl) ?_
 refine o_nil ?_
 with_reducible refine r_then ?_
 refine r_seq ?_
 refine r_region ?_
 refine o_q _ rfl rfl rfl (v_ldW rfl Tryd.underlying25 rfl inf25 rfl rfl) ?_
 refine o_q _ rfl rfl rfl (OpQ.fn (smpN uo po) rfl rfl SubRC.sub) ?_
 refine o_q _ rfl rfl rfl (v_move rfl rfl) ?_
 refine o_q _ rfl rfl rfl (v_extract rfl rfl rfl) ?_
 refine o_q _ rfl rfl rfl (v_extract rfl rfl rfl) ?_
 refine o_q _ rfl rfl rfl (v_assign rfl rfl) ?_
 refine o_q _ rfl rfl rfl (v_assign rfl rfl) ?_
 refine o_nil ?_
 with_reducible refine r_then ?_
 refine r_seq ?_
 refine r_region ?_
 refine o_q _ rfl rfl rfl (v_ldW rfl Tryd.underlying25 rfl inf25 rfl rfl) ?_
 refine o_q _ rfl rfl rfl (OpQ.fn (smpM uo po) rfl rfl SubRC.sub) ?_
 refine o_q _ rfl rfl rfl (v_move rfl rfl) ?_
 refine o_q _ rfl rfl rfl (v_extract rfl rfl rfl) ?_
 refine o_q _ rfl rfl rfl (v_extract rfl rfl rfl) ?_
 refine o_q _ rfl rfl rfl (v_extract rfl rfl rfl) ?_
 refine o_q _ rfl rfl rfl (v_assign rfl rfl) ?_
 refine o_q _ rfl rfl rfl (v_assign rfl rfl) ?_
 refine o_q _ rfl rfl rfl (v_assign rfl rfl) ?_
 refine o_nil ?_
 with_reducible refine r_then ?_
 refine r_seq ?_
 refine r_region ?_
 refine o_q _ rfl rfl rfl (v_ldW rfl Tryd.underlying25 rfl inf25 rfl rfl) ?_
 refine o_q _ rfl rfl rfl (OpQ.fn (smpC uo po) rfl rfl SubRC.sub) ?_
 refine o_q _ rfl rfl rfl (v_move rfl rfl) ?_
 refine o_q _ rfl rfl rfl (v_extract rfl rfl rfl) ?_
 refine o_q _ rfl rfl rfl (v_extract rfl rfl rfl) ?_
 refine o_q _ rfl rfl rfl (v_extract rfl rfl rfl) ?_
 refine o_q _ rfl rfl rfl (v_assign rfl rfl) ?_
 refine o_q _ rfl rfl rfl (v_assign rfl rfl) ?_
 refine o_q _ rfl rfl rfl (v_assign rfl rfl) ?_
 refine o_nil ?_
 with_reducible refine r_then ?_
 refine r_seq ?_
 refine r_seq ?_
 refine r_region_q mixed (by kernel_rfl) ?_
 refine q_q _ rfl rfl rfl (v_ldW rfl Tryd.underlying29 rfl inf29 rfl rfl) ?_
 refine q_q _ rfl rfl rfl (OpQ.fn (lspan_v _ _) rfl rfl SubRC.sub) ?_
 refine q_q _ rfl rfl rfl (v_cast (v := .bool false) (v_neP rfl rfl rfl guard29 (eq29 _ _ _ _)) rfl) ?_
 refine q_q _ rfl rfl rfl (v_move rfl rfl) ?_
 refine q_g _ rfl rfl rfl rfl (v_move rfl rfl) ?_
 refine q_g _ rfl rfl rfl rfl (v_false (v_neq rfl rfl rfl) (by omega)) ?_
 all_goals
  refine q_q _ rfl rfl rfl (v_pick_f rfl rfl rfl) ?_
  refine q_q _ rfl rfl rfl (v_move rfl rfl) ?_
  refine q_g _ rfl rfl rfl rfl (v_ldW rfl Tryd.underlying29 rfl inf29 rfl rfl) ?_
  refine q_g _ rfl rfl rfl rfl (OpQ.fn (lspan_v _ _) rfl rfl SubRC.sub) ?_
  refine q_g _ rfl rfl rfl rfl (v_cast (v := .bool false) (v_neP rfl rfl rfl guard29 (eq29 _ _ _ _)) rfl) ?_
  refine q_q _ rfl rfl rfl (v_pick_f rfl rfl rfl) ?_
  refine q_q _ rfl rfl rfl (v_move rfl rfl) ?_
  refine q_g _ rfl rfl rfl rfl (v_move rfl rfl) ?_
  refine q_g _ rfl rfl rfl rfl (v_false (v_neq rfl rfl rfl) (by omega)) ?_
  all_goals
   refine q_q _ rfl rfl rfl (v_pick_f rfl rfl rfl) ?_
   refine q_q _ rfl rfl rfl (v_move rfl rfl) ?_
   refine q_g _ rfl rfl rfl rfl (v_move rfl rfl) ?_
   refine q_g _ rfl rfl rfl rfl (v_false (v_neq rfl rfl rfl) (by omega)) ?_
   all_goals
    refine q_q _ rfl rfl rfl (v_pick_f rfl rfl rfl) ?_
    refine q_q _ rfl rfl rfl (v_move rfl rfl) ?_
    refine q_g _ rfl rfl rfl rfl (v_move rfl rfl) ?_
    refine q_g _ rfl rfl rfl rfl (v_false (v_neq rfl rfl rfl) (by omega)) ?_
    all_goals
     refine q_q _ rfl rfl rfl (v_pick_f rfl rfl rfl) ?_
     refine q_q _ rfl rfl rfl (v_move rfl rfl) ?_
     refine q_g _ rfl rfl rfl rfl (v_move rfl rfl) ?_
     refine q_g _ rfl rfl rfl rfl (v_false (v_neq rfl rfl rfl) (by omega)) ?_
     all_goals
      refine q_q _ rfl rfl rfl (v_pick_f rfl rfl rfl) ?_
      refine q_q _ rfl rfl rfl (v_move rfl rfl) ?_
      refine q_g _ rfl rfl rfl rfl (v_move rfl rfl) ?_
      refine q_g _ rfl rfl rfl rfl (v_false (v_neq rfl rfl rfl) (by omega)) ?_
      all_goals
       refine q_q _ rfl rfl rfl (v_pick_f rfl rfl rfl) ?_
       refine q_q _ rfl rfl rfl (v_move rfl rfl) ?_
       refine q_g _ rfl rfl rfl rfl (v_move rfl rfl) ?_
       refine q_g _ rfl rfl rfl rfl (v_false (v_neq rfl rfl rfl) (by omega)) ?_
       all_goals
        refine q_q _ rfl rfl rfl (v_pick_f rfl rfl rfl) ?_
        refine q_q _ rfl rfl rfl (v_move rfl rfl) ?_
        refine q_g _ rfl rfl rfl rfl (v_ldW rfl Tryd.underlying29 rfl inf29 rfl rfl) ?_
        refine q_g _ rfl rfl rfl rfl (OpQ.fn (lspan_v _ _) rfl rfl SubRC.sub) ?_
        refine q_g _ rfl rfl rfl rfl (v_cast (v := .bool false) (v_neP rfl rfl rfl guard29 (eq29 _ _ _ _)) rfl) ?_
        refine q_q _ rfl rfl rfl (v_pick_f rfl rfl rfl) ?_
        refine q_q _ rfl rfl rfl (v_move rfl rfl) ?_
        refine q_g _ rfl rfl rfl rfl (v_move rfl rfl) ?_
        refine q_g _ rfl rfl rfl rfl (v_false (v_neq rfl rfl rfl) (by omega)) ?_
        all_goals
         refine q_q _ rfl rfl rfl (v_pick_f rfl rfl rfl) ?_
         refine q_nil ?_
         with_reducible refine r_then ?_
         refine r_cond rfl (fun hc109 => ?_) (fun hc109 => ?_)
         ·
          (exfalso; revert hc109; decide)
         ·
          refine r_skip ?_
          with_reducible refine r_then ?_
          refine r_seq ?_
          refine r_region ?_
          refine o_q _ rfl rfl rfl (v_move rfl rfl) ?_
          refine o_q _ rfl rfl rfl (v_true (v_eql rfl rfl rfl) (by omega)) ?_
          all_goals
           refine o_q _ rfl rfl rfl (v_move rfl rfl) ?_
           refine o_g _ rfl rfl rfl rfl (v_move rfl rfl) ?_
           refine o_g _ rfl rfl rfl rfl (v_true (v_eql rfl rfl rfl) (by omega)) ?_
           all_goals
            refine o_q _ rfl rfl rfl (v_pick_t rfl rfl rfl) ?_
            refine o_q _ rfl rfl rfl (v_move rfl rfl) ?_
            refine o_g _ rfl rfl rfl rfl (v_move rfl rfl) ?_
            refine o_g _ rfl rfl rfl rfl (v_true (v_eql rfl rfl rfl) (by omega)) ?_
            all_goals
             refine o_q _ rfl rfl rfl (v_pick_t rfl rfl rfl) ?_
             refine o_q _ rfl rfl rfl (v_move rfl rfl) ?_
             refine o_g _ rfl rfl rfl rfl (v_move rfl rfl) ?_
             refine o_g _ rfl rfl rfl rfl (v_true (v_eql rfl rfl rfl) (by omega)) ?_
             all_goals
              refine o_q _ rfl rfl rfl (v_pick_t rfl rfl rfl) ?_
              refine o_q _ rfl rfl rfl (v_move rfl rfl) ?_
              refine o_g _ rfl rfl rfl rfl (v_move rfl rfl) ?_
              refine o_g _ rfl rfl rfl rfl (v_true (v_eql rfl rfl rfl) (by omega)) ?_
              all_goals
               refine o_q _ rfl rfl rfl (v_pick_t rfl rfl rfl) ?_
               refine o_q _ rfl rfl rfl (v_move rfl rfl) ?_
               refine o_g _ rfl rfl rfl rfl (v_move rfl rfl) ?_
               refine o_g _ rfl rfl rfl rfl (v_true (v_eql rfl rfl rfl) (by omega)) ?_
               all_goals
                refine o_q _ rfl rfl rfl (v_pick_t rfl rfl rfl) ?_
                refine o_q _ rfl rfl rfl (v_move rfl rfl) ?_
                refine o_g _ rfl rfl rfl rfl (v_move rfl rfl) ?_
                refine o_g _ rfl rfl rfl rfl (v_true (v_eql rfl rfl rfl) (by omega)) ?_
                all_goals
                 refine o_q _ rfl rfl rfl (v_pick_t rfl rfl rfl) ?_
                 refine o_q _ rfl rfl rfl (v_move rfl rfl) ?_
                 refine o_g _ rfl rfl rfl rfl (v_move rfl rfl) ?_
                 refine o_g _ rfl rfl rfl rfl (v_true (v_eql rfl rfl rfl) (by omega)) ?_
                 all_goals
                  refine o_q _ rfl rfl rfl (v_pick_t rfl rfl rfl) ?_
                  refine o_q _ rfl rfl rfl (v_assign rfl rfl) ?_
                  refine o_nil ?_
                  with_reducible refine r_then ?_
                  refine r_ret ?_
                  exact r_retv2 (Rd.tmp rfl rfl) rfl SelMC.sel SubRC.sub
end Go.Proofs.YtpfgiednfjfdmaaDoor


namespace Go.G
variable {P : Program} {W : World} {n : Nat} {D : List Deferred} {L : Tm} {M : List Res} {R : List Fact} {Q : Exit → Act → World → Prop} {o : Oper}
/-- The operation is a call that hands back such a value. -/
def CallR (P : Program) (L : Tm) (R : List Fact) (o : Oper) (val : Value → Prop) (fct : Value → List Fact) : Prop :=
  ∃ (k : FuncId) (args : List Value) (R0 : List Fact) (xs : List Operand) (ts : Array TypeId), o.op = .call { callee := .value (.func k), args := xs.toArray, argTypes := ts } ∧ evs L xs = some args ∧ FnR P k args R0 val fct ∧ SubR R R0
theorem CallR.mk {k : FuncId} {args : List Value} {R0 : List Fact} {xs : List Operand} {ts : Array TypeId} {val : Value → Prop} {fct : Value → List Fact} (h : FnR P k args R0 val fct) (ho : o.op = .call { callee := .value (.func k), args := xs.toArray, argTypes := ts }) (hx : evs L xs = some args) (hs : SubR R R0) : CallR P L R o val fct := ⟨k, args, R0, xs, ts, ho, hx, h, hs⟩
end Go.G


namespace Go.Proofs.YtpfgiednfjfdmaaDoor
open Go.G Debt10
set_option maxRecDepth 1000000
attribute [local irreducible] G.ParO G.Fin
@[reducible] def vTr (ao : Option Addr) (n ac : Nat) (po : Option Addr) (m pc : Nat) : Value := .agg #[.slice ao n ac, .slice po m pc]
variable (D : Debt) (uo po : Option Addr) (uc pc : Nat)
end Go.Proofs.YtpfgiednfjfdmaaDoor


namespace Debt10
/-- Another book with the same persons and days, and sods of its own. -/
structure Alike (D E : Debt) (am am' pa pa' : Nat → Int) : Prop where
  nd : E.dues.length = D.dues.length
  ny : E.paid.length = D.paid.length
  due : ∀ i, i < D.dues.length → (E.dues.getD i default).who = (D.dues.getD i default).who ∧ (E.dues.getD i default).day = (D.dues.getD i default).day ∧ (E.dues.getD i default).late = (D.dues.getD i default).late ∧ am' i = am i
  pay : ∀ i, i < D.paid.length → (E.paid.getD i default).who = (D.paid.getD i default).who ∧ (E.paid.getD i default).day = (D.paid.getD i default).day ∧ pa' i = pa i
section
variable {D E : Debt} {am am' pa pa' : Nat → Int} (h : Alike D E am am' pa pa') (who : Int)
include h
end
/-! ### sets of numbers -/
/-! ### what is left, and what is ahead -/
theorem prog_total {D : Debt} (hg : GoodD D) (e : Nat) (who : Int) (d : Nat) : total (progA D e who d).1 = total (acc0 D (amD D e) (paD D e) who d).1 := total_open (fitA hg e who d).1.pos
theorem progB_total {D : Debt} (hg : GoodD D) (e : Nat) (who : Int) (d : Nat) : total (progB D e who d).1 = total (accB D (amD D e) (paD D e) who d).1 := total_open (fitB hg e who d).pos
end Debt10


namespace Go.Proofs.YtpfgiednfjfdmaaDoor
open Go.G Debt10
set_option maxRecDepth 1000000
attribute [local irreducible] G.ParO G.Fin
theorem tmodE {a b m : Nat} {c : Int} (e : a % b = m) (h : c = (b : Int)) : Value.int .i64 ((a : Int).tmod c) = i64 (m : Int) := by
  subst e; subst h; exact congrArg (Value.int .i64) tmod_nat
theorem isW_good {D : Debt} (hg : GoodD D) (n : Int) : isW D n = decide (0 ≤ n ∧ n ≤ D.people - 1) := by
  have h := hg.np
  unfold isW
  rw [show IntKind.i64.wrap (D.people - 1) = D.people - 1 from IntWalk.i64_in _ (by omega)]
section
variable {D : Debt} (hg : GoodD D) {w d : Nat}
include hg
theorem okWD_ok (hw : (w : Int) < D.people) (hd : d ≤ 30) : okWD D (w : Int) (d : Int) = true := okT (by rw [isW_good hg]; exact decide_eq_true (by omega)) (decide_eq_true (by omega))
theorem leftB_ok (hw : (w : Int) < D.people) (hd : d ≤ 30) : leftB D (w : Int) (d : Int) = (leftT D (w : Int) d, 0) := by rw [leftB, ansD_0 (chkD_0 hg (okWD_ok hg hw hd)), Int.toNat_natCast]
theorem needB_ok (hw : (w : Int) < D.people) (hd : d ≤ 30) : needB D (w : Int) (d : Int) = (needT D (w : Int) d, 0) := by rw [needB, ansD_0 (chkD_0 hg (okWD_ok hg hw hd)), Int.toNat_natCast]
theorem aheadB_ok (hw : (w : Int) < D.people) (hd : d ≤ 30) : aheadB D (w : Int) (d : Int) = (aheadT D (w : Int) d, 0) := by rw [aheadB, ansD_0 (chkD_0 hg (okWD_ok hg hw hd)), Int.toNat_natCast]
end
/-! ### a book of known sods -/
attribute [local irreducible] leftT aheadT gradeS setT
variable (D : Debt) (uo po : Option Addr) (uc pc : Nat)
end Go.Proofs.YtpfgiednfjfdmaaDoor


namespace Debt10
/-- A book with one payment more. -/
def moreP (D : Debt) (p : Paid) : Debt := { D with paid := D.paid ++ [p] }
theorem more_len (D : Debt) (p : Paid) : (moreP D p).paid.length = D.paid.length + 1 := by simp [moreP]
theorem more_at {D : Debt} {p : Paid} {i : Nat} (hi : i < D.paid.length) : (moreP D p).paid.getD i default = D.paid.getD i default := by
  show (D.paid ++ [p]).getD i default = _
  rw [List.getD_eq_getElem?_getD, List.getElem?_append_left hi, ← List.getD_eq_getElem?_getD]
theorem more_last (D : Debt) (p : Paid) : (moreP D p).paid.getD D.paid.length default = p := by
  show (D.paid ++ [p]).getD D.paid.length default = _
  rw [List.getD_eq_getElem?_getD, List.getElem?_append_right (Nat.le_refl _), Nat.sub_self]; rfl
theorem more_newTo (D : Debt) (p : Paid) (e : Nat) (who : Int) (d : Nat) : ∀ n, newTo (moreP D p) (amD (moreP D p) e) who d n = newTo D (amD D e) who d n
  | 0 => rfl
  | n + 1 => by
    show newTo (moreP D p) (amD (moreP D p) e) who d n ++ _ = newTo D (amD D e) who d n ++ _
    rw [more_newTo D p e who d n]
    rfl
theorem more_newF (D : Debt) (p : Paid) (e : Nat) (who : Int) (d : Nat) : newF (moreP D p) (amD (moreP D p) e) who d = newF D (amD D e) who d := more_newTo D p e who d _
theorem more_paidTo (D : Debt) (p : Paid) (e : Nat) (who : Int) (d : Nat) : ∀ n, n ≤ D.paid.length → paidTo (moreP D p) (paD (moreP D p) e) who d n = paidTo D (paD D e) who d n
  | 0, _ => rfl
  | n + 1, hn => by
    show paidTo (moreP D p) (paD (moreP D p) e) who d n + _ = paidTo D (paD D e) who d n + _
    rw [more_paidTo D p e who d n (by omega)]
    unfold paD
    rw [more_at (by omega)]
theorem more_paidS (D : Debt) (p : Paid) (e : Nat) (who : Int) (d : Nat) : paidS (moreP D p) (paD (moreP D p) e) who d = paidS D (paD D e) who d + (if p.who = who ∧ p.day = d then paE e p.sods else 0) := by
  show paidTo (moreP D p) (paD (moreP D p) e) who d (moreP D p).paid.length = _
  rw [more_len]
  show paidTo (moreP D p) (paD (moreP D p) e) who d D.paid.length + (if ((moreP D p).paid.getD D.paid.length default).who = who ∧ ((moreP D p).paid.getD D.paid.length default).day = d then paD (moreP D p) e D.paid.length else 0) = _
  rw [more_paidTo D p e who d _ (Nat.le_refl _), more_last]
  unfold paD
  rw [more_last]
end Debt10


namespace Go.Proofs.YtpfgiednfjfdmaaDoor
open Go.G Debt10
set_option maxRecDepth 1000000
attribute [local irreducible] G.ParO G.Fin
attribute [local irreducible] leftT aheadT gradeS setT needT
variable (D : Debt) (uo po : Option Addr) (uc pc : Nat)
end Go.Proofs.YtpfgiednfjfdmaaDoor


namespace Go.Proofs.YtpfgiednfjfdmaaDoor
open Go.G Debt10
theorem nat8 {x : Int} (h : (Lit.int .u8 x).wf = true) : ∃ w : Nat, x = w ∧ w ≤ 255 := by
  have m1 : IntKind.u8.min = 0 := rfl
  have m2 : IntKind.u8.max = 255 := rfl
  simp only [Lit.wf, m1, m2, Bool.and_eq_true, decide_eq_true_eq] at h
  exact ⟨x.toNat, by omega, by omega⟩
set_option maxRecDepth 1000000
section
variable {H : Type} {en : TypeId × Value → H} {w : World} {base : Nat} {sp : Nat → Bool} {held : Bool} {fuel : Nat} {cs : List Value} {x : DataW H × List MemPlace}
theorem cells22 : Tryd.prog.cellsOf 22 = 1 := by kernel_rfl
theorem cells23 : Tryd.prog.cellsOf 23 = 1 := by kernel_rfl
theorem cells25 : Tryd.prog.cellsOf 25 = 3 := by kernel_rfl
theorem cells29 : Tryd.prog.cellsOf 29 = 2 := by kernel_rfl
theorem cells54 : Tryd.prog.cellsOf 54 = 4 := by kernel_rfl
theorem cells62 : Tryd.prog.cellsOf 62 = 5 := by kernel_rfl
theorem cellsI : Tryd.prog.cellsOf 3 = 1 := by kernel_rfl
theorem open3 (h : DataW.trod en Tryd.prog w base sp held fuel 3 cs = some x) : ∃ n, cs = [i64 n] ∧ (-9223372036854775808 ≤ n ∧ n ≤ 9223372036854775807) := by
  obtain ⟨n, h1, h2⟩ := open_i Tryd.underlying3 h
  refine ⟨n, h1, ?_⟩
  have m1 : IntKind.i64.min = -9223372036854775808 := rfl
  have m2 : IntKind.i64.max = 9223372036854775807 := rfl
  simp only [Lit.wf, m1, m2, Bool.and_eq_true, decide_eq_true_eq] at h2
  exact h2
theorem list2 {cs : List Value} (h : cs.length = 2) : ∃ a b, cs = [a, b] := by
  match cs, h with
  | [a, b], _ => exact ⟨a, b, rfl⟩
theorem list3 {cs : List Value} (h : cs.length = 3) : ∃ a b c, cs = [a, b, c] := by
  match cs, h with
  | [a, b, c], _ => exact ⟨a, b, c, rfl⟩
theorem list4 {cs : List Value} (h : cs.length = 4) : ∃ a b c d, cs = [a, b, c, d] := by
  match cs, h with
  | [a, b, c, d], _ => exact ⟨a, b, c, d, rfl⟩
theorem list5 {cs : List Value} (h : cs.length = 5) : ∃ a b c d e, cs = [a, b, c, d, e] := by
  match cs, h with
  | [a, b, c, d, e], _ => exact ⟨a, b, c, d, e, rfl⟩
theorem open29 (h : DataW.trod en Tryd.prog w base sp held fuel 29 cs = some x) : ∃ s : Debt10.Span, cs = encS s ∧ True := by
  obtain ⟨a, b, rfl⟩ := list2 ((open_len Tryd.underlying29 h).trans cells29)
  obtain ⟨_, _, h0⟩ := open_field Tryd.underlying29 h 0 rfl cellsI
  obtain ⟨_, _, h1⟩ := open_field Tryd.underlying29 h 1 rfl cellsI
  obtain ⟨n, e0, _⟩ := open3 h0
  obtain ⟨m, e1, _⟩ := open3 h1
  have e0' : [a] = [i64 n] := e0
  have e1' : [b] = [i64 m] := e1
  cases e0'; cases e1'
  exact ⟨⟨n, m⟩, rfl, trivial⟩
theorem open62 (h : DataW.trod en Tryd.prog w base sp held fuel 62 cs = some x) : ∃ s : Due, cs = encD s ∧ True := by
  obtain ⟨a, b, c, d, e, rfl⟩ := list5 ((open_len Tryd.underlying62 h).trans cells62)
  obtain ⟨_, _, h0⟩ := open_field Tryd.underlying62 h 0 rfl cellsI
  obtain ⟨_, _, h1⟩ := open_field Tryd.underlying62 h 1 rfl cellsI
  obtain ⟨_, _, h2⟩ := open_field Tryd.underlying62 h 2 rfl cells29
  obtain ⟨_, _, h3⟩ := open_field Tryd.underlying62 h 3 rfl cellsI
  obtain ⟨n, e0, _⟩ := open3 h0
  obtain ⟨m, e1, _⟩ := open3 h1
  obtain ⟨t, e2, _⟩ := open29 h2
  obtain ⟨k, e3, _⟩ := open3 h3
  have e0' : [a] = [i64 n] := e0
  have e1' : [b] = [i64 m] := e1
  have e2' : [c, d] = [i64 t.lo, i64 t.hi] := e2
  have e3' : [e] = [i64 k] := e3
  cases e0'; cases e1'; cases e2'; cases e3'
  exact ⟨⟨n, m, t, k⟩, rfl, trivial⟩
theorem open54 (h : DataW.trod en Tryd.prog w base sp held fuel 54 cs = some x) : ∃ s : Paid, cs = encP s ∧ True := by
  obtain ⟨a, b, c, d, rfl⟩ := list4 ((open_len Tryd.underlying54 h).trans cells54)
  obtain ⟨_, _, h0⟩ := open_field Tryd.underlying54 h 0 rfl cellsI
  obtain ⟨_, _, h1⟩ := open_field Tryd.underlying54 h 1 rfl cellsI
  obtain ⟨_, _, h2⟩ := open_field Tryd.underlying54 h 2 rfl cells29
  obtain ⟨n, e0, _⟩ := open3 h0
  obtain ⟨m, e1, _⟩ := open3 h1
  obtain ⟨t, e2, _⟩ := open29 h2
  have e0' : [a] = [i64 n] := e0
  have e1' : [b] = [i64 m] := e1
  have e2' : [c, d] = [i64 t.lo, i64 t.hi] := e2
  cases e0'; cases e1'; cases e2'
  exact ⟨⟨n, m, t⟩, rfl, trivial⟩
theorem open25 (h : DataW.trod en Tryd.prog w base sp held fuel 25 cs = some x) : ∃ D uo po uc pc, cs = cellsD D uo po uc pc ∧ rowD uo 5 encD D.dues (full w) ∧ rowD po 4 encP D.paid (full w) := by
  obtain ⟨a, b, c, rfl⟩ := list3 ((open_len Tryd.underlying25 h).trans cells25)
  obtain ⟨_, _, h0⟩ := open_field Tryd.underlying25 h 0 rfl cellsI
  obtain ⟨_, _, h1⟩ := open_field Tryd.underlying25 h 1 rfl cells22
  obtain ⟨_, _, h2⟩ := open_field Tryd.underlying25 h 2 rfl cells23
  obtain ⟨n, e0, _⟩ := open3 h0
  obtain ⟨uo, uc, dues, e1, r1, _, _⟩ := open_rowD (fun _ : Due => True) Tryd.underlying22 cells62 (by omega) (fun _ _ _ h => open62 h) h1
  obtain ⟨po, pc, paid, e2, r2, _, _⟩ := open_rowD (fun _ : Paid => True) Tryd.underlying23 cells54 (by omega) (fun _ _ _ h => open54 h) h2
  have e0' : [a] = [i64 n] := e0
  have e1' : [b] = [.slice uo dues.length uc] := e1
  have e2' : [c] = [.slice po paid.length pc] := e2
  cases e0'; cases e1'; cases e2'
  exact ⟨⟨n, dues, paid⟩, uo, po, uc, pc, rfl, r1, r2⟩
end
section
variable {H : Type} {en : TypeId × Value → H} {w : World} {base b0 : Nat} {r : Reach} {sp : Nat → Bool} {held : Bool} {v : Value} {d : DataW H} {ps : List MemPlace}
theorem agg_of {t : TypeId} {dd : TypeDesc} (hd : Tryd.prog.underlying t = some dd) (ha : aggD dd = true) (hv : Value.okWide Tryd.prog w r b0 t v) : ∃ cs : List Value, v = .agg cs.toArray := by
  unfold Value.okWide at hv
  rw [hd] at hv
  cases dd <;> simp [aggD] at ha
  all_goals
    obtain ⟨cs, rfl, _⟩ := hv
    exact ⟨cs.toList, by simp⟩
theorem get25 (hv : Value.okWide Tryd.prog w r b0 25 v) (h : DataW.Trod en Tryd.prog w base sp held 25 v d ps) : ∃ D uo po uc pc, v = valD D uo po uc pc ∧ rowD uo 5 encD D.dues (full w) ∧ rowD po 4 encP D.paid (full w) := by
  obtain ⟨cs, rfl⟩ := agg_of Tryd.underlying25 rfl hv
  obtain ⟨fuel, h⟩ := h
  obtain ⟨D, uo, po, uc, pc, e, h1, h2⟩ := open25 (cs := cs) h
  subst e
  exact ⟨D, uo, po, uc, pc, rfl, h1, h2⟩
theorem get54 (hv : Value.okWide Tryd.prog w r b0 54 v) (h : DataW.Trod en Tryd.prog w base sp held 54 v d ps) : ∃ s : Paid, v = .agg (encP s).toArray := by
  obtain ⟨cs, rfl⟩ := agg_of Tryd.underlying54 rfl hv
  obtain ⟨fuel, h⟩ := h
  obtain ⟨s, e, _⟩ := open54 (cs := cs) h
  subst e
  exact ⟨s, rfl⟩
end
theorem own0 : ownKnob Tryd.prog.godebug = none := by kernel_rfl
theorem monoR {W : World} {α : Type} {oa : Option Addr} {sz : Nat} {enc : α → List Value} {xs : List α} {R : List Fact} (h : rowD oa sz enc xs (full W)) (hR : ∀ φ ∈ R, Mono φ ∧ φ (full W)) : ∀ φ ∈ rowD oa sz enc xs :: R, Mono φ ∧ φ (full W) := by
  intro φ hφ
  rcases List.mem_cons.1 hφ with rfl | hφ
  · exact ⟨Mono.row _ _ _ _, h⟩
  · exact hR φ hφ
theorem mono0 {W : World} : ∀ φ ∈ ([] : List Fact), Mono φ ∧ φ (full W) := fun _ h => by cases h
/-! ### what is laid -/
abbrev laidL : List (String × DataW Unit) := [("bogworks/debt.ends", Rows.laid_bogworks_debt_ends)]
theorem typeName_named {P : Program} {nm : String} {tp : TypeId} (hrows : ((List.range P.types.size).all fun u => P.typeName? 3 u != some nm || u == tp) = true) (hstar : nm.toList.head? ≠ some '*') (u : TypeId) (hu : P.typeName? 3 u = some nm) : u = tp := by
  by_cases hlt : u < P.types.size
  · have := List.all_eq_true.1 hrows u (List.mem_range.2 hlt)
    simpa [hu] using this
  · exfalso
    unfold Program.typeName? at hu
    cases hi : P.info? u with
    | none => simp [hi] at hu
    | some i =>
      have hb := Tables.info?_beyond hlt hi
      simp only [hi] at hu
      cases hd : i.desc <;> simp only [hd, TypeDesc.tableOnly] at hu hb <;> try cases hb
      all_goals try cases hu
      simp only [Option.map_eq_some_iff] at hu
      obtain ⟨n', hn', hs⟩ := hu
      apply hstar
      rw [← hs]
      simp [String.toList_append]
theorem name_good {u : TypeId} (h : Tryd.prog.typeName? 3 u = some "bogworks/debt.good") : u = 182 := typeName_named (by kernel_rfl) (by decide) u h
theorem name_bad {u : TypeId} (h : Tryd.prog.typeName? 3 u = some "bogworks/debt.bad") : u = 184 := typeName_named (by kernel_rfl) (by decide) u h
theorem cells_nil {v : Value} (h : v.cells.toList.length = 0) : v = .agg #[] := by
  cases v with
  | agg cs =>
    have : cs.toList = [] := List.length_eq_zero_iff.1 h
    rw [show cs = #[] from Array.toList_inj.1 this]
  | _ => simp [Value.cells] at h
theorem iface_of {w : World} {sp : Nat → Bool} {fuel : Nat} {c : Value} {nm : String} {d : DataW Unit} {p : List MemPlace} (h : DataW.trod (fun _ => ()) Tryd.prog w 0 sp false fuel 141 [c] = some (.iface nm d, p)) : ∃ u v m, c = .iface u v ∧ Tryd.prog.typeName? 3 u = some nm ∧ ∃ q, DataW.trod (fun _ => ()) Tryd.prog w 0 sp false m u v.cells.toList = some (d, q) := by
  cases fuel with
  | zero => simp [DataW.trod] at h
  | succ m =>
    unfold DataW.trod at h
    rw [Tryd.underlying141] at h
    cases c with
    | iface u v =>
      dsimp only at h
      cases hn : Tryd.prog.typeName? 3 u with
      | none => rw [hn] at h; cases h
      | some name =>
        rw [hn] at h
        dsimp only at h
        cases ht : DataW.trod (fun _ => ()) Tryd.prog w 0 sp false m u v.cells.toList with
        | none => rw [ht] at h; cases h
        | some y =>
          rw [ht] at h
          simp only [Option.map_some, Option.some.injEq, Prod.mk.injEq, DataW.iface.injEq] at h
          obtain ⟨⟨rfl, rfl⟩, rfl⟩ := h
          exact ⟨u, v, m, rfl, hn, _, ht⟩
    | _ => simp at h
theorem ends_cells {W : World} (h : laidMetH Tryd.prog laidL W) : W.cell? ⟨0, 0, none⟩ = some (endV 0) ∧ W.cell? ⟨0, 1, none⟩ = some (endV 1) ∧ ∃ c t, W.heap[0]? = some (.cells c t (0, 0)) := by
  rw [MakeChecks.laidMetH_plain _ _ _ (by kernel_rfl)] at h
  obtain ⟨ps, ⟨g, t, cs, fuel, p, q, hg, ht, hv, hd, hq, hps⟩, _, hfr⟩ := h
  obtain rfl := Option.some.inj ((show Tryd.prog.globalNamed "bogworks/debt.ends" = some 0 by kernel_rfl).symm.trans hg)
  obtain rfl := Option.some.inj ((show (Tryd.prog.globals[0]?).map (·.type) = some 142 by kernel_rfl).symm.trans ht)
  obtain ⟨xs, m, _, ex, hlc, hl, hel⟩ := DataW.trod_array Tryd.underlying142 hd
  have c141 : Tryd.prog.cellsOf 141 = 1 := by kernel_rfl
  have c142 : Tryd.prog.cellsOf 142 = 2 := by kernel_rfl
  obtain ⟨a, b, hab⟩ := list2 (hlc.trans c142)
  obtain ⟨x0, x1, rfl⟩ : ∃ x0 x1, xs = [x0, x1] := by
    match xs, hl with
    | [x0, x1], _ => exact ⟨x0, x1, rfl⟩
  have e0 := hel 0 (by decide)
  have e1 := hel 1 (by decide)
  rw [c141, hab] at e0 e1
  have f0 : DataW.trod (fun _ => ()) Tryd.prog W 0 (fun _ => true) false m 141 [a] = some x0 := e0
  have f1 : DataW.trod (fun _ => ()) Tryd.prog W 0 (fun _ => true) false m 141 [b] = some x1 := e1
  clear e0 e1
  have hx := (Prod.mk.inj ex).1
  have hx : ([.iface "bogworks/debt.good" (.agg []), .iface "bogworks/debt.bad" (.agg [.agg []])] : List (DataW Unit)) = [x0.1, x1.1] := DataW.agg.inj hx
  obtain ⟨hx0, hx1⟩ := List.cons.inj hx
  have hx1 := (List.cons.inj hx1).1
  obtain ⟨u0, v0, m0, rfl, n0, q0, t0⟩ := iface_of (d := .agg []) (nm := "bogworks/debt.good") (p := x0.2) (f0.trans (by rw [hx0]))
  obtain ⟨u1, v1, m1, rfl, n1, q1, t1⟩ := iface_of (d := .agg [.agg []]) (nm := "bogworks/debt.bad") (p := x1.2) (f1.trans (by rw [hx1]))
  obtain rfl := name_good n0
  obtain rfl := name_bad n1
  have c182 : Tryd.prog.cellsOf 182 = 0 := by kernel_rfl
  have c184 : Tryd.prog.cellsOf 184 = 0 := by kernel_rfl
  obtain rfl := cells_nil ((open_len Tryd.underlying182 t0).trans c182)
  obtain rfl := cells_nil ((open_len Tryd.underlying184 t1).trans c184)
  have hcell := fun k => World.var?_cell hg hv k
  have hcs : cs = #[.iface 182 (.agg #[]), .iface 184 (.agg #[])] := Array.toList_inj.1 (by rw [hab])
  refine ⟨?_, ?_, ?_⟩
  · rw [hcell 0, hcs]; rfl
  · rw [hcell 1, hcs]; rfl
  · refine (hfr 0 0 ?_).1
    rw [hps, hcs]
    simp [MemPlace.row]
theorem ends_row {W : World} (h : laidMetH Tryd.prog laidL W) : rowD (some ⟨0, 0, none⟩) 1 encE ([0, 1] : List Nat) (full W) := by
  obtain ⟨h0, h1, c, t, hc⟩ := ends_cells h
  refine .inr ⟨0, 0, c, t, (0, 0), rfl, hc, fun i j hi hj => ?_⟩
  have hat : ∀ k, W.cell? ⟨0, k, none⟩ = c[k]? := fun k => by unfold World.cell?; rw [hc]; rfl
  obtain rfl : j = 0 := by omega
  have hi' : i < 2 := hi
  obtain rfl | rfl : i = 0 ∨ i = 1 := by omega
  · rw [← hat]; exact h0
  · rw [← hat]; exact h1
end Go.Proofs.YtpfgiednfjfdmaaDoor


namespace Debt10
/-! ### new dues -/
/-! ### paying in order -/
/-! ### growing -/
/-! ### what is told of the row -/
end Debt10


namespace Debt10
/-- A truth of a book: what is owed and what is brought lies within what is told. -/
structure TruD (D : Debt) (am pa : List Int) : Prop where
  na : am.length = D.dues.length
  np : pa.length = D.paid.length
  a : ∀ i, i < D.dues.length → (D.dues.getD i default).sods.lo ≤ am.getD i default ∧ am.getD i default ≤ (D.dues.getD i default).sods.hi
  p : ∀ i, i < D.paid.length → (D.paid.getD i default).sods.lo ≤ pa.getD i default ∧ pa.getD i default ≤ (D.paid.getD i default).sods.hi
section
variable {D : Debt} {am pa : List Int}
end
end Debt10


set_option linter.unusedSectionVars false
set_option linter.unusedVariables false
namespace Debt10
/-- What an entry is: the due of its number. -/
def EntD (D : Debt) (who : Int) (l : List Opn) : Prop := ∀ x ∈ l, x.number < D.dues.length ∧ (D.dues.getD x.number default).who = who ∧ (D.dues.getD x.number default).day = x.day ∧ x.late = (D.dues.getD x.number default).late
theorem EntD.app {D : Debt} {who : Int} {l m : List Opn} (h : EntD D who l) (k : EntD D who m) : EntD D who (l ++ m) := fun x hx => by
  rcases List.mem_append.1 hx with hx | hx
  · exact h x hx
  · exact k x hx
theorem EntD.pay {D : Debt} {who : Int} {l : List Opn} {A : Int} (h : EntD D who l) : EntD D who (payF l A) := fun x hx => by
  obtain ⟨y, hy, e1, e2, e3⟩ := payF_day hx
  rw [e1, e2, e3]; exact h y hy
theorem EntD.grow {D : Debt} {who : Int} {l : List Opn} {d : Nat} (h : EntD D who l) : EntD D who (growF d l) := fun x hx => by
  obtain ⟨y, hy, rfl⟩ := List.mem_map.1 hx
  have := h y hy
  split
  · exact this
  · exact this
theorem EntD.new {D : Debt} {am : Nat → Int} {who : Int} {d : Nat} : EntD D who (newF D am who d) := fun x hx => by
  obtain ⟨h1, h2, h3, h4⟩ := newTo_mem hx
  have h3 := of_decide_eq_true h3
  refine ⟨h2, h3.1, by rw [h1]; exact h3.2, ?_⟩
  have h5 := congrArg Opn.late h4
  exact h5
section
variable {D : Debt} {am pa : List Int} (hg : GoodD D) (h : TruD D am pa) (who : Int) (d : Nat)
end
end Debt10


namespace Go.Proofs.YtpfgiednfjfdmaaDoor
open Go.G Debt10
set_option maxRecDepth 1000000
attribute [local irreducible] G.ParO G.Fin
variable (D : Debt) (uo po : Option Addr) (uc pc : Nat)
end Go.Proofs.YtpfgiednfjfdmaaDoor


namespace Go.Proofs.YtpfgiednfjfdmaaDoor
open Go.G Debt10
set_option maxRecDepth 1000000
attribute [local irreducible] G.ParO G.Fin
theorem i64c {a b : Int} (h : a = b) : i64 a = i64 b := congrArg (Value.int .i64) h
variable (D : Debt) (uo po : Option Addr) (uc pc : Nat)
end Go.Proofs.YtpfgiednfjfdmaaDoor


namespace Debt10
theorem LeL.trans : ∀ {l m n : List Opn}, LeL l m → LeL m n → LeL l n
  | [], [], [], _, _ => trivial
  | _ :: _, _ :: _, _ :: _, h, k => ⟨⟨Int.le_trans h.1.1 k.1.1, h.1.2.1.trans k.1.2.1, h.1.2.2.trans k.1.2.2⟩, LeL.trans h.2 k.2⟩
  | [], [], _ :: _, _, k => k.elim
  | [], _ :: _, _, h, _ => h.elim
  | _ :: _, [], _, h, _ => h.elim
  | _ :: _, _ :: _, [], _, k => k.elim
/-- Of a person's dues no more is owed, and no less is brought, day by day, at both ends. -/
structure Bet (E D : Debt) (who : Int) : Prop where
  new : ∀ e d, LeL (newF E (amD E e) who d) (newF D (amD D e) who d)
  paid : ∀ e d, paidS D (paD D e) who d ≤ paidS E (paD E e) who d
section
variable {E D : Debt} {who : Int} (h : Bet E D who)
include h
theorem Bet.acc (hg : GoodD D) (e d : Nat) : LeL (acc0 E (amD E e) (paD E e) who d).1 (acc0 D (amD D e) (paD D e) who d).1 ∧ (acc0 D (amD D e) (paD D e) who d).2 ≤ (acc0 E (amD E e) (paD E e) who d).2 :=
  acc_le (h.new e) (h.paid e) (fun k x hx => ((fitB hg e who k).late x hx).1) d
theorem Bet.accB (hg : GoodD D) (e d : Nat) : LeL (Debt10.accB E (amD E e) (paD E e) who d).1 (Debt10.accB D (amD D e) (paD D e) who d).1 :=
  (accB_le (h.new e) (h.paid e) (fun k x hx => ((fitB hg e who k).late x hx).1) d).1
theorem Bet.left (hg : GoodD D) (hE : GoodD E) (e d : Nat) : total (progA E e who d).1 ≤ total (progA D e who d).1 := by
  rw [prog_total hE, prog_total hg]; exact (h.acc hg e d).1.total
theorem Bet.need (hg : GoodD D) (hE : GoodD E) (e d : Nat) : total (progB E e who d).1 ≤ total (progB D e who d).1 := by
  rw [progB_total hE, progB_total hg]; exact (h.accB hg e d).total
theorem Bet.ahead (hg : GoodD D) (e d : Nat) : (progA D e who d).2 ≤ (progA E e who d).2 := (h.acc hg e d).2
end
theorem new_le2 {D E : Debt} {am am' : Nat → Int} {who : Int} (hs : ∀ i, i < D.dues.length → (E.dues.getD i default).who = (D.dues.getD i default).who ∧ (E.dues.getD i default).day = (D.dues.getD i default).day ∧ (E.dues.getD i default).late = (D.dues.getD i default).late ∧ am' i ≤ am i) (d : Nat) : ∀ n, n ≤ D.dues.length → LeL (newTo E am' who d n) (newTo D am who d n)
  | 0, _ => trivial
  | n + 1, hn => by
    obtain ⟨h1, h2, h3, h4⟩ := hs n (by omega)
    refine LeL.app (new_le2 hs d n (by omega)) ?_
    have e : isNew E who d n = isNew D who d n := by unfold isNew; rw [h1, h2]
    rw [e]
    split
    · exact ⟨⟨h4, rfl, h3⟩, trivial⟩
    · trivial
theorem paid_le2 {D E : Debt} {pa pa' : Nat → Int} {who : Int} (hs : ∀ i, i < D.paid.length → (E.paid.getD i default).who = (D.paid.getD i default).who ∧ (E.paid.getD i default).day = (D.paid.getD i default).day ∧ pa i ≤ pa' i) (d : Nat) : ∀ n, n ≤ D.paid.length → paidTo D pa who d n ≤ paidTo E pa' who d n
  | 0, _ => Int.le_refl _
  | n + 1, hn => by
    have h1 := paid_le2 (who := who) hs d n (by omega)
    obtain ⟨h2, h3, h4⟩ := hs n (by omega)
    show paidTo D pa who d n + _ ≤ paidTo E pa' who d n + _
    rw [h2, h3]
    split <;> omega
theorem getD_set2 {α : Type} {l : List α} {i k : Nat} {v d : α} : (l.set i v).getD k d = if k = i ∧ i < l.length then v else l.getD k d := by
  rw [List.getD_eq_getElem?_getD, List.getElem?_set, List.getD_eq_getElem?_getD]
  by_cases e : i = k
  · subst e
    by_cases h : i < l.length
    · simp [h]
    · simp [h]
  · rw [if_neg e, if_neg (fun h => e h.1.symm)]
/-! ### a payment more -/
theorem bet_x {D : Debt} {p : Paid} (hg : GoodD (moreP D p)) (who : Int) : Bet (moreP D p) D who :=
  ⟨fun e d => by rw [more_newF]; exact LeL.refl _, fun e d => by
    have h := hg.paid D.paid.length (by rw [more_len]; omega)
    rw [more_last] at h
    unfold PaidOk SodsOk at h
    rw [more_paidS]
    have : 0 ≤ paE e p.sods := by unfold paE; split <;> omega
    split <;> omega⟩
/-! ### a payment, or a due, that is known better -/
def moreLo (x : Paid) : Paid := { x with sods := ⟨min x.sods.hi (x.sods.lo + 1), x.sods.hi⟩ }
def lessHi (x : Due) : Due := { x with sods := ⟨x.sods.lo, max x.sods.lo (x.sods.hi - 1)⟩ }
def yD (D : Debt) (i : Nat) : Debt := { D with paid := D.paid.set i (moreLo (D.paid.getD i default)) }
def zD (D : Debt) (i : Nat) : Debt := { D with dues := D.dues.set i (lessHi (D.dues.getD i default)) }
theorem bet_y {D : Debt} (hg : GoodD D) (i : Nat) (who : Int) : Bet (yD D i) D who :=
  ⟨fun e d => new_le2 (D := D) (E := yD D i) (fun k _ => ⟨rfl, rfl, rfl, Int.le_refl _⟩) d _ (Nat.le_refl _), fun e d => by
    have hl : (yD D i).paid.length = D.paid.length := List.length_set ..
    show _ ≤ paidTo (yD D i) _ who d (yD D i).paid.length
    rw [hl]
    refine paid_le2 (fun k hk => ?_) d _ (Nat.le_refl _)
    have h := hg.paid k hk
    unfold PaidOk SodsOk at h
    have e1 : (yD D i).paid.getD k default = if k = i ∧ i < D.paid.length then moreLo (D.paid.getD i default) else D.paid.getD k default := getD_set2
    unfold paD
    rw [e1]
    split
    · rename_i hc
      rw [← hc.1]
      refine ⟨rfl, rfl, ?_⟩
      unfold paE moreLo
      split
      · exact Int.le_refl _
      · show (D.paid.getD k default).sods.lo ≤ min (D.paid.getD k default).sods.hi ((D.paid.getD k default).sods.lo + 1)
        omega
    · exact ⟨rfl, rfl, Int.le_refl _⟩⟩
theorem bet_z {D : Debt} (hg : GoodD D) (i : Nat) (who : Int) : Bet (zD D i) D who :=
  ⟨fun e d => by
    have hl : (zD D i).dues.length = D.dues.length := List.length_set ..
    show LeL (newTo (zD D i) _ who d (zD D i).dues.length) _
    rw [hl]
    refine new_le2 (fun k hk => ?_) d _ (Nat.le_refl _)
    have h := hg.dues k hk
    unfold DueOk SodsOk at h
    have e1 : (zD D i).dues.getD k default = if k = i ∧ i < D.dues.length then lessHi (D.dues.getD i default) else D.dues.getD k default := getD_set2
    unfold amD
    rw [e1]
    split
    · rename_i hc
      rw [← hc.1]
      refine ⟨rfl, rfl, rfl, ?_⟩
      unfold amE lessHi
      split
      · exact Int.le_refl _
      · show max (D.dues.getD k default).sods.lo ((D.dues.getD k default).sods.hi - 1) ≤ (D.dues.getD k default).sods.hi
        omega
    · exact ⟨rfl, rfl, rfl, Int.le_refl _⟩, fun e d => paid_le2 (D := D) (E := zD D i) (fun k _ => ⟨rfl, rfl, Int.le_refl _⟩) d _ (Nat.le_refl _)⟩
/-! ### payments in another order; what is others' left out -/
def sumP (f : Paid → Int) : List Paid → Int
  | [] => 0
  | x :: r => f x + sumP f r
theorem sumP_app (f : Paid → Int) : ∀ l m, sumP f (l ++ m) = sumP f l + sumP f m
  | [], m => by show sumP f m = 0 + sumP f m; omega
  | x :: r, m => by show f x + sumP f (r ++ m) = f x + sumP f r + sumP f m; rw [sumP_app f r m]; omega
theorem sumP_rev (f : Paid → Int) : ∀ l, sumP f l.reverse = sumP f l
  | [] => rfl
  | x :: r => by
    rw [List.reverse_cons, sumP_app, sumP_rev f r]
    show sumP f r + (f x + 0) = f x + sumP f r
    omega
theorem sumP_filter {f : Paid → Int} {p : Paid → Bool} (h : ∀ x, p x = false → f x = 0) : ∀ l, sumP f (l.filter p) = sumP f l
  | [] => rfl
  | x :: r => by
    rw [List.filter_cons]
    cases hx : p x with
    | true =>
      show f x + sumP f (r.filter p) = f x + sumP f r
      rw [sumP_filter h r]
    | false =>
      show sumP f (r.filter p) = f x + sumP f r
      rw [sumP_filter h r, h x hx]; omega
def payW (e : Nat) (who : Int) (d : Nat) (x : Paid) : Int := if x.who = who ∧ x.day = d then paE e x.sods else 0
theorem take_s {α : Type} {l : List α} {n : Nat} {d : α} (h : n < l.length) : l.take (n + 1) = l.take n ++ [l.getD n d] := by
  rw [List.take_add_one, List.getD_eq_getElem?_getD, List.getElem?_eq_getElem h]; rfl
theorem paid_sum (D : Debt) (e : Nat) (who : Int) (d : Nat) : ∀ n, n ≤ D.paid.length → paidTo D (paD D e) who d n = sumP (payW e who d) (D.paid.take n)
  | 0, _ => by rw [List.take_zero]; rfl
  | n + 1, hn => by
    show paidTo D (paD D e) who d n + _ = _
    rw [paid_sum D e who d n (by omega), take_s (d := default) (by omega), sumP_app]
    show _ = _ + (payW e who d (D.paid.getD n default) + 0)
    rw [Int.add_zero]; rfl
theorem paidS_sum (D : Debt) (e : Nat) (who : Int) (d : Nat) : paidS D (paD D e) who d = sumP (payW e who d) D.paid := by
  have h := paid_sum D e who d D.paid.length (Nat.le_refl _)
  rw [List.take_of_length_le (Nat.le_refl _)] at h
  exact h
def newL (e : Nat) (who : Int) (d : Nat) (l : List Due) : List Opn := (l.filter (fun x : Due => decide (x.who = who ∧ x.day = (d : Int)))).map (fun x : Due => (⟨0, d, amE e x.sods, x.late⟩ : Opn))
theorem newL_app (e : Nat) (who : Int) (d : Nat) (l m : List Due) : newL e who d (l ++ m) = newL e who d l ++ newL e who d m := by
  unfold newL
  rw [List.filter_append, List.map_append]
theorem newL_filter (e : Nat) (who : Int) (d : Nat) (l : List Due) : newL e who d (l.filter (fun x => decide (x.who = who))) = newL e who d l := by
  unfold newL
  rw [List.filter_filter]
  congr 2
  funext x
  by_cases h : x.who = who <;> simp [h]
theorem new_list (D : Debt) (e : Nat) (who : Int) (d : Nat) : ∀ n, n ≤ D.dues.length → LeL (newTo D (amD D e) who d n) (newL e who d (D.dues.take n)) ∧ LeL (newL e who d (D.dues.take n)) (newTo D (amD D e) who d n)
  | 0, _ => by rw [List.take_zero]; exact ⟨trivial, trivial⟩
  | n + 1, hn => by
    obtain ⟨h1, h2⟩ := new_list D e who d n (by omega)
    rw [take_s (d := default) (by omega), newL_app]
    have e1 : newL e who d [D.dues.getD n default] = if isNew D who d n = true then [(⟨0, d, amE e (D.dues.getD n default).sods, (D.dues.getD n default).late⟩ : Opn)] else [] := by
      unfold newL isNew
      rw [List.filter_cons]
      split <;> rfl
    rw [e1]
    have e2 : newTo D (amD D e) who d (n + 1) = newTo D (amD D e) who d n ++ if isNew D who d n = true then [newOp D (amD D e) d n] else [] := rfl
    rw [e2]
    refine ⟨LeL.app h1 ?_, LeL.app h2 ?_⟩ <;> split
    · exact ⟨⟨Int.le_refl _, rfl, rfl⟩, trivial⟩
    · trivial
    · exact ⟨⟨Int.le_refl _, rfl, rfl⟩, trivial⟩
    · trivial
theorem newF_list (D : Debt) (e : Nat) (who : Int) (d : Nat) : LeL (newF D (amD D e) who d) (newL e who d D.dues) ∧ LeL (newL e who d D.dues) (newF D (amD D e) who d) := by
  have h := new_list D e who d D.dues.length (Nat.le_refl _)
  rw [List.take_of_length_le (Nat.le_refl _)] at h
  exact h
/-- Two books whose dues, and payments, of a person are the same day by day. -/
theorem bet_same {E D : Debt} {who : Int} (h1 : ∀ e d, newL e who d E.dues = newL e who d D.dues) (h2 : ∀ e d, sumP (payW e who d) E.paid = sumP (payW e who d) D.paid) : Bet E D who ∧ Bet D E who :=
  ⟨⟨fun e d => (newF_list E e who d).1.trans (by rw [h1]; exact (newF_list D e who d).2), fun e d => by rw [paidS_sum, paidS_sum, h2]; exact Int.le_refl _⟩,
   ⟨fun e d => (newF_list D e who d).1.trans (by rw [← h1]; exact (newF_list E e who d).2), fun e d => by rw [paidS_sum, paidS_sum, h2]; exact Int.le_refl _⟩⟩
def tD (D : Debt) : Debt := { D with paid := D.paid.reverse }
def uD (D : Debt) (w : Int) : Debt := { D with dues := D.dues.filter (fun x => decide (x.who = w)), paid := D.paid.filter (fun x => decide (x.who = w)) }
theorem bet_t (D : Debt) (who : Int) : Bet (tD D) D who ∧ Bet D (tD D) who := bet_same (fun _ _ => rfl) (fun _ _ => sumP_rev _ _)
theorem bet_u (D : Debt) (w : Int) : Bet (uD D w) D w ∧ Bet D (uD D w) w := bet_same (fun e d => newL_filter e w d _) (fun e d => sumP_filter (fun x hx => by
  unfold payW
  rw [if_neg (fun h => of_decide_eq_false hx h.1)]) _)
end Debt10

