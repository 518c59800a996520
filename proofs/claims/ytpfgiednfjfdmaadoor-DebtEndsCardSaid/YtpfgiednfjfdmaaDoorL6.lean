/- Part 6 of 6 of what the proofs of this seat stand on: a small logic for walks, what the functions come to, and the walks themselves. No condition of its own. -/
import Derived.Test.YtpfgiednfjfdmaaDoorL5
import Derived.Test.YtpfgiednfjfdmaaDoorL2
import Derived.Test.YtpfgiednfjfdmaaDoorL3
import Derived.Test.YtpfgiednfjfdmaaDoorTie
import Derived.Test.YtpfgiednfjfdmaaDoorCards
import Derived.LaidMore
import Derived.LaidLaws
import Derived.Lay
import Derived.SevenTiedAt
import Derived.Stop.Joined
set_option linter.unusedVariables false
set_option linter.unusedSimpArgs false
set_option linter.unusedSectionVars false
namespace Go.Proofs.YtpfgiednfjfdmaaDoor
open Go.G Debt10
set_option maxRecDepth 1000000
attribute [local irreducible] G.ParO G.Fin
theorem v_eqlB {P : Program} {W : World} {n : Nat} {L : Tm} {M : List Res} {R : List Fact} {o : Oper} {T u : TypeId} {x y : Operand} {a b : Bool} (c : Bool) (ho : o.op = .binOp .eql T x y u) (hT : P.underlying T = some .bool) (hx : ev L x = some (.bool a)) (hy : ev L y = some (.bool b)) (hc : (a == b) = c) : OpQ P W n L M R o (.bool c) :=
  OpQ.of_value fun f w h1 _ => by
    have e1 := h1.ev hx
    have e2 := h1.ev hy
    have hb1 : (binOp .eql T (.bool a) (.bool b)).run P w = .ok (.bool c) w := by
      show Sem.run P (do pure (Value.bool (← Op.equal T (.bool a) (.bool b)))) w = _
      simp only [Sem.run_bind, run_eqB hT, Result.andThen_ok, Sem.run_pure, hc]
    unfold execOp
    simp [ho, e1, e2, eqGuard, hb1]
theorem eq_same {p q : Prop} [Decidable p] [Decidable q] (h : p ↔ q) : (decide p == decide q) = true := by
  rw [show decide p = decide q from decide_eq_decide.2 h]; cases decide q <;> rfl
theorem tmodE {a b m : Nat} {c : Int} (e : a % b = m) (h : c = (b : Int)) : Value.int .i64 ((a : Int).tmod c) = i64 (m : Int) := by
  subst e; subst h; exact congrArg (Value.int .i64) tmod_nat
theorem isW_good {D : Debt} (hg : GoodD D) (n : Int) : isW D n = decide (0 ≤ n ∧ n ≤ D.people - 1) := by
  have h := hg.np
  unfold isW
  rw [show IntKind.i64.wrap (D.people - 1) = D.people - 1 from IntWalk.i64_in _ (by omega)]
section
variable {D : Debt} (hg : GoodD D) {w d : Nat}
include hg
theorem okWD_ok (hw : (w : Int) < D.people) (hd : d ≤ 30) : okWD D (w : Int) (d : Int) = true := okT (by rw [isW_good hg]; exact decide_eq_true (by omega)) (decide_eq_true (by omega))
theorem leftB_ok (hw : (w : Int) < D.people) (hd : d ≤ 30) : leftB D (w : Int) (d : Int) = (leftT D (w : Int) d, 0) := by rw [leftB, ansD_0 (chkD_0 hg (okWD_ok hg hw hd)), Int.toNat_natCast]
theorem setlB_ok (hw : (w : Int) < D.people) (hd : d ≤ 30) : setlB D (w : Int) (d : Int) = (gradeS (leftT D (w : Int) d), 0) := by rw [setlB, ansD_0 (chkD_0 hg (okWD_ok hg hw hd)), Int.toNat_natCast]
theorem aheadB_ok (hw : (w : Int) < D.people) (hd : d ≤ 30) : aheadB D (w : Int) (d : Int) = (aheadT D (w : Int) d, 0) := by rw [aheadB, ansD_0 (chkD_0 hg (okWD_ok hg hw hd)), Int.toNat_natCast]
theorem openB_ok (hw : (w : Int) < D.people) (hd : d ≤ 30) : openB D (w : Int) (d : Int) = ((setT (progA D 0 (w : Int) (d + 1)).1, setT (progA D 1 (w : Int) (d + 1)).1), 0) := by rw [openB, ansD_0 (chkD_0 hg (okWD_ok hg hw hd)), Int.toNat_natCast]
theorem left_le (who : Int) (d : Nat) : (leftT D who d).lo ≤ (leftT D who d).hi := by
  show total (progA D 0 who (d + 1)).1 ≤ total (progA D 1 who (d + 1)).1
  rw [prog_total hg, prog_total hg]
  exact (prog_le hg who (d + 1)).1.total
theorem one_lo (who : Int) (d : Nat) : (leftT D who d).lo = 0 ∨ (aheadT D who d).hi = 0 := prog_one hg 0 who d
theorem one_hi (who : Int) (d : Nat) : (leftT D who d).hi = 0 ∨ (aheadT D who d).lo = 0 := prog_one hg 1 who d
theorem grade2_iff (who : Int) (d : Nat) : gradeS (leftT D who d) = 2 ↔ (leftT D who d).hi = 0 := by
  unfold gradeS
  split
  · simp [*]
  · split <;> simp [*]
theorem grade0_iff (who : Int) {d : Nat} (hd : d ≤ 30) : gradeS (leftT D who d) = 0 ↔ (leftT D who d).lo > 0 := by
  have h1 := left_le hg who d
  have h2 := left_bd hg who hd
  unfold gradeS
  split
  · constructor
    · intro h; cases h
    · intro h; omega
  · split
    · constructor
      · intro h; cases h
      · intro h; omega
    · constructor
      · intro _; omega
      · intro _; rfl
theorem open_lo (who : Int) (d : Nat) : ((setT (progA D 0 who (d + 1)).1 : Nat) : Int) = 0 ↔ (leftT D who d).lo = 0 := by
  have := set_zero (prog_left (D := D) 0 who (d + 1))
  show (((setK (progA D 0 who (d + 1)).1 (progA D 0 who (d + 1)).1.length : Nat)) : Int) = 0 ↔ total (progA D 0 who (d + 1)).1 = 0
  rw [← this]; omega
theorem open_hi (who : Int) (d : Nat) : ((setT (progA D 1 who (d + 1)).1 : Nat) : Int) = 0 ↔ (leftT D who d).hi = 0 := by
  have := set_zero (prog_left (D := D) 1 who (d + 1))
  show (((setK (progA D 1 who (d + 1)).1 (progA D 1 who (d + 1)).1.length : Nat)) : Int) = 0 ↔ total (progA D 1 who (d + 1)).1 = 0
  rw [← this]; omega
theorem open_in (who : Int) (d : Nat) : setT (progA D 0 who (d + 1)).1 &&& setT (progA D 1 who (d + 1)).1 = setT (progA D 0 who (d + 1)).1 := set_sub (prog_sub hg who (d + 1))
end
/-! ### a book of known sods -/
theorem exU_at {D : Debt} {am : List Int} {i : Nat} : ∀ {n : Nat}, i < n → (exU D am n).getD i default = { D.dues.getD i default with sods := ⟨am.getD i default, am.getD i default⟩ }
  | n + 1, h => by
    unfold exU
    by_cases e : i < n
    · rw [List.getD_eq_getElem?_getD, List.getElem?_append_left (by rw [exU_len]; exact e), ← List.getD_eq_getElem?_getD]; exact exU_at e
    · have e2 : i = n := by omega
      subst e2
      rw [List.getD_eq_getElem?_getD, List.getElem?_append_right (by rw [exU_len]; exact Nat.le_refl _), exU_len, Nat.sub_self]; rfl
theorem exP_at {D : Debt} {pa : List Int} {i : Nat} : ∀ {n : Nat}, i < n → (exP D pa n).getD i default = { D.paid.getD i default with sods := ⟨pa.getD i default, pa.getD i default⟩ }
  | n + 1, h => by
    unfold exP
    by_cases e : i < n
    · rw [List.getD_eq_getElem?_getD, List.getElem?_append_left (by rw [exP_len]; exact e), ← List.getD_eq_getElem?_getD]; exact exP_at e
    · have e2 : i = n := by omega
      subst e2
      rw [List.getD_eq_getElem?_getD, List.getElem?_append_right (by rw [exP_len]; exact Nat.le_refl _), exP_len, Nat.sub_self]; rfl
theorem exact_lens (D : Debt) (am pa : List Int) : (exactD D am pa).dues.length = D.dues.length ∧ (exactD D am pa).paid.length = D.paid.length ∧ (exactD D am pa).people = D.people := ⟨exU_len .., exP_len .., rfl⟩
theorem exact_good {D : Debt} (hg : GoodD D) {am pa : List Int} (ha : ∀ i, i < D.dues.length → 1 ≤ am.getD i default ∧ am.getD i default ≤ 500) (hp : ∀ i, i < D.paid.length → 1 ≤ pa.getD i default ∧ pa.getD i default ≤ 500) : GoodD (exactD D am pa) := by
  refine ⟨hg.np, by rw [(exact_lens D am pa).1]; exact hg.nd, by rw [(exact_lens D am pa).2.1]; exact hg.ny, fun k hk => ?_, fun k hk => ?_⟩
  · rw [(exact_lens D am pa).1] at hk
    have h1 := hg.dues k hk
    have h2 := ha k hk
    show DueOk _ ((exU D am D.dues.length).getD k default)
    rw [exU_at hk]
    exact ⟨h1.1, h1.2.1, ⟨h2.1, Int.le_refl _, h2.2, by show am.getD k default - am.getD k default ≤ 20; omega⟩, h1.2.2.2⟩
  · rw [(exact_lens D am pa).2.1] at hk
    have h1 := hg.paid k hk
    have h2 := hp k hk
    show PaidOk _ ((exP D pa D.paid.length).getD k default)
    rw [exP_at hk]
    exact ⟨h1.1, h1.2.1, h2.1, Int.le_refl _, h2.2, by show pa.getD k default - pa.getD k default ≤ 20; omega⟩
theorem exact_alike (D : Debt) (am pa : List Int) (e : Nat) : Debt10.Alike D (exactD D am pa) (fun i => am.getD i default) (amD (exactD D am pa) e) (fun i => pa.getD i default) (paD (exactD D am pa) e) := by
  refine ⟨(exact_lens D am pa).1, (exact_lens D am pa).2.1, fun i hi => ?_, fun i hi => ?_⟩
  · unfold amD
    show ((exU D am D.dues.length).getD i default).who = _ ∧ ((exU D am D.dues.length).getD i default).day = _ ∧ ((exU D am D.dues.length).getD i default).late = _ ∧ amE e ((exU D am D.dues.length).getD i default).sods = _
    rw [exU_at hi]
    exact ⟨rfl, rfl, rfl, by unfold amE; split <;> rfl⟩
  · unfold paD
    show ((exP D pa D.paid.length).getD i default).who = _ ∧ ((exP D pa D.paid.length).getD i default).day = _ ∧ paE e ((exP D pa D.paid.length).getD i default).sods = _
    rw [exP_at hi]
    exact ⟨rfl, rfl, by unfold paE; split <;> rfl⟩
theorem prog_exact (D : Debt) (am pa : List Int) (e : Nat) (who : Int) (d : Nat) : progA (exactD D am pa) e who d = ((acc0 D (fun i => am.getD i default) (fun i => pa.getD i default) who d).1.filter isOpen, (acc0 D (fun i => am.getD i default) (fun i => pa.getD i default) who d).2) := by
  unfold progA
  rw [acc_alike (exact_alike D am pa e) who d]
theorem ends_alike (D : Debt) (e : Nat) : Debt10.Alike D D (amD D e) (fun i => (amT D e).getD i default) (paD D e) (fun i => (paT D e).getD i default) :=
  ⟨rfl, rfl, fun _ hi => ⟨rfl, rfl, rfl, amT_at hi⟩, fun _ hi => ⟨rfl, rfl, paT_at hi⟩⟩
theorem prog_end (D : Debt) (e e' : Nat) (who : Int) (d : Nat) : progA (exactD D (amT D e) (paT D e)) e' who d = progA D e who d := by
  rw [prog_exact]
  unfold progA
  rw [acc_alike (ends_alike D e) who d]
abbrev endD (D : Debt) (e : Nat) : Debt := exactD D (amT D e) (paT D e)
theorem end_good {D : Debt} (hg : GoodD D) (e : Nat) : GoodD (endD D e) := exact_good hg (fun i hi => by rw [amT_at hi]; exact am_bd hg e i hi) (fun i hi => by rw [paT_at hi]; exact pa_bd hg e i hi)
theorem end_left (D : Debt) (e : Nat) (who : Int) (d : Nat) : leftT (endD D e) who d = ⟨total (progA D e who (d + 1)).1, total (progA D e who (d + 1)).1⟩ := by unfold leftT; rw [prog_end, prog_end]
theorem end_ahead (D : Debt) (e : Nat) (who : Int) (d : Nat) : aheadT (endD D e) who d = ⟨(progA D e who (d + 1)).2, (progA D e who (d + 1)).2⟩ := by unfold aheadT; rw [prog_end, prog_end]
attribute [local irreducible] leftT aheadT gradeS setT
variable (D : Debt) (uo po : Option Addr) (uc pc : Nat)
set_option maxHeartbeats 4000000 in
theorem ends_far (w0 : Nat) (b0 : w0 ≤ 255) (w1 : Nat) (b1 : w1 ≤ 255) (hf : farD D) : FnV Tryd.prog 6 [valD D uo po uc pc, .int .u8 w0, .int .u8 w1] [rowD uo 5 encD D.dues, rowD po 4 encP D.paid, rowD (some ⟨0, 0, none⟩) 1 encE ([0, 1] : List Nat)] (.bool true) := by
  refine FnV.intro Tryd.call6 Tryd.func6 rfl Tryd.ntmps6 rfl ?_
  intro W M Rf
  refine r_seq ?_
  refine r_region ?_
  refine o_boxA rfl rfl rfl rfl rfl (fun b3 => ?_)
  refine o_q _ rfl rfl rfl (v_assign rfl rfl) ?_
  refine o_nil ?_
  repeat (first | with_reducible refine r_then ?_ | with_reducible refine r_in_normal ?_ | with_reducible refine r_sc_normal ?_)
  refine r_seq ?_
  refine r_seq ?_
  refine r_region ?_
  first | refine o_q _ rfl rfl rfl (v_ldW rfl Tryd.underlying25 rfl inf25 rfl rfl) ?_ | refine o_q _ rfl rfl rfl (v_lfW rfl Tryd.underlying25 rfl inf25 rfl rfl) ?_ | refine o_q _ rfl rfl rfl (v_lfN rfl Tryd.underlying25 rfl inf25 rfl rfl rfl) ?_ | refine o_q _ rfl rfl rfl (v_ldN rfl Tryd.underlying25 rfl inf25 rfl rfl rfl) ?_ | refine o_q _ rfl rfl rfl (v_loadEN rfl Tryd.underlying25 rfl inf25 rfl (by omega) rfl rfl rfl) ?_
  refine o_q _ rfl rfl rfl (v_cast (v := .bool true) (OpQ.fn (far_v D uo po uc pc) rfl rfl SubRC.sub) (congrArg Value.bool (decide_eq_true hf))) ?_
  refine o_nil ?_
  repeat (first | with_reducible refine r_then ?_ | with_reducible refine r_in_normal ?_ | with_reducible refine r_sc_normal ?_)
  first | refine r_condd rfl (fun hc45 => ?_) (fun hc45 => ?_) | refine r_cond rfl (fun hc45 => ?_) (fun hc45 => ?_)
  ·
    first
    | (exfalso; revert hc45; decide)
    | (exfalso; omega)
    | skip
      refine r_seq ?_
      refine r_region ?_
      refine o_q _ rfl rfl rfl (OpQ.fn awake_v rfl rfl SubRC.sub) ?_
      refine o_q _ rfl rfl rfl (v_assign rfl rfl) ?_
      refine o_nil ?_
      repeat (first | with_reducible refine r_then ?_ | with_reducible refine r_in_normal ?_ | with_reducible refine r_sc_normal ?_)
      refine r_ret ?_
      repeat (first | with_reducible refine r_then_ret ?_ | with_reducible refine r_in_ret ?_ | with_reducible refine r_sc_ret ?_)
      exact r_retv2 (Rd.tmp rfl rfl) rfl SelMC.sel SubRC.sub
  ·
    first
    | (exfalso; revert hc45; decide)
    | (exfalso; omega)
    | skip
      refine r_skip ?_
      repeat (first | with_reducible refine r_then ?_ | with_reducible refine r_in_normal ?_ | with_reducible refine r_sc_normal ?_)
      refine r_seq ?_
      refine r_seq ?_
      skip
set_option maxHeartbeats 4000000 in
theorem ends_bad (w0 : Nat) (b0 : w0 ≤ 255) (w1 : Nat) (b1 : w1 ≤ 255) (hf : ¬ farD D) (hg : ¬ GoodD D) : FnV Tryd.prog 6 [valD D uo po uc pc, .int .u8 w0, .int .u8 w1] [rowD uo 5 encD D.dues, rowD po 4 encP D.paid, rowD (some ⟨0, 0, none⟩) 1 encE ([0, 1] : List Nat)] (.bool true) := by
  have hf2 := hf
  unfold farD at hf2
  have hl1 : D.dues.length ≤ 40 := by omega
  have hl2 : D.paid.length ≤ 40 := by omega
  refine FnV.intro Tryd.call6 Tryd.func6 rfl Tryd.ntmps6 rfl ?_
  intro W M Rf
  refine r_seq ?_
  refine r_region ?_
  refine o_boxA rfl rfl rfl rfl rfl (fun b3 => ?_)
  refine o_q _ rfl rfl rfl (v_assign rfl rfl) ?_
  refine o_nil ?_
  repeat (first | with_reducible refine r_then ?_ | with_reducible refine r_in_normal ?_ | with_reducible refine r_sc_normal ?_)
  refine r_seq ?_
  refine r_seq ?_
  refine r_region ?_
  first | refine o_q _ rfl rfl rfl (v_ldW rfl Tryd.underlying25 rfl inf25 rfl rfl) ?_ | refine o_q _ rfl rfl rfl (v_lfW rfl Tryd.underlying25 rfl inf25 rfl rfl) ?_ | refine o_q _ rfl rfl rfl (v_lfN rfl Tryd.underlying25 rfl inf25 rfl rfl rfl) ?_ | refine o_q _ rfl rfl rfl (v_ldN rfl Tryd.underlying25 rfl inf25 rfl rfl rfl) ?_ | refine o_q _ rfl rfl rfl (v_loadEN rfl Tryd.underlying25 rfl inf25 rfl (by omega) rfl rfl rfl) ?_
  refine o_q _ rfl rfl rfl (v_cast (v := .bool false) (OpQ.fn (far_v D uo po uc pc) rfl rfl SubRC.sub) (congrArg Value.bool (decide_eq_false hf))) ?_
  refine o_nil ?_
  repeat (first | with_reducible refine r_then ?_ | with_reducible refine r_in_normal ?_ | with_reducible refine r_sc_normal ?_)
  first | refine r_condd rfl (fun hc45 => ?_) (fun hc45 => ?_) | refine r_cond rfl (fun hc45 => ?_) (fun hc45 => ?_)
  ·
    first
    | (exfalso; revert hc45; decide)
    | (exfalso; omega)
    | skip
      refine r_seq ?_
      refine r_region ?_
      refine o_q _ rfl rfl rfl (OpQ.fn awake_v rfl rfl SubRC.sub) ?_
      refine o_q _ rfl rfl rfl (v_assign rfl rfl) ?_
      refine o_nil ?_
      repeat (first | with_reducible refine r_then ?_ | with_reducible refine r_in_normal ?_ | with_reducible refine r_sc_normal ?_)
      refine r_ret ?_
      repeat (first | with_reducible refine r_then_ret ?_ | with_reducible refine r_in_ret ?_ | with_reducible refine r_sc_ret ?_)
      exact r_retv2 (Rd.tmp rfl rfl) rfl SelMC.sel SubRC.sub
  ·
    first
    | (exfalso; revert hc45; decide)
    | (exfalso; omega)
    | skip
      refine r_skip ?_
      repeat (first | with_reducible refine r_then ?_ | with_reducible refine r_in_normal ?_ | with_reducible refine r_sc_normal ?_)
      refine r_seq ?_
      refine r_seq ?_
      refine r_region ?_
      first | refine o_q _ rfl rfl rfl (v_ldW rfl Tryd.underlying25 rfl inf25 rfl rfl) ?_ | refine o_q _ rfl rfl rfl (v_lfW rfl Tryd.underlying25 rfl inf25 rfl rfl) ?_ | refine o_q _ rfl rfl rfl (v_lfN rfl Tryd.underlying25 rfl inf25 rfl rfl rfl) ?_ | refine o_q _ rfl rfl rfl (v_ldN rfl Tryd.underlying25 rfl inf25 rfl rfl rfl) ?_ | refine o_q _ rfl rfl rfl (v_loadEN rfl Tryd.underlying25 rfl inf25 rfl (by omega) rfl rfl rfl) ?_
      refine o_q _ rfl rfl rfl (v_cast (v := .bool false) (OpQ.fn (Debt_v D uo po uc pc hl1 hl2) rfl rfl SubRC.sub) (congrArg Value.bool (decide_eq_false hg))) ?_
      refine o_q _ rfl rfl rfl (v_not rfl rfl) ?_
      refine o_nil ?_
      repeat (first | with_reducible refine r_then ?_ | with_reducible refine r_in_normal ?_ | with_reducible refine r_sc_normal ?_)
      first | refine r_condd rfl (fun hc49 => ?_) (fun hc49 => ?_) | refine r_cond rfl (fun hc49 => ?_) (fun hc49 => ?_)
      ·
        first
        | (exfalso; revert hc49; decide)
        | (exfalso; omega)
        | skip
          refine r_seq ?_
          refine r_region ?_
          first | refine o_q _ rfl rfl rfl (v_ldW rfl Tryd.underlying25 rfl inf25 rfl rfl) ?_ | refine o_q _ rfl rfl rfl (v_lfW rfl Tryd.underlying25 rfl inf25 rfl rfl) ?_ | refine o_q _ rfl rfl rfl (v_lfN rfl Tryd.underlying25 rfl inf25 rfl rfl rfl) ?_ | refine o_q _ rfl rfl rfl (v_ldN rfl Tryd.underlying25 rfl inf25 rfl rfl rfl) ?_ | refine o_q _ rfl rfl rfl (v_loadEN rfl Tryd.underlying25 rfl inf25 rfl (by omega) rfl rfl rfl) ?_
          refine o_q _ rfl rfl rfl (v_cast (v := .tuple #[vS ⟨0, 0⟩, i64 1]) (OpQ.fn (left14_v D uo po uc pc 0 0 hl1 hl2) rfl rfl SubRC.sub) (by rw [leftB, ansD_n (chkD_1 hg) (by decide)]; try rfl)) ?_
          refine o_q _ rfl rfl rfl (v_move rfl rfl) ?_
          refine o_q _ rfl rfl rfl (v_extract rfl rfl rfl) ?_
          refine o_q _ rfl rfl rfl (v_extract rfl rfl rfl) ?_
          refine o_alloc rfl inf29 rfl rfl rfl rfl rfl (fun b7 => ?_)
          refine o_st rfl inf29 rfl rfl rfl rfl rfl rfl rfl rfl ?_
          refine o_q _ rfl rfl rfl (v_assign rfl rfl) ?_
          refine o_nil ?_
          repeat (first | with_reducible refine r_then ?_ | with_reducible refine r_in_normal ?_ | with_reducible refine r_sc_normal ?_)
          refine r_seq ?_
          refine r_region ?_
          first | refine o_q _ rfl rfl rfl (v_ldW rfl Tryd.underlying25 rfl inf25 rfl rfl) ?_ | refine o_q _ rfl rfl rfl (v_lfW rfl Tryd.underlying25 rfl inf25 rfl rfl) ?_ | refine o_q _ rfl rfl rfl (v_lfN rfl Tryd.underlying25 rfl inf25 rfl rfl rfl) ?_ | refine o_q _ rfl rfl rfl (v_ldN rfl Tryd.underlying25 rfl inf25 rfl rfl rfl) ?_ | refine o_q _ rfl rfl rfl (v_loadEN rfl Tryd.underlying25 rfl inf25 rfl (by omega) rfl rfl rfl) ?_
          refine o_q _ rfl rfl rfl (v_cast (v := .tuple #[i64 0, i64 0, i64 1]) (OpQ.fn (check28_v D uo po uc pc hl1 hl2) rfl rfl SubRC.sub) (by rw [show checkB D = ((0, 0), 1) from if_neg hg]; try rfl)) ?_
          refine o_q _ rfl rfl rfl (v_move rfl rfl) ?_
          refine o_q _ rfl rfl rfl (v_extract rfl rfl rfl) ?_
          refine o_q _ rfl rfl rfl (v_extract rfl rfl rfl) ?_
          refine o_q _ rfl rfl rfl (v_extract rfl rfl rfl) ?_
          refine o_q _ rfl rfl rfl (v_assign rfl rfl) ?_
          refine o_q _ rfl rfl rfl (v_assign rfl rfl) ?_
          refine o_q _ rfl rfl rfl (v_assign rfl rfl) ?_
          refine o_nil ?_
          repeat (first | with_reducible refine r_then ?_ | with_reducible refine r_in_normal ?_ | with_reducible refine r_sc_normal ?_)
          refine r_seq ?_
          refine r_region ?_
          refine o_q _ rfl rfl rfl (v_move rfl rfl) ?_
          first | refine o_q _ rfl rfl rfl (v_true (v_eql rfl rfl rfl) (by omega)) ?_ | refine o_q _ rfl rfl rfl (v_false (v_eql rfl rfl rfl) (by omega)) ?_ | refine o_test rfl rfl rfl (v_eql rfl rfl rfl) (fun h62 => ?_) (fun h62 => ?_)
          all_goals
            refine o_q _ rfl rfl rfl (v_move rfl rfl) ?_
            first | refine o_gn rfl rfl rfl rfl ?_ | refine o_g _ rfl rfl rfl rfl (v_move rfl rfl) ?_
            first | refine o_gn rfl rfl rfl rfl ?_ | refine o_g _ rfl rfl rfl rfl (v_move rfl rfl) ?_
            first | refine o_gn rfl rfl rfl rfl ?_ | refine o_g _ rfl rfl rfl rfl (v_true (v_eql rfl rfl rfl) (by omega)) ?_ | refine o_g _ rfl rfl rfl rfl (v_false (v_eql rfl rfl rfl) (by omega)) ?_ | refine o_gtest rfl rfl rfl rfl (v_eql rfl rfl rfl) (fun h66 => ?_) (fun h66 => ?_)
            all_goals
              first | refine o_q _ rfl rfl rfl (v_pick_t rfl rfl rfl) ?_ | refine o_q _ rfl rfl rfl (v_pick_f rfl rfl rfl) ?_
              refine o_q _ rfl rfl rfl (v_move rfl rfl) ?_
              first | refine o_gn rfl rfl rfl rfl ?_ | refine o_g _ rfl rfl rfl rfl (v_ldW rfl Tryd.underlying29 rfl inf29 rfl rfl) ?_ | refine o_g _ rfl rfl rfl rfl (v_lfW rfl Tryd.underlying29 rfl inf29 rfl rfl) ?_ | refine o_g _ rfl rfl rfl rfl (v_lfN rfl Tryd.underlying29 rfl inf29 rfl rfl rfl) ?_ | refine o_g _ rfl rfl rfl rfl (v_ldN rfl Tryd.underlying29 rfl inf29 rfl rfl rfl) ?_ | refine o_g _ rfl rfl rfl rfl (v_loadEN rfl Tryd.underlying29 rfl inf29 rfl (by omega) rfl rfl rfl) ?_
              first | refine o_gn rfl rfl rfl rfl ?_ | refine o_g _ rfl rfl rfl rfl (v_bS0 rfl Tryd.underlying29 inf29 plt29 rfl rfl) ?_
              first | refine o_gn rfl rfl rfl rfl ?_ | refine o_g _ rfl rfl rfl rfl (v_cast (v := .bool true) (v_eqP rfl rfl rfl guard29 (eq29 _ _ _ _)) (congrArg Value.bool (decide_eq_true rfl))) ?_
              first | refine o_q _ rfl rfl rfl (v_pick_t rfl rfl rfl) ?_ | refine o_q _ rfl rfl rfl (v_pick_f rfl rfl rfl) ?_
              refine o_q _ rfl rfl rfl (v_move rfl rfl) ?_
              first | refine o_gn rfl rfl rfl rfl ?_ | refine o_g _ rfl rfl rfl rfl (v_move rfl rfl) ?_
              first | refine o_gn rfl rfl rfl rfl ?_ | refine o_g _ rfl rfl rfl rfl (v_true (v_eql rfl rfl rfl) (by omega)) ?_ | refine o_g _ rfl rfl rfl rfl (v_false (v_eql rfl rfl rfl) (by omega)) ?_ | refine o_gtest rfl rfl rfl rfl (v_eql rfl rfl rfl) (fun h75 => ?_) (fun h75 => ?_)
              all_goals
                first | refine o_q _ rfl rfl rfl (v_pick_t rfl rfl rfl) ?_ | refine o_q _ rfl rfl rfl (v_pick_f rfl rfl rfl) ?_
                refine o_q _ rfl rfl rfl (v_move rfl rfl) ?_
                first | refine o_gn rfl rfl rfl rfl ?_ | refine o_g _ rfl rfl rfl rfl (v_move rfl rfl) ?_
                first | refine o_gn rfl rfl rfl rfl ?_ | refine o_g _ rfl rfl rfl rfl (v_true (v_eql rfl rfl rfl) (by omega)) ?_ | refine o_g _ rfl rfl rfl rfl (v_false (v_eql rfl rfl rfl) (by omega)) ?_ | refine o_gtest rfl rfl rfl rfl (v_eql rfl rfl rfl) (fun h79 => ?_) (fun h79 => ?_)
                all_goals
                  first | refine o_q _ rfl rfl rfl (v_pick_t rfl rfl rfl) ?_ | refine o_q _ rfl rfl rfl (v_pick_f rfl rfl rfl) ?_
                  refine o_q _ rfl rfl rfl (v_move rfl rfl) ?_
                  first | refine o_gn rfl rfl rfl rfl ?_ | refine o_g _ rfl rfl rfl rfl (v_true (OpQ.fn awake_v rfl rfl SubRC.sub) (by omega)) ?_ | refine o_g _ rfl rfl rfl rfl (v_false (OpQ.fn awake_v rfl rfl SubRC.sub) (by omega)) ?_ | refine o_gtest rfl rfl rfl rfl (OpQ.fn awake_v rfl rfl SubRC.sub) (fun h82 => ?_) (fun h82 => ?_)
                  all_goals
                    first | refine o_q _ rfl rfl rfl (v_pick_t rfl rfl rfl) ?_ | refine o_q _ rfl rfl rfl (v_pick_f rfl rfl rfl) ?_
                    refine o_q _ rfl rfl rfl (v_assign rfl rfl) ?_
                    refine o_nil ?_
                    repeat (first | with_reducible refine r_then ?_ | with_reducible refine r_in_normal ?_ | with_reducible refine r_sc_normal ?_)
                    refine r_ret ?_
                    repeat (first | with_reducible refine r_then_ret ?_ | with_reducible refine r_in_ret ?_ | with_reducible refine r_sc_ret ?_)
                    exact r_retv2 (Rd.tmp rfl rfl) rfl SelMC.sel SubRC.sub
      ·
        first
        | (exfalso; revert hc49; decide)
        | (exfalso; omega)
        | skip
          refine r_skip ?_
          repeat (first | with_reducible refine r_then ?_ | with_reducible refine r_in_normal ?_ | with_reducible refine r_sc_normal ?_)
          refine r_seq ?_
          skip
theorem end_left_lo (D : Debt) (who : Int) (d : Nat) : leftT (endD D 0) who d = ⟨(leftT D who d).lo, (leftT D who d).lo⟩ := by rw [end_left]; unfold leftT; rfl
theorem end_left_hi (D : Debt) (who : Int) (d : Nat) : leftT (endD D 1) who d = ⟨(leftT D who d).hi, (leftT D who d).hi⟩ := by rw [end_left]; unfold leftT; rfl
theorem end_ahead_hi (D : Debt) (who : Int) (d : Nat) : aheadT (endD D 0) who d = ⟨(aheadT D who d).hi, (aheadT D who d).hi⟩ := by rw [end_ahead]; unfold aheadT; rfl
theorem end_ahead_lo (D : Debt) (who : Int) (d : Nat) : aheadT (endD D 1) who d = ⟨(aheadT D who d).lo, (aheadT D who d).lo⟩ := by rw [end_ahead]; unfold aheadT; rfl
set_option maxHeartbeats 4000000 in
theorem ends_ok (w0 : Nat) (b0 : w0 ≤ 255) (w1 : Nat) (b1 : w1 ≤ 255) (wk dk : Nat) (hwk : w0 % D.people.toNat = wk) (hdk : w1 % 31 = dk) (hf : ¬ farD D) (hg : GoodD D) : FnV Tryd.prog 6 [valD D uo po uc pc, .int .u8 w0, .int .u8 w1] [rowD uo 5 encD D.dues, rowD po 4 encP D.paid, rowD (some ⟨0, 0, none⟩) 1 encE ([0, 1] : List Nat)] (.bool true) := by
  have hf2 := hf
  unfold farD at hf2
  have hl1 : D.dues.length ≤ 40 := by omega
  have hl2 : D.paid.length ≤ 40 := by omega
  have hp1 := hg.np
  have hp2 := hg.nd
  have hp3 := hg.ny
  have hwp : (wk : Int) < D.people := by have : wk < D.people.toNat := by rw [← hwk]; exact Nat.mod_lt _ (by omega)
                                         omega
  have hdp : dk ≤ 30 := by omega
  refine FnV.intro Tryd.call6 Tryd.func6 rfl Tryd.ntmps6 rfl ?_
  intro W M Rf
  refine r_seq ?_
  refine r_region ?_
  refine o_boxA rfl rfl rfl rfl rfl (fun b3 => ?_)
  refine o_q _ rfl rfl rfl (v_assign rfl rfl) ?_
  refine o_nil ?_
  repeat (first | with_reducible refine r_then ?_ | with_reducible refine r_in_normal ?_ | with_reducible refine r_sc_normal ?_)
  refine r_seq ?_
  refine r_seq ?_
  refine r_region ?_
  first | refine o_q _ rfl rfl rfl (v_ldW rfl Tryd.underlying25 rfl inf25 rfl rfl) ?_ | refine o_q _ rfl rfl rfl (v_lfW rfl Tryd.underlying25 rfl inf25 rfl rfl) ?_ | refine o_q _ rfl rfl rfl (v_lfN rfl Tryd.underlying25 rfl inf25 rfl rfl rfl) ?_ | refine o_q _ rfl rfl rfl (v_ldN rfl Tryd.underlying25 rfl inf25 rfl rfl rfl) ?_ | refine o_q _ rfl rfl rfl (v_loadEN rfl Tryd.underlying25 rfl inf25 rfl (by omega) rfl rfl rfl) ?_
  refine o_q _ rfl rfl rfl (v_cast (v := .bool false) (OpQ.fn (far_v D uo po uc pc) rfl rfl SubRC.sub) (congrArg Value.bool (decide_eq_false hf))) ?_
  refine o_nil ?_
  repeat (first | with_reducible refine r_then ?_ | with_reducible refine r_in_normal ?_ | with_reducible refine r_sc_normal ?_)
  first | refine r_condd rfl (fun hc45 => ?_) (fun hc45 => ?_) | refine r_cond rfl (fun hc45 => ?_) (fun hc45 => ?_)
  ·
    first
    | (exfalso; revert hc45; decide)
    | (exfalso; omega)
    | skip
      refine r_seq ?_
      refine r_region ?_
      refine o_q _ rfl rfl rfl (OpQ.fn awake_v rfl rfl SubRC.sub) ?_
      refine o_q _ rfl rfl rfl (v_assign rfl rfl) ?_
      refine o_nil ?_
      repeat (first | with_reducible refine r_then ?_ | with_reducible refine r_in_normal ?_ | with_reducible refine r_sc_normal ?_)
      refine r_ret ?_
      repeat (first | with_reducible refine r_then_ret ?_ | with_reducible refine r_in_ret ?_ | with_reducible refine r_sc_ret ?_)
      exact r_retv2 (Rd.tmp rfl rfl) rfl SelMC.sel SubRC.sub
  ·
    first
    | (exfalso; revert hc45; decide)
    | (exfalso; omega)
    | skip
      refine r_skip ?_
      repeat (first | with_reducible refine r_then ?_ | with_reducible refine r_in_normal ?_ | with_reducible refine r_sc_normal ?_)
      refine r_seq ?_
      refine r_seq ?_
      refine r_region ?_
      first | refine o_q _ rfl rfl rfl (v_ldW rfl Tryd.underlying25 rfl inf25 rfl rfl) ?_ | refine o_q _ rfl rfl rfl (v_lfW rfl Tryd.underlying25 rfl inf25 rfl rfl) ?_ | refine o_q _ rfl rfl rfl (v_lfN rfl Tryd.underlying25 rfl inf25 rfl rfl rfl) ?_ | refine o_q _ rfl rfl rfl (v_ldN rfl Tryd.underlying25 rfl inf25 rfl rfl rfl) ?_ | refine o_q _ rfl rfl rfl (v_loadEN rfl Tryd.underlying25 rfl inf25 rfl (by omega) rfl rfl rfl) ?_
      refine o_q _ rfl rfl rfl (v_cast (v := .bool true) (OpQ.fn (Debt_v D uo po uc pc hl1 hl2) rfl rfl SubRC.sub) (congrArg Value.bool (decide_eq_true hg))) ?_
      refine o_q _ rfl rfl rfl (v_not rfl rfl) ?_
      refine o_nil ?_
      repeat (first | with_reducible refine r_then ?_ | with_reducible refine r_in_normal ?_ | with_reducible refine r_sc_normal ?_)
      first | refine r_condd rfl (fun hc49 => ?_) (fun hc49 => ?_) | refine r_cond rfl (fun hc49 => ?_) (fun hc49 => ?_)
      ·
        first
        | (exfalso; revert hc49; decide)
        | (exfalso; omega)
        | skip
          refine r_seq ?_
          skip
      ·
        first
        | (exfalso; revert hc49; decide)
        | (exfalso; omega)
        | skip
          refine r_skip ?_
          repeat (first | with_reducible refine r_then ?_ | with_reducible refine r_in_normal ?_ | with_reducible refine r_sc_normal ?_)
          refine r_seq ?_
          refine r_region ?_
          first | refine o_q _ rfl rfl rfl (v_ldW rfl Tryd.underlying25 rfl inf25 rfl rfl) ?_ | refine o_q _ rfl rfl rfl (v_lfW rfl Tryd.underlying25 rfl inf25 rfl rfl) ?_ | refine o_q _ rfl rfl rfl (v_lfN rfl Tryd.underlying25 rfl inf25 rfl rfl rfl) ?_ | refine o_q _ rfl rfl rfl (v_ldN rfl Tryd.underlying25 rfl inf25 rfl rfl rfl) ?_ | refine o_q _ rfl rfl rfl (v_loadEN rfl Tryd.underlying25 rfl inf25 rfl (by omega) rfl rfl rfl) ?_
          first | refine o_q _ rfl rfl rfl (v_fieldAddr rfl Tryd.underlying25 inf3 rfl rfl rfl rfl) ?_ | refine o_q _ rfl rfl rfl (v_fieldAddrE rfl Tryd.underlying25 inf3 rfl rfl rfl rfl) ?_
          first | refine o_q _ rfl rfl rfl (v_ld1 rfl Tryd.underlying3 rfl rfl rfl) ?_ | refine o_q _ rfl rfl rfl (v_lf1 rfl Tryd.underlying3 rfl rfl rfl) ?_ | refine o_q _ rfl rfl rfl (v_loadE1 rfl Tryd.underlying3 rfl rfl (by omega) rfl rfl) ?_
          refine o_q _ rfl rfl rfl (v_cast (v := .tuple #[vS ⟨0, 0⟩, i64 2]) (OpQ.fn (left14_v D uo po uc pc D.people 0 hl1 hl2) rfl rfl SubRC.sub) (by rw [leftB, ansD_n (chkD_2 hg (okF1 (by rw [isW_good hg]; exact decide_eq_false (by omega)))) (by decide)]; try rfl)) ?_
          refine o_q _ rfl rfl rfl (v_move rfl rfl) ?_
          refine o_q _ rfl rfl rfl (v_extract rfl rfl rfl) ?_
          refine o_q _ rfl rfl rfl (v_extract rfl rfl rfl) ?_
          refine o_alloc rfl inf29 rfl rfl rfl rfl rfl (fun b12 => ?_)
          refine o_st rfl inf29 rfl rfl rfl rfl rfl rfl rfl rfl ?_
          refine o_q _ rfl rfl rfl (v_assign rfl rfl) ?_
          refine o_nil ?_
          repeat (first | with_reducible refine r_then ?_ | with_reducible refine r_in_normal ?_ | with_reducible refine r_sc_normal ?_)
          refine r_seq ?_
          refine r_region ?_
          first | refine o_q _ rfl rfl rfl (v_ldW rfl Tryd.underlying25 rfl inf25 rfl rfl) ?_ | refine o_q _ rfl rfl rfl (v_lfW rfl Tryd.underlying25 rfl inf25 rfl rfl) ?_ | refine o_q _ rfl rfl rfl (v_lfN rfl Tryd.underlying25 rfl inf25 rfl rfl rfl) ?_ | refine o_q _ rfl rfl rfl (v_ldN rfl Tryd.underlying25 rfl inf25 rfl rfl rfl) ?_ | refine o_q _ rfl rfl rfl (v_loadEN rfl Tryd.underlying25 rfl inf25 rfl (by omega) rfl rfl rfl) ?_
          refine o_q _ rfl rfl rfl (v_cast (v := .tuple #[vS ⟨0, 0⟩, i64 2]) (OpQ.fn (ahead16_v D uo po uc pc (-1) 0 hl1 hl2) rfl rfl SubRC.sub) (by rw [aheadB, ansD_n (chkD_2 hg (okF1 (by rw [isW_good hg]; exact decide_eq_false (by omega)))) (by decide)]; try rfl)) ?_
          refine o_q _ rfl rfl rfl (v_move rfl rfl) ?_
          refine o_q _ rfl rfl rfl (v_extract rfl rfl rfl) ?_
          refine o_q _ rfl rfl rfl (v_extract rfl rfl rfl) ?_
          refine o_alloc rfl inf29 rfl rfl rfl rfl rfl (fun b14 => ?_)
          refine o_st rfl inf29 rfl rfl rfl rfl rfl rfl rfl rfl ?_
          refine o_q _ rfl rfl rfl (v_assign rfl rfl) ?_
          refine o_nil ?_
          repeat (first | with_reducible refine r_then ?_ | with_reducible refine r_in_normal ?_ | with_reducible refine r_sc_normal ?_)
          refine r_seq ?_
          refine r_region ?_
          first | refine o_q _ rfl rfl rfl (v_ldW rfl Tryd.underlying25 rfl inf25 rfl rfl) ?_ | refine o_q _ rfl rfl rfl (v_lfW rfl Tryd.underlying25 rfl inf25 rfl rfl) ?_ | refine o_q _ rfl rfl rfl (v_lfN rfl Tryd.underlying25 rfl inf25 rfl rfl rfl) ?_ | refine o_q _ rfl rfl rfl (v_ldN rfl Tryd.underlying25 rfl inf25 rfl rfl rfl) ?_ | refine o_q _ rfl rfl rfl (v_loadEN rfl Tryd.underlying25 rfl inf25 rfl (by omega) rfl rfl rfl) ?_
          refine o_q _ rfl rfl rfl (v_cast (v := .tuple #[i64 0, i64 2]) (OpQ.fn (need22_v D uo po uc pc 0 31 hl1 hl2) rfl rfl SubRC.sub) (by rw [needB, ansD_n (chkD_2 hg (okF2 (by decide))) (by decide)]; try rfl)) ?_
          refine o_q _ rfl rfl rfl (v_move rfl rfl) ?_
          refine o_q _ rfl rfl rfl (v_extract rfl rfl rfl) ?_
          refine o_q _ rfl rfl rfl (v_extract rfl rfl rfl) ?_
          refine o_q _ rfl rfl rfl (v_assign rfl rfl) ?_
          refine o_q _ rfl rfl rfl (v_assign rfl rfl) ?_
          refine o_nil ?_
          repeat (first | with_reducible refine r_then ?_ | with_reducible refine r_in_normal ?_ | with_reducible refine r_sc_normal ?_)
          refine r_seq ?_
          refine r_region ?_
          first | refine o_q _ rfl rfl rfl (v_ldW rfl Tryd.underlying25 rfl inf25 rfl rfl) ?_ | refine o_q _ rfl rfl rfl (v_lfW rfl Tryd.underlying25 rfl inf25 rfl rfl) ?_ | refine o_q _ rfl rfl rfl (v_lfN rfl Tryd.underlying25 rfl inf25 rfl rfl rfl) ?_ | refine o_q _ rfl rfl rfl (v_ldN rfl Tryd.underlying25 rfl inf25 rfl rfl rfl) ?_ | refine o_q _ rfl rfl rfl (v_loadEN rfl Tryd.underlying25 rfl inf25 rfl (by omega) rfl rfl rfl) ?_
          refine o_q _ rfl rfl rfl (v_cast (v := .tuple #[vS ⟨0, 0⟩, i64 2]) (OpQ.fn (sum24_v D uo po uc pc (-1) hl1 hl2) rfl rfl SubRC.sub) (by rw [sumB, ansD_n (chkD_2 hg (by decide)) (by decide)]; try rfl)) ?_
          refine o_q _ rfl rfl rfl (v_move rfl rfl) ?_
          refine o_q _ rfl rfl rfl (v_extract rfl rfl rfl) ?_
          refine o_q _ rfl rfl rfl (v_extract rfl rfl rfl) ?_
          refine o_alloc rfl inf29 rfl rfl rfl rfl rfl (fun b18 => ?_)
          refine o_st rfl inf29 rfl rfl rfl rfl rfl rfl rfl rfl ?_
          refine o_q _ rfl rfl rfl (v_assign rfl rfl) ?_
          refine o_nil ?_
          repeat (first | with_reducible refine r_then ?_ | with_reducible refine r_in_normal ?_ | with_reducible refine r_sc_normal ?_)
          refine r_seq ?_
          refine r_region ?_
          first | refine o_q _ rfl rfl rfl (v_ldW rfl Tryd.underlying25 rfl inf25 rfl rfl) ?_ | refine o_q _ rfl rfl rfl (v_lfW rfl Tryd.underlying25 rfl inf25 rfl rfl) ?_ | refine o_q _ rfl rfl rfl (v_lfN rfl Tryd.underlying25 rfl inf25 rfl rfl rfl) ?_ | refine o_q _ rfl rfl rfl (v_ldN rfl Tryd.underlying25 rfl inf25 rfl rfl rfl) ?_ | refine o_q _ rfl rfl rfl (v_loadEN rfl Tryd.underlying25 rfl inf25 rfl (by omega) rfl rfl rfl) ?_
          refine o_q _ rfl rfl rfl (v_cast (v := .tuple #[i64 0, i64 0, i64 2]) (OpQ.fn (most26_g D uo po uc pc 0 5001 hl1 hl2 (fun _ _ h => absurd h (by decide))) rfl rfl SubRC.sub) (by rw [mostB, ansD_n (chkD_2 hg (by decide)) (by decide)]; try rfl)) ?_
          refine o_q _ rfl rfl rfl (v_move rfl rfl) ?_
          refine o_q _ rfl rfl rfl (v_extract rfl rfl rfl) ?_
          refine o_q _ rfl rfl rfl (v_extract rfl rfl rfl) ?_
          refine o_q _ rfl rfl rfl (v_extract rfl rfl rfl) ?_
          refine o_q _ rfl rfl rfl (v_assign rfl rfl) ?_
          refine o_q _ rfl rfl rfl (v_assign rfl rfl) ?_
          refine o_q _ rfl rfl rfl (v_assign rfl rfl) ?_
          refine o_nil ?_
          repeat (first | with_reducible refine r_then ?_ | with_reducible refine r_in_normal ?_ | with_reducible refine r_sc_normal ?_)
          refine r_seq ?_
          refine r_seq ?_
          refine r_region ?_
          refine o_q _ rfl rfl rfl (v_move rfl rfl) ?_
          first | refine o_q _ rfl rfl rfl (v_true (v_neq rfl rfl rfl) (by omega)) ?_ | refine o_q _ rfl rfl rfl (v_false (v_neq rfl rfl rfl) (by omega)) ?_ | refine o_test rfl rfl rfl (v_neq rfl rfl rfl) (fun h113 => ?_) (fun h113 => ?_)
          all_goals
            refine o_q _ rfl rfl rfl (v_move rfl rfl) ?_
            first | refine o_gn rfl rfl rfl rfl ?_ | refine o_g _ rfl rfl rfl rfl (v_move rfl rfl) ?_
            first | refine o_gn rfl rfl rfl rfl ?_ | refine o_g _ rfl rfl rfl rfl (v_move rfl rfl) ?_
            first | refine o_gn rfl rfl rfl rfl ?_ | refine o_g _ rfl rfl rfl rfl (v_true (v_neq rfl rfl rfl) (by omega)) ?_ | refine o_g _ rfl rfl rfl rfl (v_false (v_neq rfl rfl rfl) (by omega)) ?_ | refine o_gtest rfl rfl rfl rfl (v_neq rfl rfl rfl) (fun h117 => ?_) (fun h117 => ?_)
            all_goals
              first | refine o_q _ rfl rfl rfl (v_pick_t rfl rfl rfl) ?_ | refine o_q _ rfl rfl rfl (v_pick_f rfl rfl rfl) ?_
              refine o_q _ rfl rfl rfl (v_move rfl rfl) ?_
              first | refine o_gn rfl rfl rfl rfl ?_ | refine o_g _ rfl rfl rfl rfl (v_move rfl rfl) ?_
              first | refine o_gn rfl rfl rfl rfl ?_ | refine o_g _ rfl rfl rfl rfl (v_move rfl rfl) ?_
              first | refine o_gn rfl rfl rfl rfl ?_ | refine o_g _ rfl rfl rfl rfl (v_true (v_neq rfl rfl rfl) (by omega)) ?_ | refine o_g _ rfl rfl rfl rfl (v_false (v_neq rfl rfl rfl) (by omega)) ?_ | refine o_gtest rfl rfl rfl rfl (v_neq rfl rfl rfl) (fun h122 => ?_) (fun h122 => ?_)
              all_goals
                first | refine o_q _ rfl rfl rfl (v_pick_t rfl rfl rfl) ?_ | refine o_q _ rfl rfl rfl (v_pick_f rfl rfl rfl) ?_
                refine o_q _ rfl rfl rfl (v_move rfl rfl) ?_
                first | refine o_gn rfl rfl rfl rfl ?_ | refine o_g _ rfl rfl rfl rfl (v_move rfl rfl) ?_
                first | refine o_gn rfl rfl rfl rfl ?_ | refine o_g _ rfl rfl rfl rfl (v_move rfl rfl) ?_
                first | refine o_gn rfl rfl rfl rfl ?_ | refine o_g _ rfl rfl rfl rfl (v_true (v_neq rfl rfl rfl) (by omega)) ?_ | refine o_g _ rfl rfl rfl rfl (v_false (v_neq rfl rfl rfl) (by omega)) ?_ | refine o_gtest rfl rfl rfl rfl (v_neq rfl rfl rfl) (fun h127 => ?_) (fun h127 => ?_)
                all_goals
                  first | refine o_q _ rfl rfl rfl (v_pick_t rfl rfl rfl) ?_ | refine o_q _ rfl rfl rfl (v_pick_f rfl rfl rfl) ?_
                  refine o_q _ rfl rfl rfl (v_move rfl rfl) ?_
                  first | refine o_gn rfl rfl rfl rfl ?_ | refine o_g _ rfl rfl rfl rfl (v_move rfl rfl) ?_
                  first | refine o_gn rfl rfl rfl rfl ?_ | refine o_g _ rfl rfl rfl rfl (v_move rfl rfl) ?_
                  first | refine o_gn rfl rfl rfl rfl ?_ | refine o_g _ rfl rfl rfl rfl (v_true (v_neq rfl rfl rfl) (by omega)) ?_ | refine o_g _ rfl rfl rfl rfl (v_false (v_neq rfl rfl rfl) (by omega)) ?_ | refine o_gtest rfl rfl rfl rfl (v_neq rfl rfl rfl) (fun h132 => ?_) (fun h132 => ?_)
                  all_goals
                    first | refine o_q _ rfl rfl rfl (v_pick_t rfl rfl rfl) ?_ | refine o_q _ rfl rfl rfl (v_pick_f rfl rfl rfl) ?_
                    refine o_nil ?_
                    repeat (first | with_reducible refine r_then ?_ | with_reducible refine r_in_normal ?_ | with_reducible refine r_sc_normal ?_)
                    first | refine r_condd rfl (fun hc133 => ?_) (fun hc133 => ?_) | refine r_cond rfl (fun hc133 => ?_) (fun hc133 => ?_)
                    ·
                      first
                      | (exfalso; revert hc133; decide)
                      | (exfalso; omega)
                      | skip
                        refine r_seq ?_
                        refine r_region ?_
                        refine o_q _ rfl rfl rfl (v_assign rfl rfl) ?_
                        refine o_nil ?_
                        repeat (first | with_reducible refine r_then ?_ | with_reducible refine r_in_normal ?_ | with_reducible refine r_sc_normal ?_)
                        refine r_ret ?_
                        repeat (first | with_reducible refine r_then_ret ?_ | with_reducible refine r_in_ret ?_ | with_reducible refine r_sc_ret ?_)
                        exact r_retv2 (Rd.tmp rfl rfl) rfl SelMC.sel SubRC.sub
                    ·
                      first
                      | (exfalso; revert hc133; decide)
                      | (exfalso; omega)
                      | skip
                        refine r_skip ?_
                        repeat (first | with_reducible refine r_then ?_ | with_reducible refine r_in_normal ?_ | with_reducible refine r_sc_normal ?_)
                        refine r_seq ?_
                        refine r_region ?_
                        refine o_q _ rfl rfl rfl (v_move rfl rfl) ?_
                        refine o_q _ rfl rfl rfl (v_conv rfl Tryd.underlying5 Tryd.underlying3 rfl (IntWalk.i64_in _ (by omega))) ?_
                        first | refine o_q _ rfl rfl rfl (v_fieldAddr rfl Tryd.underlying25 inf3 rfl rfl rfl rfl) ?_ | refine o_q _ rfl rfl rfl (v_fieldAddrE rfl Tryd.underlying25 inf3 rfl rfl rfl rfl) ?_
                        first | refine o_q _ rfl rfl rfl (v_ld1 rfl Tryd.underlying3 rfl rfl rfl) ?_ | refine o_q _ rfl rfl rfl (v_lf1 rfl Tryd.underlying3 rfl rfl rfl) ?_ | refine o_q _ rfl rfl rfl (v_loadE1 rfl Tryd.underlying3 rfl rfl (by omega) rfl rfl) ?_
                        refine o_q _ rfl rfl rfl (v_cast (v := i64 (wk : Nat)) (v_rem rfl rfl rfl (by omega)) (tmodE hwk (by omega))) ?_
                        refine o_q _ rfl rfl rfl (v_move rfl rfl) ?_
                        refine o_q _ rfl rfl rfl (v_conv rfl Tryd.underlying5 Tryd.underlying3 rfl (IntWalk.i64_in _ (by omega))) ?_
                        refine o_q _ rfl rfl rfl (v_cast (v := i64 (dk : Nat)) (v_rem rfl rfl rfl (by omega)) (tmodE hdk (by omega))) ?_
                        refine o_q _ rfl rfl rfl (v_assign rfl rfl) ?_
                        refine o_q _ rfl rfl rfl (v_assign rfl rfl) ?_
                        refine o_nil ?_
                        repeat (first | with_reducible refine r_then ?_ | with_reducible refine r_in_normal ?_ | with_reducible refine r_sc_normal ?_)
                        refine r_seq ?_
                        refine r_par' 10 mixed (by kernel_rfl) (by rfl) ?_
                        first | refine p_q _ rfl rfl rfl (fun _ _ => v_ldW rfl Tryd.underlying25 rfl inf25 rfl rfl) ?_ | refine p_q _ rfl rfl rfl (fun _ _ => v_lfW rfl Tryd.underlying25 rfl inf25 rfl rfl) ?_ | refine p_q _ rfl rfl rfl (fun _ _ => v_lfN rfl Tryd.underlying25 rfl inf25 rfl rfl rfl) ?_ | refine p_q _ rfl rfl rfl (fun _ _ => v_ldN rfl Tryd.underlying25 rfl inf25 rfl rfl rfl) ?_ | refine p_q _ rfl rfl rfl (fun _ _ => v_loadEN rfl Tryd.underlying25 rfl inf25 rfl (by omega) rfl rfl rfl) ?_
                        first | refine p_q _ rfl rfl rfl (fun _ _ => v_ldW rfl Tryd.underlying25 rfl inf25 rfl rfl) ?_ | refine p_q _ rfl rfl rfl (fun _ _ => v_lfW rfl Tryd.underlying25 rfl inf25 rfl rfl) ?_ | refine p_q _ rfl rfl rfl (fun _ _ => v_lfN rfl Tryd.underlying25 rfl inf25 rfl rfl rfl) ?_ | refine p_q _ rfl rfl rfl (fun _ _ => v_ldN rfl Tryd.underlying25 rfl inf25 rfl rfl rfl) ?_ | refine p_q _ rfl rfl rfl (fun _ _ => v_loadEN rfl Tryd.underlying25 rfl inf25 rfl (by omega) rfl rfl rfl) ?_
                        refine p_fn (good36_r D uo po uc pc hl1 hl2) rfl rfl rfl rfl rfl SubRC.sub ?_
                        refine p_acc (by simp only [List.nil_append, List.cons_append]; rfl) ?_
                        refine p_depF (isDv (endD D 0)) (facDv (endD D 0)) 2 rfl rfl rfl (by kernel_rfl) rfl rfl rfl (fun u hu => by obtain ⟨ao, ac, qo, qc, rfl⟩ := hu; exact CallR.mk (exact35_r D uo po uc pc (amT D 0) (paT D 0) ao qo ac qc hl1 hl2 (amT_len D 0) (paT_len D 0)) rfl rfl (by show SubR ([rowD ao 1 encI (amT D 0), rowD qo 1 encI (paT D 0)] ++ _) _; exact SubRC.sub)) ?_
                        first | refine p_q _ rfl rfl rfl (fun _ _ => v_ldW rfl Tryd.underlying25 rfl inf25 rfl rfl) ?_ | refine p_q _ rfl rfl rfl (fun _ _ => v_lfW rfl Tryd.underlying25 rfl inf25 rfl rfl) ?_ | refine p_q _ rfl rfl rfl (fun _ _ => v_lfN rfl Tryd.underlying25 rfl inf25 rfl rfl rfl) ?_ | refine p_q _ rfl rfl rfl (fun _ _ => v_ldN rfl Tryd.underlying25 rfl inf25 rfl rfl rfl) ?_ | refine p_q _ rfl rfl rfl (fun _ _ => v_loadEN rfl Tryd.underlying25 rfl inf25 rfl (by omega) rfl rfl rfl) ?_
                        first | refine p_q _ rfl rfl rfl (fun _ _ => v_ldW rfl Tryd.underlying25 rfl inf25 rfl rfl) ?_ | refine p_q _ rfl rfl rfl (fun _ _ => v_lfW rfl Tryd.underlying25 rfl inf25 rfl rfl) ?_ | refine p_q _ rfl rfl rfl (fun _ _ => v_lfN rfl Tryd.underlying25 rfl inf25 rfl rfl rfl) ?_ | refine p_q _ rfl rfl rfl (fun _ _ => v_ldN rfl Tryd.underlying25 rfl inf25 rfl rfl rfl) ?_ | refine p_q _ rfl rfl rfl (fun _ _ => v_loadEN rfl Tryd.underlying25 rfl inf25 rfl (by omega) rfl rfl rfl) ?_
                        refine p_fn (bad37_r D uo po uc pc hl1 hl2) rfl rfl rfl rfl rfl SubRC.sub ?_
                        refine p_acc (by simp only [List.nil_append, List.cons_append]; rfl) ?_
                        refine p_depF (isDv (endD D 1)) (facDv (endD D 1)) 6 rfl rfl rfl (by kernel_rfl) rfl rfl rfl (fun u hu => by obtain ⟨ao, ac, qo, qc, rfl⟩ := hu; exact CallR.mk (exact35_r D uo po uc pc (amT D 1) (paT D 1) ao qo ac qc hl1 hl2 (amT_len D 1) (paT_len D 1)) rfl rfl (by show SubR ([rowD ao 1 encI (amT D 1), rowD qo 1 encI (paT D 1)] ++ _) _; exact SubRC.sub)) ?_
                        refine p_alloc rfl inf25 rfl rfl rfl rfl rfl ?_
                        refine p_alloc rfl inf25 rfl rfl rfl rfl rfl ?_
                        refine p_nil2 (by simp only [List.nil_append, List.cons_append]; rfl) rfl ?_
                        refine f_q rfl ?_
                        refine f_q rfl ?_
                        refine f_gf rfl (fun v144 hv144 => ?_)
                        refine f_gf rfl (fun v145 hv145 => ?_)
                        refine f_q rfl ?_
                        refine f_q rfl ?_
                        refine f_gf rfl (fun v148 hv148 => ?_)
                        refine f_gf rfl (fun v149 hv149 => ?_)
                        refine f_alloc rfl (fun b25 => ?_)
                        refine f_alloc rfl (fun b26 => ?_)
                        refine f_nil ?_
                        obtain ⟨e0, f0, c0, k0, rfl⟩ := hv145
                        refine Imp.derive (ψ := rowD e0 5 encD (endD D 0).dues) ?_ (fun V hV => hV _ (by simp [facDv, adrAt, adr]))
                        refine Imp.derive (ψ := rowD f0 4 encP (endD D 0).paid) ?_ (fun V hV => hV _ (by simp [facDv, adrAt, adr]))
                        obtain ⟨e1, f1, c1, k1, rfl⟩ := hv149
                        refine Imp.derive (ψ := rowD e1 5 encD (endD D 1).dues) ?_ (fun V hV => hV _ (by simp [facDv, adrAt, adr]))
                        refine Imp.derive (ψ := rowD f1 4 encP (endD D 1).paid) ?_ (fun V hV => hV _ (by simp [facDv, adrAt, adr]))
                        refine o_st rfl inf25 rfl rfl rfl rfl rfl rfl rfl rfl ?_
                        refine o_st rfl inf25 rfl rfl rfl rfl rfl rfl rfl rfl ?_
                        refine o_nil ?_
                        repeat (first | with_reducible refine r_then ?_ | with_reducible refine r_in_normal ?_ | with_reducible refine r_sc_normal ?_)
                        refine r_seq ?_
                        refine Imp.box_to b25 (cellsD (endD D 0) e0 f0 c0 k0) rfl ?_
                        refine Imp.box_to b26 (cellsD (endD D 1) e1 f1 c1 k1) rfl ?_
                        refine r_region ?_
                        first | refine o_q _ rfl rfl rfl (v_ldW rfl Tryd.underlying25 rfl inf25 rfl rfl) ?_ | refine o_q _ rfl rfl rfl (v_lfW rfl Tryd.underlying25 rfl inf25 rfl rfl) ?_ | refine o_q _ rfl rfl rfl (v_lfN rfl Tryd.underlying25 rfl inf25 rfl rfl rfl) ?_ | refine o_q _ rfl rfl rfl (v_ldN rfl Tryd.underlying25 rfl inf25 rfl rfl rfl) ?_ | refine o_q _ rfl rfl rfl (v_loadEN rfl Tryd.underlying25 rfl inf25 rfl (by omega) rfl rfl rfl) ?_
                        refine o_q _ rfl rfl rfl (v_move rfl rfl) ?_
                        refine o_q _ rfl rfl rfl (v_move rfl rfl) ?_
                        refine o_q _ rfl rfl rfl (v_cast (v := .tuple #[vS (leftT D (wk : Int) dk), i64 0]) (OpQ.fn (left14_v D uo po uc pc (wk : Int) (dk : Int) hl1 hl2) rfl rfl SubRC.sub) (by rw [leftB_ok hg (w := wk) (d := dk) (by omega) (by omega)]; try rfl)) ?_
                        refine o_q _ rfl rfl rfl (v_move rfl rfl) ?_
                        refine o_q _ rfl rfl rfl (v_extract rfl rfl rfl) ?_
                        refine o_q _ rfl rfl rfl (v_extract rfl rfl rfl) ?_
                        refine o_alloc rfl inf29 rfl rfl rfl rfl rfl (fun b27 => ?_)
                        refine o_st rfl inf29 rfl rfl rfl rfl rfl rfl rfl rfl ?_
                        refine o_q _ rfl rfl rfl (v_assign rfl rfl) ?_
                        refine o_nil ?_
                        repeat (first | with_reducible refine r_then ?_ | with_reducible refine r_in_normal ?_ | with_reducible refine r_sc_normal ?_)
                        refine r_seq ?_
                        refine r_region ?_
                        first | refine o_q _ rfl rfl rfl (v_ldW rfl Tryd.underlying25 rfl inf25 rfl rfl) ?_ | refine o_q _ rfl rfl rfl (v_lfW rfl Tryd.underlying25 rfl inf25 rfl rfl) ?_ | refine o_q _ rfl rfl rfl (v_lfN rfl Tryd.underlying25 rfl inf25 rfl rfl rfl) ?_ | refine o_q _ rfl rfl rfl (v_ldN rfl Tryd.underlying25 rfl inf25 rfl rfl rfl) ?_ | refine o_q _ rfl rfl rfl (v_loadEN rfl Tryd.underlying25 rfl inf25 rfl (by omega) rfl rfl rfl) ?_
                        refine o_q _ rfl rfl rfl (v_move rfl rfl) ?_
                        refine o_q _ rfl rfl rfl (v_move rfl rfl) ?_
                        refine o_q _ rfl rfl rfl (v_cast (v := .tuple #[vS (aheadT D (wk : Int) dk), i64 0]) (OpQ.fn (ahead16_v D uo po uc pc (wk : Int) (dk : Int) hl1 hl2) rfl rfl SubRC.sub) (by rw [aheadB_ok hg (w := wk) (d := dk) (by omega) (by omega)]; try rfl)) ?_
                        refine o_q _ rfl rfl rfl (v_move rfl rfl) ?_
                        refine o_q _ rfl rfl rfl (v_extract rfl rfl rfl) ?_
                        refine o_q _ rfl rfl rfl (v_extract rfl rfl rfl) ?_
                        refine o_alloc rfl inf29 rfl rfl rfl rfl rfl (fun b29 => ?_)
                        refine o_st rfl inf29 rfl rfl rfl rfl rfl rfl rfl rfl ?_
                        refine o_q _ rfl rfl rfl (v_assign rfl rfl) ?_
                        refine o_nil ?_
                        repeat (first | with_reducible refine r_then ?_ | with_reducible refine r_in_normal ?_ | with_reducible refine r_sc_normal ?_)
                        refine r_seq ?_
                        refine r_region ?_
                        first | refine o_q _ rfl rfl rfl (v_ldW rfl Tryd.underlying25 rfl inf25 rfl rfl) ?_ | refine o_q _ rfl rfl rfl (v_lfW rfl Tryd.underlying25 rfl inf25 rfl rfl) ?_ | refine o_q _ rfl rfl rfl (v_lfN rfl Tryd.underlying25 rfl inf25 rfl rfl rfl) ?_ | refine o_q _ rfl rfl rfl (v_ldN rfl Tryd.underlying25 rfl inf25 rfl rfl rfl) ?_ | refine o_q _ rfl rfl rfl (v_loadEN rfl Tryd.underlying25 rfl inf25 rfl (by omega) rfl rfl rfl) ?_
                        refine o_q _ rfl rfl rfl (v_move rfl rfl) ?_
                        refine o_q _ rfl rfl rfl (v_move rfl rfl) ?_
                        refine o_q _ rfl rfl rfl (v_cast (v := .tuple #[vS ⟨(leftT D (wk : Int) dk).lo, (leftT D (wk : Int) dk).lo⟩, i64 0]) (OpQ.fn (left14_v (endD D 0) e0 f0 c0 k0 (wk : Int) (dk : Int) (by rw [(exact_lens D _ _).1]; exact hl1) (by rw [(exact_lens D _ _).2.1]; exact hl2)) rfl rfl SubRC.sub) (by rw [leftB_ok (end_good hg 0) (w := wk) (d := dk) hwp hdp]; exact congrArg (fun s => Value.tuple #[vS s, i64 0]) (end_left_lo D (wk : Int) dk))) ?_
                        refine o_q _ rfl rfl rfl (v_move rfl rfl) ?_
                        refine o_q _ rfl rfl rfl (v_extract rfl rfl rfl) ?_
                        refine o_q _ rfl rfl rfl (v_extract rfl rfl rfl) ?_
                        refine o_alloc rfl inf29 rfl rfl rfl rfl rfl (fun b31 => ?_)
                        refine o_st rfl inf29 rfl rfl rfl rfl rfl rfl rfl rfl ?_
                        refine o_q _ rfl rfl rfl (v_assign rfl rfl) ?_
                        refine o_nil ?_
                        repeat (first | with_reducible refine r_then ?_ | with_reducible refine r_in_normal ?_ | with_reducible refine r_sc_normal ?_)
                        refine r_seq ?_
                        refine r_region ?_
                        first | refine o_q _ rfl rfl rfl (v_ldW rfl Tryd.underlying25 rfl inf25 rfl rfl) ?_ | refine o_q _ rfl rfl rfl (v_lfW rfl Tryd.underlying25 rfl inf25 rfl rfl) ?_ | refine o_q _ rfl rfl rfl (v_lfN rfl Tryd.underlying25 rfl inf25 rfl rfl rfl) ?_ | refine o_q _ rfl rfl rfl (v_ldN rfl Tryd.underlying25 rfl inf25 rfl rfl rfl) ?_ | refine o_q _ rfl rfl rfl (v_loadEN rfl Tryd.underlying25 rfl inf25 rfl (by omega) rfl rfl rfl) ?_
                        refine o_q _ rfl rfl rfl (v_move rfl rfl) ?_
                        refine o_q _ rfl rfl rfl (v_move rfl rfl) ?_
                        refine o_q _ rfl rfl rfl (v_cast (v := .tuple #[vS ⟨(leftT D (wk : Int) dk).hi, (leftT D (wk : Int) dk).hi⟩, i64 0]) (OpQ.fn (left14_v (endD D 1) e1 f1 c1 k1 (wk : Int) (dk : Int) (by rw [(exact_lens D _ _).1]; exact hl1) (by rw [(exact_lens D _ _).2.1]; exact hl2)) rfl rfl SubRC.sub) (by rw [leftB_ok (end_good hg 1) (w := wk) (d := dk) hwp hdp]; exact congrArg (fun s => Value.tuple #[vS s, i64 0]) (end_left_hi D (wk : Int) dk))) ?_
                        refine o_q _ rfl rfl rfl (v_move rfl rfl) ?_
                        refine o_q _ rfl rfl rfl (v_extract rfl rfl rfl) ?_
                        refine o_q _ rfl rfl rfl (v_extract rfl rfl rfl) ?_
                        refine o_alloc rfl inf29 rfl rfl rfl rfl rfl (fun b33 => ?_)
                        refine o_st rfl inf29 rfl rfl rfl rfl rfl rfl rfl rfl ?_
                        refine o_q _ rfl rfl rfl (v_assign rfl rfl) ?_
                        refine o_nil ?_
                        repeat (first | with_reducible refine r_then ?_ | with_reducible refine r_in_normal ?_ | with_reducible refine r_sc_normal ?_)
                        refine r_seq ?_
                        refine r_region ?_
                        first | refine o_q _ rfl rfl rfl (v_ldW rfl Tryd.underlying25 rfl inf25 rfl rfl) ?_ | refine o_q _ rfl rfl rfl (v_lfW rfl Tryd.underlying25 rfl inf25 rfl rfl) ?_ | refine o_q _ rfl rfl rfl (v_lfN rfl Tryd.underlying25 rfl inf25 rfl rfl rfl) ?_ | refine o_q _ rfl rfl rfl (v_ldN rfl Tryd.underlying25 rfl inf25 rfl rfl rfl) ?_ | refine o_q _ rfl rfl rfl (v_loadEN rfl Tryd.underlying25 rfl inf25 rfl (by omega) rfl rfl rfl) ?_
                        refine o_q _ rfl rfl rfl (v_move rfl rfl) ?_
                        refine o_q _ rfl rfl rfl (v_move rfl rfl) ?_
                        refine o_q _ rfl rfl rfl (v_cast (v := .tuple #[vS ⟨(aheadT D (wk : Int) dk).hi, (aheadT D (wk : Int) dk).hi⟩, i64 0]) (OpQ.fn (ahead16_v (endD D 0) e0 f0 c0 k0 (wk : Int) (dk : Int) (by rw [(exact_lens D _ _).1]; exact hl1) (by rw [(exact_lens D _ _).2.1]; exact hl2)) rfl rfl SubRC.sub) (by rw [aheadB_ok (end_good hg 0) (w := wk) (d := dk) hwp hdp]; exact congrArg (fun s => Value.tuple #[vS s, i64 0]) (end_ahead_hi D (wk : Int) dk))) ?_
                        refine o_q _ rfl rfl rfl (v_move rfl rfl) ?_
                        refine o_q _ rfl rfl rfl (v_extract rfl rfl rfl) ?_
                        refine o_q _ rfl rfl rfl (v_extract rfl rfl rfl) ?_
                        refine o_alloc rfl inf29 rfl rfl rfl rfl rfl (fun b35 => ?_)
                        refine o_st rfl inf29 rfl rfl rfl rfl rfl rfl rfl rfl ?_
                        refine o_q _ rfl rfl rfl (v_assign rfl rfl) ?_
                        refine o_nil ?_
                        repeat (first | with_reducible refine r_then ?_ | with_reducible refine r_in_normal ?_ | with_reducible refine r_sc_normal ?_)
                        refine r_seq ?_
                        refine r_region ?_
                        first | refine o_q _ rfl rfl rfl (v_ldW rfl Tryd.underlying25 rfl inf25 rfl rfl) ?_ | refine o_q _ rfl rfl rfl (v_lfW rfl Tryd.underlying25 rfl inf25 rfl rfl) ?_ | refine o_q _ rfl rfl rfl (v_lfN rfl Tryd.underlying25 rfl inf25 rfl rfl rfl) ?_ | refine o_q _ rfl rfl rfl (v_ldN rfl Tryd.underlying25 rfl inf25 rfl rfl rfl) ?_ | refine o_q _ rfl rfl rfl (v_loadEN rfl Tryd.underlying25 rfl inf25 rfl (by omega) rfl rfl rfl) ?_
                        refine o_q _ rfl rfl rfl (v_move rfl rfl) ?_
                        refine o_q _ rfl rfl rfl (v_move rfl rfl) ?_
                        refine o_q _ rfl rfl rfl (v_cast (v := .tuple #[vS ⟨(aheadT D (wk : Int) dk).lo, (aheadT D (wk : Int) dk).lo⟩, i64 0]) (OpQ.fn (ahead16_v (endD D 1) e1 f1 c1 k1 (wk : Int) (dk : Int) (by rw [(exact_lens D _ _).1]; exact hl1) (by rw [(exact_lens D _ _).2.1]; exact hl2)) rfl rfl SubRC.sub) (by rw [aheadB_ok (end_good hg 1) (w := wk) (d := dk) hwp hdp]; exact congrArg (fun s => Value.tuple #[vS s, i64 0]) (end_ahead_lo D (wk : Int) dk))) ?_
                        refine o_q _ rfl rfl rfl (v_move rfl rfl) ?_
                        refine o_q _ rfl rfl rfl (v_extract rfl rfl rfl) ?_
                        refine o_q _ rfl rfl rfl (v_extract rfl rfl rfl) ?_
                        refine o_alloc rfl inf29 rfl rfl rfl rfl rfl (fun b37 => ?_)
                        refine o_st rfl inf29 rfl rfl rfl rfl rfl rfl rfl rfl ?_
                        refine o_q _ rfl rfl rfl (v_assign rfl rfl) ?_
                        refine o_nil ?_
                        repeat (first | with_reducible refine r_then ?_ | with_reducible refine r_in_normal ?_ | with_reducible refine r_sc_normal ?_)
                        refine r_seq ?_
                        refine r_region ?_
                        first | refine o_q _ rfl rfl rfl (v_ldW rfl Tryd.underlying25 rfl inf25 rfl rfl) ?_ | refine o_q _ rfl rfl rfl (v_lfW rfl Tryd.underlying25 rfl inf25 rfl rfl) ?_ | refine o_q _ rfl rfl rfl (v_lfN rfl Tryd.underlying25 rfl inf25 rfl rfl rfl) ?_ | refine o_q _ rfl rfl rfl (v_ldN rfl Tryd.underlying25 rfl inf25 rfl rfl rfl) ?_ | refine o_q _ rfl rfl rfl (v_loadEN rfl Tryd.underlying25 rfl inf25 rfl (by omega) rfl rfl rfl) ?_
                        refine o_q _ rfl rfl rfl (v_move rfl rfl) ?_
                        refine o_q _ rfl rfl rfl (v_move rfl rfl) ?_
                        refine o_q _ rfl rfl rfl (v_cast (v := .tuple #[i64 (gradeS (leftT D (wk : Int) dk)), i64 0]) (OpQ.fn (setl18_v D uo po uc pc (wk : Int) (dk : Int) hl1 hl2) rfl rfl SubRC.sub) (by rw [setlB_ok hg (w := wk) (d := dk) (by omega) (by omega)]; try rfl)) ?_
                        refine o_q _ rfl rfl rfl (v_move rfl rfl) ?_
                        refine o_q _ rfl rfl rfl (v_extract rfl rfl rfl) ?_
                        refine o_q _ rfl rfl rfl (v_extract rfl rfl rfl) ?_
                        refine o_q _ rfl rfl rfl (v_assign rfl rfl) ?_
                        refine o_q _ rfl rfl rfl (v_assign rfl rfl) ?_
                        refine o_nil ?_
                        repeat (first | with_reducible refine r_then ?_ | with_reducible refine r_in_normal ?_ | with_reducible refine r_sc_normal ?_)
                        refine r_seq ?_
                        refine r_region ?_
                        first | refine o_q _ rfl rfl rfl (v_ldW rfl Tryd.underlying25 rfl inf25 rfl rfl) ?_ | refine o_q _ rfl rfl rfl (v_lfW rfl Tryd.underlying25 rfl inf25 rfl rfl) ?_ | refine o_q _ rfl rfl rfl (v_lfN rfl Tryd.underlying25 rfl inf25 rfl rfl rfl) ?_ | refine o_q _ rfl rfl rfl (v_ldN rfl Tryd.underlying25 rfl inf25 rfl rfl rfl) ?_ | refine o_q _ rfl rfl rfl (v_loadEN rfl Tryd.underlying25 rfl inf25 rfl (by omega) rfl rfl rfl) ?_
                        refine o_q _ rfl rfl rfl (v_move rfl rfl) ?_
                        refine o_q _ rfl rfl rfl (v_move rfl rfl) ?_
                        refine o_q _ rfl rfl rfl (v_cast (v := .tuple #[i64 (setT (progA D 0 (wk : Int) (dk + 1)).1 : Nat), i64 (setT (progA D 1 (wk : Int) (dk + 1)).1 : Nat), i64 0]) (OpQ.fn (open20_v D uo po uc pc (wk : Int) (dk : Int) hl1 hl2) rfl rfl SubRC.sub) (by rw [openB_ok hg (w := wk) (d := dk) (by omega) (by omega)]; try rfl)) ?_
                        refine o_q _ rfl rfl rfl (v_move rfl rfl) ?_
                        refine o_q _ rfl rfl rfl (v_extract rfl rfl rfl) ?_
                        refine o_q _ rfl rfl rfl (v_extract rfl rfl rfl) ?_
                        refine o_q _ rfl rfl rfl (v_extract rfl rfl rfl) ?_
                        refine o_q _ rfl rfl rfl (v_assign rfl rfl) ?_
                        refine o_q _ rfl rfl rfl (v_assign rfl rfl) ?_
                        refine o_q _ rfl rfl rfl (v_assign rfl rfl) ?_
                        refine o_nil ?_
                        repeat (first | with_reducible refine r_then ?_ | with_reducible refine r_in_normal ?_ | with_reducible refine r_sc_normal ?_)
                        refine r_seq ?_
                        refine r_seq ?_
                        refine r_region ?_
                        refine o_q _ rfl rfl rfl (v_move rfl rfl) ?_
                        first | refine o_q _ rfl rfl rfl (v_true (v_neq rfl rfl rfl) (by omega)) ?_ | refine o_q _ rfl rfl rfl (v_false (v_neq rfl rfl rfl) (by omega)) ?_ | refine o_test rfl rfl rfl (v_neq rfl rfl rfl) (fun h208 => ?_) (fun h208 => ?_)
                        all_goals
                          refine o_q _ rfl rfl rfl (v_move rfl rfl) ?_
                          first | refine o_gn rfl rfl rfl rfl ?_ | refine o_g _ rfl rfl rfl rfl (v_move rfl rfl) ?_
                          first | refine o_gn rfl rfl rfl rfl ?_ | refine o_g _ rfl rfl rfl rfl (v_true (v_neq rfl rfl rfl) (by omega)) ?_ | refine o_g _ rfl rfl rfl rfl (v_false (v_neq rfl rfl rfl) (by omega)) ?_ | refine o_gtest rfl rfl rfl rfl (v_neq rfl rfl rfl) (fun h211 => ?_) (fun h211 => ?_)
                          all_goals
                            first | refine o_q _ rfl rfl rfl (v_pick_t rfl rfl rfl) ?_ | refine o_q _ rfl rfl rfl (v_pick_f rfl rfl rfl) ?_
                            refine o_q _ rfl rfl rfl (v_move rfl rfl) ?_
                            first | refine o_gn rfl rfl rfl rfl ?_ | refine o_g _ rfl rfl rfl rfl (v_move rfl rfl) ?_
                            first | refine o_gn rfl rfl rfl rfl ?_ | refine o_g _ rfl rfl rfl rfl (v_true (v_neq rfl rfl rfl) (by omega)) ?_ | refine o_g _ rfl rfl rfl rfl (v_false (v_neq rfl rfl rfl) (by omega)) ?_ | refine o_gtest rfl rfl rfl rfl (v_neq rfl rfl rfl) (fun h215 => ?_) (fun h215 => ?_)
                            all_goals
                              first | refine o_q _ rfl rfl rfl (v_pick_t rfl rfl rfl) ?_ | refine o_q _ rfl rfl rfl (v_pick_f rfl rfl rfl) ?_
                              refine o_q _ rfl rfl rfl (v_move rfl rfl) ?_
                              first | refine o_gn rfl rfl rfl rfl ?_ | refine o_g _ rfl rfl rfl rfl (v_move rfl rfl) ?_
                              first | refine o_gn rfl rfl rfl rfl ?_ | refine o_g _ rfl rfl rfl rfl (v_true (v_neq rfl rfl rfl) (by omega)) ?_ | refine o_g _ rfl rfl rfl rfl (v_false (v_neq rfl rfl rfl) (by omega)) ?_ | refine o_gtest rfl rfl rfl rfl (v_neq rfl rfl rfl) (fun h219 => ?_) (fun h219 => ?_)
                              all_goals
                                first | refine o_q _ rfl rfl rfl (v_pick_t rfl rfl rfl) ?_ | refine o_q _ rfl rfl rfl (v_pick_f rfl rfl rfl) ?_
                                refine o_q _ rfl rfl rfl (v_move rfl rfl) ?_
                                first | refine o_gn rfl rfl rfl rfl ?_ | refine o_g _ rfl rfl rfl rfl (v_move rfl rfl) ?_
                                first | refine o_gn rfl rfl rfl rfl ?_ | refine o_g _ rfl rfl rfl rfl (v_true (v_neq rfl rfl rfl) (by omega)) ?_ | refine o_g _ rfl rfl rfl rfl (v_false (v_neq rfl rfl rfl) (by omega)) ?_ | refine o_gtest rfl rfl rfl rfl (v_neq rfl rfl rfl) (fun h223 => ?_) (fun h223 => ?_)
                                all_goals
                                  first | refine o_q _ rfl rfl rfl (v_pick_t rfl rfl rfl) ?_ | refine o_q _ rfl rfl rfl (v_pick_f rfl rfl rfl) ?_
                                  refine o_q _ rfl rfl rfl (v_move rfl rfl) ?_
                                  first | refine o_gn rfl rfl rfl rfl ?_ | refine o_g _ rfl rfl rfl rfl (v_move rfl rfl) ?_
                                  first | refine o_gn rfl rfl rfl rfl ?_ | refine o_g _ rfl rfl rfl rfl (v_true (v_neq rfl rfl rfl) (by omega)) ?_ | refine o_g _ rfl rfl rfl rfl (v_false (v_neq rfl rfl rfl) (by omega)) ?_ | refine o_gtest rfl rfl rfl rfl (v_neq rfl rfl rfl) (fun h227 => ?_) (fun h227 => ?_)
                                  all_goals
                                    first | refine o_q _ rfl rfl rfl (v_pick_t rfl rfl rfl) ?_ | refine o_q _ rfl rfl rfl (v_pick_f rfl rfl rfl) ?_
                                    refine o_q _ rfl rfl rfl (v_move rfl rfl) ?_
                                    first | refine o_gn rfl rfl rfl rfl ?_ | refine o_g _ rfl rfl rfl rfl (v_move rfl rfl) ?_
                                    first | refine o_gn rfl rfl rfl rfl ?_ | refine o_g _ rfl rfl rfl rfl (v_true (v_neq rfl rfl rfl) (by omega)) ?_ | refine o_g _ rfl rfl rfl rfl (v_false (v_neq rfl rfl rfl) (by omega)) ?_ | refine o_gtest rfl rfl rfl rfl (v_neq rfl rfl rfl) (fun h231 => ?_) (fun h231 => ?_)
                                    all_goals
                                      first | refine o_q _ rfl rfl rfl (v_pick_t rfl rfl rfl) ?_ | refine o_q _ rfl rfl rfl (v_pick_f rfl rfl rfl) ?_
                                      refine o_q _ rfl rfl rfl (v_move rfl rfl) ?_
                                      first | refine o_gn rfl rfl rfl rfl ?_ | refine o_g _ rfl rfl rfl rfl (v_move rfl rfl) ?_
                                      first | refine o_gn rfl rfl rfl rfl ?_ | refine o_g _ rfl rfl rfl rfl (v_true (v_neq rfl rfl rfl) (by omega)) ?_ | refine o_g _ rfl rfl rfl rfl (v_false (v_neq rfl rfl rfl) (by omega)) ?_ | refine o_gtest rfl rfl rfl rfl (v_neq rfl rfl rfl) (fun h235 => ?_) (fun h235 => ?_)
                                      all_goals
                                        first | refine o_q _ rfl rfl rfl (v_pick_t rfl rfl rfl) ?_ | refine o_q _ rfl rfl rfl (v_pick_f rfl rfl rfl) ?_
                                        refine o_nil ?_
                                        repeat (first | with_reducible refine r_then ?_ | with_reducible refine r_in_normal ?_ | with_reducible refine r_sc_normal ?_)
                                        first | refine r_condd rfl (fun hc236 => ?_) (fun hc236 => ?_) | refine r_cond rfl (fun hc236 => ?_) (fun hc236 => ?_)
                                        ·
                                          first
                                          | (exfalso; revert hc236; decide)
                                          | (exfalso; omega)
                                          | skip
                                            refine r_seq ?_
                                            refine r_region ?_
                                            refine o_q _ rfl rfl rfl (v_assign rfl rfl) ?_
                                            refine o_nil ?_
                                            repeat (first | with_reducible refine r_then ?_ | with_reducible refine r_in_normal ?_ | with_reducible refine r_sc_normal ?_)
                                            refine r_ret ?_
                                            repeat (first | with_reducible refine r_then_ret ?_ | with_reducible refine r_in_ret ?_ | with_reducible refine r_sc_ret ?_)
                                            exact r_retv2 (Rd.tmp rfl rfl) rfl SelMC.sel SubRC.sub
                                        ·
                                          first
                                          | (exfalso; revert hc236; decide)
                                          | (exfalso; omega)
                                          | skip
                                            refine r_skip ?_
                                            repeat (first | with_reducible refine r_then ?_ | with_reducible refine r_in_normal ?_ | with_reducible refine r_sc_normal ?_)
                                            refine r_seq ?_
                                            refine r_seq ?_
                                            have ho1 := one_lo hg (wk : Int) dk
                                            have ho2 := one_hi hg (wk : Int) dk
                                            refine r_region_q mixed (by kernel_rfl) ?_
                                            first | refine q_q _ rfl rfl rfl (v_ldW rfl Tryd.underlying29 rfl inf29 rfl rfl) ?_ | refine q_q _ rfl rfl rfl (v_lfW rfl Tryd.underlying29 rfl inf29 rfl rfl) ?_ | refine q_q _ rfl rfl rfl (v_lfN rfl Tryd.underlying29 rfl inf29 rfl rfl rfl) ?_ | refine q_q _ rfl rfl rfl (v_ldN rfl Tryd.underlying29 rfl inf29 rfl rfl rfl) ?_ | refine q_q _ rfl rfl rfl (v_loadEN rfl Tryd.underlying29 rfl inf29 rfl (by omega) rfl rfl rfl) ?_
                                            first | refine q_q _ rfl rfl rfl (v_fieldAddr rfl Tryd.underlying29 inf3 rfl rfl rfl rfl) ?_ | refine q_q _ rfl rfl rfl (v_fieldAddrE rfl Tryd.underlying29 inf3 rfl rfl rfl rfl) ?_
                                            first | refine q_q _ rfl rfl rfl (v_ld1 rfl Tryd.underlying3 rfl rfl rfl) ?_ | refine q_q _ rfl rfl rfl (v_lf1 rfl Tryd.underlying3 rfl rfl rfl) ?_ | refine q_q _ rfl rfl rfl (v_loadE1 rfl Tryd.underlying3 rfl rfl (by omega) rfl rfl) ?_
                                            first | refine q_q _ rfl rfl rfl (v_fieldAddr rfl Tryd.underlying29 inf3 rfl rfl rfl rfl) ?_ | refine q_q _ rfl rfl rfl (v_fieldAddrE rfl Tryd.underlying29 inf3 rfl rfl rfl rfl) ?_
                                            first | refine q_q _ rfl rfl rfl (v_ld1 rfl Tryd.underlying3 rfl rfl rfl) ?_ | refine q_q _ rfl rfl rfl (v_lf1 rfl Tryd.underlying3 rfl rfl rfl) ?_ | refine q_q _ rfl rfl rfl (v_loadE1 rfl Tryd.underlying3 rfl rfl (by omega) rfl rfl) ?_
                                            refine q_q _ rfl rfl rfl (OpQ.fn (lspan_v _ _) rfl rfl SubRC.sub) ?_
                                            refine q_q _ rfl rfl rfl (v_cast (v := .bool false) (v_neP rfl rfl rfl guard29 (eq29 _ _ _ _)) (congrArg Value.bool (decide_eq_false (fun h => h rfl)))) ?_
                                            refine q_q _ rfl rfl rfl (v_move rfl rfl) ?_
                                            first | refine q_gn rfl rfl rfl rfl ?_ | refine q_g _ rfl rfl rfl rfl (v_ldW rfl Tryd.underlying29 rfl inf29 rfl rfl) ?_ | refine q_g _ rfl rfl rfl rfl (v_lfW rfl Tryd.underlying29 rfl inf29 rfl rfl) ?_ | refine q_g _ rfl rfl rfl rfl (v_lfN rfl Tryd.underlying29 rfl inf29 rfl rfl rfl) ?_ | refine q_g _ rfl rfl rfl rfl (v_ldN rfl Tryd.underlying29 rfl inf29 rfl rfl rfl) ?_ | refine q_g _ rfl rfl rfl rfl (v_loadEN rfl Tryd.underlying29 rfl inf29 rfl (by omega) rfl rfl rfl) ?_
                                            first | refine q_gn rfl rfl rfl rfl ?_ | refine q_g _ rfl rfl rfl rfl (v_fieldAddr rfl Tryd.underlying29 inf3 rfl rfl rfl rfl) ?_ | refine q_g _ rfl rfl rfl rfl (v_fieldAddrE rfl Tryd.underlying29 inf3 rfl rfl rfl rfl) ?_
                                            first | refine q_gn rfl rfl rfl rfl ?_ | refine q_g _ rfl rfl rfl rfl (v_ld1 rfl Tryd.underlying3 rfl rfl rfl) ?_ | refine q_g _ rfl rfl rfl rfl (v_lf1 rfl Tryd.underlying3 rfl rfl rfl) ?_ | refine q_g _ rfl rfl rfl rfl (v_loadE1 rfl Tryd.underlying3 rfl rfl (by omega) rfl rfl) ?_
                                            first | refine q_gn rfl rfl rfl rfl ?_ | refine q_g _ rfl rfl rfl rfl (v_fieldAddr rfl Tryd.underlying29 inf3 rfl rfl rfl rfl) ?_ | refine q_g _ rfl rfl rfl rfl (v_fieldAddrE rfl Tryd.underlying29 inf3 rfl rfl rfl rfl) ?_
                                            first | refine q_gn rfl rfl rfl rfl ?_ | refine q_g _ rfl rfl rfl rfl (v_ld1 rfl Tryd.underlying3 rfl rfl rfl) ?_ | refine q_g _ rfl rfl rfl rfl (v_lf1 rfl Tryd.underlying3 rfl rfl rfl) ?_ | refine q_g _ rfl rfl rfl rfl (v_loadE1 rfl Tryd.underlying3 rfl rfl (by omega) rfl rfl) ?_
                                            first | refine q_gn rfl rfl rfl rfl ?_ | refine q_g _ rfl rfl rfl rfl (OpQ.fn (lspan_v _ _) rfl rfl SubRC.sub) ?_
                                            first | refine q_gn rfl rfl rfl rfl ?_ | refine q_g _ rfl rfl rfl rfl (v_cast (v := .bool false) (v_neP rfl rfl rfl guard29 (eq29 _ _ _ _)) (congrArg Value.bool (decide_eq_false (fun h => h rfl)))) ?_
                                            first | refine q_q _ rfl rfl rfl (v_pick_t rfl rfl rfl) ?_ | refine q_q _ rfl rfl rfl (v_pick_f rfl rfl rfl) ?_
                                            refine q_q _ rfl rfl rfl (v_move rfl rfl) ?_
                                            first | refine q_gn rfl rfl rfl rfl ?_ | refine q_g _ rfl rfl rfl rfl (v_ldW rfl Tryd.underlying29 rfl inf29 rfl rfl) ?_ | refine q_g _ rfl rfl rfl rfl (v_lfW rfl Tryd.underlying29 rfl inf29 rfl rfl) ?_ | refine q_g _ rfl rfl rfl rfl (v_lfN rfl Tryd.underlying29 rfl inf29 rfl rfl rfl) ?_ | refine q_g _ rfl rfl rfl rfl (v_ldN rfl Tryd.underlying29 rfl inf29 rfl rfl rfl) ?_ | refine q_g _ rfl rfl rfl rfl (v_loadEN rfl Tryd.underlying29 rfl inf29 rfl (by omega) rfl rfl rfl) ?_
                                            first | refine q_gn rfl rfl rfl rfl ?_ | refine q_g _ rfl rfl rfl rfl (v_fieldAddr rfl Tryd.underlying29 inf3 rfl rfl rfl rfl) ?_ | refine q_g _ rfl rfl rfl rfl (v_fieldAddrE rfl Tryd.underlying29 inf3 rfl rfl rfl rfl) ?_
                                            first | refine q_gn rfl rfl rfl rfl ?_ | refine q_g _ rfl rfl rfl rfl (v_ld1 rfl Tryd.underlying3 rfl rfl rfl) ?_ | refine q_g _ rfl rfl rfl rfl (v_lf1 rfl Tryd.underlying3 rfl rfl rfl) ?_ | refine q_g _ rfl rfl rfl rfl (v_loadE1 rfl Tryd.underlying3 rfl rfl (by omega) rfl rfl) ?_
                                            first | refine q_gn rfl rfl rfl rfl ?_ | refine q_g _ rfl rfl rfl rfl (v_fieldAddr rfl Tryd.underlying29 inf3 rfl rfl rfl rfl) ?_ | refine q_g _ rfl rfl rfl rfl (v_fieldAddrE rfl Tryd.underlying29 inf3 rfl rfl rfl rfl) ?_
                                            first | refine q_gn rfl rfl rfl rfl ?_ | refine q_g _ rfl rfl rfl rfl (v_ld1 rfl Tryd.underlying3 rfl rfl rfl) ?_ | refine q_g _ rfl rfl rfl rfl (v_lf1 rfl Tryd.underlying3 rfl rfl rfl) ?_ | refine q_g _ rfl rfl rfl rfl (v_loadE1 rfl Tryd.underlying3 rfl rfl (by omega) rfl rfl) ?_
                                            first | refine q_gn rfl rfl rfl rfl ?_ | refine q_g _ rfl rfl rfl rfl (OpQ.fn (lspan_v _ _) rfl rfl SubRC.sub) ?_
                                            first | refine q_gn rfl rfl rfl rfl ?_ | refine q_g _ rfl rfl rfl rfl (v_cast (v := .bool false) (v_neP rfl rfl rfl guard29 (eq29 _ _ _ _)) (congrArg Value.bool (decide_eq_false (fun h => h rfl)))) ?_
                                            first | refine q_q _ rfl rfl rfl (v_pick_t rfl rfl rfl) ?_ | refine q_q _ rfl rfl rfl (v_pick_f rfl rfl rfl) ?_
                                            refine q_q _ rfl rfl rfl (v_move rfl rfl) ?_
                                            first | refine q_gn rfl rfl rfl rfl ?_ | refine q_g _ rfl rfl rfl rfl (v_ldW rfl Tryd.underlying29 rfl inf29 rfl rfl) ?_ | refine q_g _ rfl rfl rfl rfl (v_lfW rfl Tryd.underlying29 rfl inf29 rfl rfl) ?_ | refine q_g _ rfl rfl rfl rfl (v_lfN rfl Tryd.underlying29 rfl inf29 rfl rfl rfl) ?_ | refine q_g _ rfl rfl rfl rfl (v_ldN rfl Tryd.underlying29 rfl inf29 rfl rfl rfl) ?_ | refine q_g _ rfl rfl rfl rfl (v_loadEN rfl Tryd.underlying29 rfl inf29 rfl (by omega) rfl rfl rfl) ?_
                                            first | refine q_gn rfl rfl rfl rfl ?_ | refine q_g _ rfl rfl rfl rfl (v_fieldAddr rfl Tryd.underlying29 inf3 rfl rfl rfl rfl) ?_ | refine q_g _ rfl rfl rfl rfl (v_fieldAddrE rfl Tryd.underlying29 inf3 rfl rfl rfl rfl) ?_
                                            first | refine q_gn rfl rfl rfl rfl ?_ | refine q_g _ rfl rfl rfl rfl (v_ld1 rfl Tryd.underlying3 rfl rfl rfl) ?_ | refine q_g _ rfl rfl rfl rfl (v_lf1 rfl Tryd.underlying3 rfl rfl rfl) ?_ | refine q_g _ rfl rfl rfl rfl (v_loadE1 rfl Tryd.underlying3 rfl rfl (by omega) rfl rfl) ?_
                                            first | refine q_gn rfl rfl rfl rfl ?_ | refine q_g _ rfl rfl rfl rfl (v_fieldAddr rfl Tryd.underlying29 inf3 rfl rfl rfl rfl) ?_ | refine q_g _ rfl rfl rfl rfl (v_fieldAddrE rfl Tryd.underlying29 inf3 rfl rfl rfl rfl) ?_
                                            first | refine q_gn rfl rfl rfl rfl ?_ | refine q_g _ rfl rfl rfl rfl (v_ld1 rfl Tryd.underlying3 rfl rfl rfl) ?_ | refine q_g _ rfl rfl rfl rfl (v_lf1 rfl Tryd.underlying3 rfl rfl rfl) ?_ | refine q_g _ rfl rfl rfl rfl (v_loadE1 rfl Tryd.underlying3 rfl rfl (by omega) rfl rfl) ?_
                                            first | refine q_gn rfl rfl rfl rfl ?_ | refine q_g _ rfl rfl rfl rfl (OpQ.fn (lspan_v _ _) rfl rfl SubRC.sub) ?_
                                            first | refine q_gn rfl rfl rfl rfl ?_ | refine q_g _ rfl rfl rfl rfl (v_cast (v := .bool false) (v_neP rfl rfl rfl guard29 (eq29 _ _ _ _)) (congrArg Value.bool (decide_eq_false (fun h => h rfl)))) ?_
                                            first | refine q_q _ rfl rfl rfl (v_pick_t rfl rfl rfl) ?_ | refine q_q _ rfl rfl rfl (v_pick_f rfl rfl rfl) ?_
                                            refine q_q _ rfl rfl rfl (v_move rfl rfl) ?_
                                            first | refine q_gn rfl rfl rfl rfl ?_ | refine q_g _ rfl rfl rfl rfl (v_fieldAddr rfl Tryd.underlying29 inf3 rfl rfl rfl rfl) ?_ | refine q_g _ rfl rfl rfl rfl (v_fieldAddrE rfl Tryd.underlying29 inf3 rfl rfl rfl rfl) ?_
                                            first | refine q_gn rfl rfl rfl rfl ?_ | refine q_g _ rfl rfl rfl rfl (v_ld1 rfl Tryd.underlying3 rfl rfl rfl) ?_ | refine q_g _ rfl rfl rfl rfl (v_lf1 rfl Tryd.underlying3 rfl rfl rfl) ?_ | refine q_g _ rfl rfl rfl rfl (v_loadE1 rfl Tryd.underlying3 rfl rfl (by omega) rfl rfl) ?_
                                            first | refine q_gn rfl rfl rfl rfl ?_ | refine q_g _ rfl rfl rfl rfl (v_true (v_gtr rfl rfl rfl) (by omega)) ?_ | refine q_g _ rfl rfl rfl rfl (v_false (v_gtr rfl rfl rfl) (by omega)) ?_ | refine q_gtest rfl rfl rfl rfl (v_gtr rfl rfl rfl) (fun h274 => ?_) (fun h274 => ?_)
                                            all_goals
                                              first | refine q_gn rfl rfl rfl rfl ?_ | refine q_g _ rfl rfl rfl rfl (v_move rfl rfl) ?_
                                              first | refine q_gn rfl rfl rfl rfl ?_ | refine q_g _ rfl rfl rfl rfl (v_fieldAddr rfl Tryd.underlying29 inf3 rfl rfl rfl rfl) ?_ | refine q_g _ rfl rfl rfl rfl (v_fieldAddrE rfl Tryd.underlying29 inf3 rfl rfl rfl rfl) ?_
                                              first | refine q_gn rfl rfl rfl rfl ?_ | refine q_g _ rfl rfl rfl rfl (v_ld1 rfl Tryd.underlying3 rfl rfl rfl) ?_ | refine q_g _ rfl rfl rfl rfl (v_lf1 rfl Tryd.underlying3 rfl rfl rfl) ?_ | refine q_g _ rfl rfl rfl rfl (v_loadE1 rfl Tryd.underlying3 rfl rfl (by omega) rfl rfl) ?_
                                              first | refine q_gn rfl rfl rfl rfl ?_ | refine q_g _ rfl rfl rfl rfl (v_true (v_gtr rfl rfl rfl) (by omega)) ?_ | refine q_g _ rfl rfl rfl rfl (v_false (v_gtr rfl rfl rfl) (by omega)) ?_ | refine q_gtest rfl rfl rfl rfl (v_gtr rfl rfl rfl) (fun h278 => ?_) (fun h278 => ?_)
                                              all_goals
                                                first | refine q_gn rfl rfl rfl rfl ?_ | refine q_g _ rfl rfl rfl rfl (v_pick_t rfl rfl rfl) ?_ | refine q_g _ rfl rfl rfl rfl (v_pick_f rfl rfl rfl) ?_
                                                first | refine q_q _ rfl rfl rfl (v_pick_t rfl rfl rfl) ?_ | refine q_q _ rfl rfl rfl (v_pick_f rfl rfl rfl) ?_
                                                refine q_q _ rfl rfl rfl (v_move rfl rfl) ?_
                                                first | refine q_gn rfl rfl rfl rfl ?_ | refine q_g _ rfl rfl rfl rfl (v_fieldAddr rfl Tryd.underlying29 inf3 rfl rfl rfl rfl) ?_ | refine q_g _ rfl rfl rfl rfl (v_fieldAddrE rfl Tryd.underlying29 inf3 rfl rfl rfl rfl) ?_
                                                first | refine q_gn rfl rfl rfl rfl ?_ | refine q_g _ rfl rfl rfl rfl (v_ld1 rfl Tryd.underlying3 rfl rfl rfl) ?_ | refine q_g _ rfl rfl rfl rfl (v_lf1 rfl Tryd.underlying3 rfl rfl rfl) ?_ | refine q_g _ rfl rfl rfl rfl (v_loadE1 rfl Tryd.underlying3 rfl rfl (by omega) rfl rfl) ?_
                                                first | refine q_gn rfl rfl rfl rfl ?_ | refine q_g _ rfl rfl rfl rfl (v_true (v_gtr rfl rfl rfl) (by omega)) ?_ | refine q_g _ rfl rfl rfl rfl (v_false (v_gtr rfl rfl rfl) (by omega)) ?_ | refine q_gtest rfl rfl rfl rfl (v_gtr rfl rfl rfl) (fun h284 => ?_) (fun h284 => ?_)
                                                all_goals
                                                  first | refine q_gn rfl rfl rfl rfl ?_ | refine q_g _ rfl rfl rfl rfl (v_move rfl rfl) ?_
                                                  first | refine q_gn rfl rfl rfl rfl ?_ | refine q_g _ rfl rfl rfl rfl (v_fieldAddr rfl Tryd.underlying29 inf3 rfl rfl rfl rfl) ?_ | refine q_g _ rfl rfl rfl rfl (v_fieldAddrE rfl Tryd.underlying29 inf3 rfl rfl rfl rfl) ?_
                                                  first | refine q_gn rfl rfl rfl rfl ?_ | refine q_g _ rfl rfl rfl rfl (v_ld1 rfl Tryd.underlying3 rfl rfl rfl) ?_ | refine q_g _ rfl rfl rfl rfl (v_lf1 rfl Tryd.underlying3 rfl rfl rfl) ?_ | refine q_g _ rfl rfl rfl rfl (v_loadE1 rfl Tryd.underlying3 rfl rfl (by omega) rfl rfl) ?_
                                                  first | refine q_gn rfl rfl rfl rfl ?_ | refine q_g _ rfl rfl rfl rfl (v_true (v_gtr rfl rfl rfl) (by omega)) ?_ | refine q_g _ rfl rfl rfl rfl (v_false (v_gtr rfl rfl rfl) (by omega)) ?_ | refine q_gtest rfl rfl rfl rfl (v_gtr rfl rfl rfl) (fun h288 => ?_) (fun h288 => ?_)
                                                  all_goals
                                                    first | refine q_gn rfl rfl rfl rfl ?_ | refine q_g _ rfl rfl rfl rfl (v_pick_t rfl rfl rfl) ?_ | refine q_g _ rfl rfl rfl rfl (v_pick_f rfl rfl rfl) ?_
                                                    first | refine q_q _ rfl rfl rfl (v_pick_t rfl rfl rfl) ?_ | refine q_q _ rfl rfl rfl (v_pick_f rfl rfl rfl) ?_
                                                    refine q_nil ?_
                                                    repeat (first | with_reducible refine r_then ?_ | with_reducible refine r_in_normal ?_ | with_reducible refine r_sc_normal ?_)
                                                    first | refine r_condd rfl (fun hc290 => ?_) (fun hc290 => ?_) | refine r_cond rfl (fun hc290 => ?_) (fun hc290 => ?_)
                                                    ·
                                                      first
                                                      | (exfalso; revert hc290; decide)
                                                      | (exfalso; omega)
                                                      | skip
                                                        refine r_seq ?_
                                                        refine r_region ?_
                                                        refine o_q _ rfl rfl rfl (v_assign rfl rfl) ?_
                                                        refine o_nil ?_
                                                        repeat (first | with_reducible refine r_then ?_ | with_reducible refine r_in_normal ?_ | with_reducible refine r_sc_normal ?_)
                                                        refine r_ret ?_
                                                        repeat (first | with_reducible refine r_then_ret ?_ | with_reducible refine r_in_ret ?_ | with_reducible refine r_sc_ret ?_)
                                                        exact r_retv2 (Rd.tmp rfl rfl) rfl SelMC.sel SubRC.sub
                                                    ·
                                                      first
                                                      | (exfalso; revert hc290; decide)
                                                      | (exfalso; omega)
                                                      | skip
                                                        refine r_skip ?_
                                                        repeat (first | with_reducible refine r_then ?_ | with_reducible refine r_in_normal ?_ | with_reducible refine r_sc_normal ?_)
                                                        refine r_seq ?_
                                                        refine r_region ?_
                                                        refine o_q _ rfl rfl rfl (v_move rfl rfl) ?_
                                                        refine o_q _ rfl rfl rfl (v_eql rfl rfl rfl) ?_
                                                        first | refine o_q _ rfl rfl rfl (v_fieldAddr rfl Tryd.underlying29 inf3 rfl rfl rfl rfl) ?_ | refine o_q _ rfl rfl rfl (v_fieldAddrE rfl Tryd.underlying29 inf3 rfl rfl rfl rfl) ?_
                                                        first | refine o_q _ rfl rfl rfl (v_ld1 rfl Tryd.underlying3 rfl rfl rfl) ?_ | refine o_q _ rfl rfl rfl (v_lf1 rfl Tryd.underlying3 rfl rfl rfl) ?_ | refine o_q _ rfl rfl rfl (v_loadE1 rfl Tryd.underlying3 rfl rfl (by omega) rfl rfl) ?_
                                                        refine o_q _ rfl rfl rfl (v_eql rfl rfl rfl) ?_
                                                        refine o_q _ rfl rfl rfl (v_eqlB true rfl Tryd.underlying4 rfl rfl (eq_same (grade2_iff hg _ _))) ?_
                                                        refine o_q _ rfl rfl rfl (v_move rfl rfl) ?_
                                                        first | refine o_gn rfl rfl rfl rfl ?_ | refine o_g _ rfl rfl rfl rfl (v_move rfl rfl) ?_
                                                        first | refine o_gn rfl rfl rfl rfl ?_ | refine o_g _ rfl rfl rfl rfl (v_eql rfl rfl rfl) ?_
                                                        first | refine o_gn rfl rfl rfl rfl ?_ | refine o_g _ rfl rfl rfl rfl (v_fieldAddr rfl Tryd.underlying29 inf3 rfl rfl rfl rfl) ?_ | refine o_g _ rfl rfl rfl rfl (v_fieldAddrE rfl Tryd.underlying29 inf3 rfl rfl rfl rfl) ?_
                                                        first | refine o_gn rfl rfl rfl rfl ?_ | refine o_g _ rfl rfl rfl rfl (v_ld1 rfl Tryd.underlying3 rfl rfl rfl) ?_ | refine o_g _ rfl rfl rfl rfl (v_lf1 rfl Tryd.underlying3 rfl rfl rfl) ?_ | refine o_g _ rfl rfl rfl rfl (v_loadE1 rfl Tryd.underlying3 rfl rfl (by omega) rfl rfl) ?_
                                                        first | refine o_gn rfl rfl rfl rfl ?_ | refine o_g _ rfl rfl rfl rfl (v_gtr rfl rfl rfl) ?_
                                                        first | refine o_gn rfl rfl rfl rfl ?_ | refine o_g _ rfl rfl rfl rfl (v_eqlB true rfl Tryd.underlying4 rfl rfl (eq_same (grade0_iff hg _ hdp))) ?_
                                                        first | refine o_q _ rfl rfl rfl (v_pick_t rfl rfl rfl) ?_ | refine o_q _ rfl rfl rfl (v_pick_f rfl rfl rfl) ?_
                                                        refine o_q _ rfl rfl rfl (v_move rfl rfl) ?_
                                                        first | refine o_gn rfl rfl rfl rfl ?_ | refine o_g _ rfl rfl rfl rfl (v_move rfl rfl) ?_
                                                        first | refine o_gn rfl rfl rfl rfl ?_ | refine o_g _ rfl rfl rfl rfl (v_eql rfl rfl rfl) ?_
                                                        first | refine o_gn rfl rfl rfl rfl ?_ | refine o_g _ rfl rfl rfl rfl (v_fieldAddr rfl Tryd.underlying29 inf3 rfl rfl rfl rfl) ?_ | refine o_g _ rfl rfl rfl rfl (v_fieldAddrE rfl Tryd.underlying29 inf3 rfl rfl rfl rfl) ?_
                                                        first | refine o_gn rfl rfl rfl rfl ?_ | refine o_g _ rfl rfl rfl rfl (v_ld1 rfl Tryd.underlying3 rfl rfl rfl) ?_ | refine o_g _ rfl rfl rfl rfl (v_lf1 rfl Tryd.underlying3 rfl rfl rfl) ?_ | refine o_g _ rfl rfl rfl rfl (v_loadE1 rfl Tryd.underlying3 rfl rfl (by omega) rfl rfl) ?_
                                                        first | refine o_gn rfl rfl rfl rfl ?_ | refine o_g _ rfl rfl rfl rfl (v_eql rfl rfl rfl) ?_
                                                        first | refine o_gn rfl rfl rfl rfl ?_ | refine o_g _ rfl rfl rfl rfl (v_eqlB true rfl Tryd.underlying4 rfl rfl (eq_same (open_lo hg _ _))) ?_
                                                        first | refine o_q _ rfl rfl rfl (v_pick_t rfl rfl rfl) ?_ | refine o_q _ rfl rfl rfl (v_pick_f rfl rfl rfl) ?_
                                                        refine o_q _ rfl rfl rfl (v_move rfl rfl) ?_
                                                        first | refine o_gn rfl rfl rfl rfl ?_ | refine o_g _ rfl rfl rfl rfl (v_move rfl rfl) ?_
                                                        first | refine o_gn rfl rfl rfl rfl ?_ | refine o_g _ rfl rfl rfl rfl (v_eql rfl rfl rfl) ?_
                                                        first | refine o_gn rfl rfl rfl rfl ?_ | refine o_g _ rfl rfl rfl rfl (v_fieldAddr rfl Tryd.underlying29 inf3 rfl rfl rfl rfl) ?_ | refine o_g _ rfl rfl rfl rfl (v_fieldAddrE rfl Tryd.underlying29 inf3 rfl rfl rfl rfl) ?_
                                                        first | refine o_gn rfl rfl rfl rfl ?_ | refine o_g _ rfl rfl rfl rfl (v_ld1 rfl Tryd.underlying3 rfl rfl rfl) ?_ | refine o_g _ rfl rfl rfl rfl (v_lf1 rfl Tryd.underlying3 rfl rfl rfl) ?_ | refine o_g _ rfl rfl rfl rfl (v_loadE1 rfl Tryd.underlying3 rfl rfl (by omega) rfl rfl) ?_
                                                        first | refine o_gn rfl rfl rfl rfl ?_ | refine o_g _ rfl rfl rfl rfl (v_eql rfl rfl rfl) ?_
                                                        first | refine o_gn rfl rfl rfl rfl ?_ | refine o_g _ rfl rfl rfl rfl (v_eqlB true rfl Tryd.underlying4 rfl rfl (eq_same (open_hi hg _ _))) ?_
                                                        first | refine o_q _ rfl rfl rfl (v_pick_t rfl rfl rfl) ?_ | refine o_q _ rfl rfl rfl (v_pick_f rfl rfl rfl) ?_
                                                        refine o_q _ rfl rfl rfl (v_move rfl rfl) ?_
                                                        first | refine o_gn rfl rfl rfl rfl ?_ | refine o_g _ rfl rfl rfl rfl (v_move rfl rfl) ?_
                                                        first | refine o_gn rfl rfl rfl rfl ?_ | refine o_g _ rfl rfl rfl rfl (v_move rfl rfl) ?_
                                                        first | refine o_gn rfl rfl rfl rfl ?_ | refine o_g _ rfl rfl rfl rfl (v_andNot0 (a := setT (progA D 0 (wk : Int) (dk + 1)).1) (b := setT (progA D 1 (wk : Int) (dk + 1)).1) rfl rfl rfl (open_in hg _ _)) ?_
                                                        first | refine o_gn rfl rfl rfl rfl ?_ | refine o_g _ rfl rfl rfl rfl (v_true (v_eql rfl rfl rfl) (by omega)) ?_ | refine o_g _ rfl rfl rfl rfl (v_false (v_eql rfl rfl rfl) (by omega)) ?_ | refine o_gtest rfl rfl rfl rfl (v_eql rfl rfl rfl) (fun h325 => ?_) (fun h325 => ?_)
                                                        all_goals
                                                          first | refine o_q _ rfl rfl rfl (v_pick_t rfl rfl rfl) ?_ | refine o_q _ rfl rfl rfl (v_pick_f rfl rfl rfl) ?_
                                                          refine o_q _ rfl rfl rfl (v_move rfl rfl) ?_
                                                          first | refine o_gn rfl rfl rfl rfl ?_ | refine o_g _ rfl rfl rfl rfl (v_true (OpQ.fn awake_v rfl rfl SubRC.sub) (by omega)) ?_ | refine o_g _ rfl rfl rfl rfl (v_false (OpQ.fn awake_v rfl rfl SubRC.sub) (by omega)) ?_ | refine o_gtest rfl rfl rfl rfl (OpQ.fn awake_v rfl rfl SubRC.sub) (fun h328 => ?_) (fun h328 => ?_)
                                                          all_goals
                                                            first | refine o_q _ rfl rfl rfl (v_pick_t rfl rfl rfl) ?_ | refine o_q _ rfl rfl rfl (v_pick_f rfl rfl rfl) ?_
                                                            refine o_q _ rfl rfl rfl (v_assign rfl rfl) ?_
                                                            refine o_nil ?_
                                                            repeat (first | with_reducible refine r_then ?_ | with_reducible refine r_in_normal ?_ | with_reducible refine r_sc_normal ?_)
                                                            refine r_ret ?_
                                                            repeat (first | with_reducible refine r_then_ret ?_ | with_reducible refine r_in_ret ?_ | with_reducible refine r_sc_ret ?_)
                                                            exact r_retv2 (Rd.tmp rfl rfl) rfl SelMC.sel SubRC.sub
theorem endss_v (w0 : Nat) (b0 : w0 ≤ 255) (w1 : Nat) (b1 : w1 ≤ 255) : FnV Tryd.prog 6 [valD D uo po uc pc, .int .u8 w0, .int .u8 w1] [rowD uo 5 encD D.dues, rowD po 4 encP D.paid, rowD (some ⟨0, 0, none⟩) 1 encE ([0, 1] : List Nat)] (.bool true) := by
  by_cases hf : farD D
  · exact ends_far D uo po uc pc w0 b0 w1 b1 hf
  · by_cases hg : GoodD D
    · exact ends_ok D uo po uc pc w0 b0 w1 b1 _ _ rfl rfl hf hg
    · exact ends_bad D uo po uc pc w0 b0 w1 b1 hf hg
end Go.Proofs.YtpfgiednfjfdmaaDoor


namespace Go.Proofs.YtpfgiednfjfdmaaDoor
open Go.G Debt10
theorem nat8 {x : Int} (h : (Lit.int .u8 x).wf = true) : ∃ w : Nat, x = w ∧ w ≤ 255 := by
  have m1 : IntKind.u8.min = 0 := rfl
  have m2 : IntKind.u8.max = 255 := rfl
  simp only [Lit.wf, m1, m2, Bool.and_eq_true, decide_eq_true_eq] at h
  exact ⟨x.toNat, by omega, by omega⟩
def encH (n : Int) : List Value := [.int .u16 n]
def U16s (l : List Int) : Prop := ∀ y, y ∈ l → 0 ≤ y ∧ y ≤ 65535
set_option maxRecDepth 1000000
section
variable {H : Type} {en : TypeId × Value → H} {w : World} {base : Nat} {sp : Nat → Bool} {held : Bool} {fuel : Nat} {cs : List Value} {x : DataW H × List MemPlace}
theorem cells22 : Tryd.prog.cellsOf 22 = 1 := by kernel_rfl
theorem cells23 : Tryd.prog.cellsOf 23 = 1 := by kernel_rfl
theorem cells25 : Tryd.prog.cellsOf 25 = 3 := by kernel_rfl
theorem cells29 : Tryd.prog.cellsOf 29 = 2 := by kernel_rfl
theorem cells54 : Tryd.prog.cellsOf 54 = 4 := by kernel_rfl
theorem cells62 : Tryd.prog.cellsOf 62 = 5 := by kernel_rfl
theorem cellsI : Tryd.prog.cellsOf 3 = 1 := by kernel_rfl
theorem open3 (h : DataW.trod en Tryd.prog w base sp held fuel 3 cs = some x) : ∃ n, cs = [i64 n] ∧ (-9223372036854775808 ≤ n ∧ n ≤ 9223372036854775807) := by
  obtain ⟨n, h1, h2⟩ := open_i Tryd.underlying3 h
  refine ⟨n, h1, ?_⟩
  have m1 : IntKind.i64.min = -9223372036854775808 := rfl
  have m2 : IntKind.i64.max = 9223372036854775807 := rfl
  simp only [Lit.wf, m1, m2, Bool.and_eq_true, decide_eq_true_eq] at h2
  exact h2
theorem list2 {cs : List Value} (h : cs.length = 2) : ∃ a b, cs = [a, b] := by
  match cs, h with
  | [a, b], _ => exact ⟨a, b, rfl⟩
theorem list3 {cs : List Value} (h : cs.length = 3) : ∃ a b c, cs = [a, b, c] := by
  match cs, h with
  | [a, b, c], _ => exact ⟨a, b, c, rfl⟩
theorem list4 {cs : List Value} (h : cs.length = 4) : ∃ a b c d, cs = [a, b, c, d] := by
  match cs, h with
  | [a, b, c, d], _ => exact ⟨a, b, c, d, rfl⟩
theorem list5 {cs : List Value} (h : cs.length = 5) : ∃ a b c d e, cs = [a, b, c, d, e] := by
  match cs, h with
  | [a, b, c, d, e], _ => exact ⟨a, b, c, d, e, rfl⟩
theorem open29 (h : DataW.trod en Tryd.prog w base sp held fuel 29 cs = some x) : ∃ s : Debt10.Span, cs = encS s ∧ True := by
  obtain ⟨a, b, rfl⟩ := list2 ((open_len Tryd.underlying29 h).trans cells29)
  obtain ⟨_, _, h0⟩ := open_field Tryd.underlying29 h 0 rfl cellsI
  obtain ⟨_, _, h1⟩ := open_field Tryd.underlying29 h 1 rfl cellsI
  obtain ⟨n, e0, _⟩ := open3 h0
  obtain ⟨m, e1, _⟩ := open3 h1
  have e0' : [a] = [i64 n] := e0
  have e1' : [b] = [i64 m] := e1
  cases e0'; cases e1'
  exact ⟨⟨n, m⟩, rfl, trivial⟩
theorem open62 (h : DataW.trod en Tryd.prog w base sp held fuel 62 cs = some x) : ∃ s : Due, cs = encD s ∧ True := by
  obtain ⟨a, b, c, d, e, rfl⟩ := list5 ((open_len Tryd.underlying62 h).trans cells62)
  obtain ⟨_, _, h0⟩ := open_field Tryd.underlying62 h 0 rfl cellsI
  obtain ⟨_, _, h1⟩ := open_field Tryd.underlying62 h 1 rfl cellsI
  obtain ⟨_, _, h2⟩ := open_field Tryd.underlying62 h 2 rfl cells29
  obtain ⟨_, _, h3⟩ := open_field Tryd.underlying62 h 3 rfl cellsI
  obtain ⟨n, e0, _⟩ := open3 h0
  obtain ⟨m, e1, _⟩ := open3 h1
  obtain ⟨t, e2, _⟩ := open29 h2
  obtain ⟨k, e3, _⟩ := open3 h3
  have e0' : [a] = [i64 n] := e0
  have e1' : [b] = [i64 m] := e1
  have e2' : [c, d] = [i64 t.lo, i64 t.hi] := e2
  have e3' : [e] = [i64 k] := e3
  cases e0'; cases e1'; cases e2'; cases e3'
  exact ⟨⟨n, m, t, k⟩, rfl, trivial⟩
theorem open54 (h : DataW.trod en Tryd.prog w base sp held fuel 54 cs = some x) : ∃ s : Paid, cs = encP s ∧ True := by
  obtain ⟨a, b, c, d, rfl⟩ := list4 ((open_len Tryd.underlying54 h).trans cells54)
  obtain ⟨_, _, h0⟩ := open_field Tryd.underlying54 h 0 rfl cellsI
  obtain ⟨_, _, h1⟩ := open_field Tryd.underlying54 h 1 rfl cellsI
  obtain ⟨_, _, h2⟩ := open_field Tryd.underlying54 h 2 rfl cells29
  obtain ⟨n, e0, _⟩ := open3 h0
  obtain ⟨m, e1, _⟩ := open3 h1
  obtain ⟨t, e2, _⟩ := open29 h2
  have e0' : [a] = [i64 n] := e0
  have e1' : [b] = [i64 m] := e1
  have e2' : [c, d] = [i64 t.lo, i64 t.hi] := e2
  cases e0'; cases e1'; cases e2'
  exact ⟨⟨n, m, t⟩, rfl, trivial⟩
theorem open25 (h : DataW.trod en Tryd.prog w base sp held fuel 25 cs = some x) : ∃ D uo po uc pc, cs = cellsD D uo po uc pc ∧ rowD uo 5 encD D.dues (full w) ∧ rowD po 4 encP D.paid (full w) := by
  obtain ⟨a, b, c, rfl⟩ := list3 ((open_len Tryd.underlying25 h).trans cells25)
  obtain ⟨_, _, h0⟩ := open_field Tryd.underlying25 h 0 rfl cellsI
  obtain ⟨_, _, h1⟩ := open_field Tryd.underlying25 h 1 rfl cells22
  obtain ⟨_, _, h2⟩ := open_field Tryd.underlying25 h 2 rfl cells23
  obtain ⟨n, e0, _⟩ := open3 h0
  obtain ⟨uo, uc, dues, e1, r1, _, _⟩ := open_rowD (fun _ : Due => True) Tryd.underlying22 cells62 (by omega) (fun _ _ _ h => open62 h) h1
  obtain ⟨po, pc, paid, e2, r2, _, _⟩ := open_rowD (fun _ : Paid => True) Tryd.underlying23 cells54 (by omega) (fun _ _ _ h => open54 h) h2
  have e0' : [a] = [i64 n] := e0
  have e1' : [b] = [.slice uo dues.length uc] := e1
  have e2' : [c] = [.slice po paid.length pc] := e2
  cases e0'; cases e1'; cases e2'
  exact ⟨⟨n, dues, paid⟩, uo, po, uc, pc, rfl, r1, r2⟩
end
section
variable {H : Type} {en : TypeId × Value → H} {w : World} {base b0 : Nat} {r : Reach} {sp : Nat → Bool} {held : Bool} {v : Value} {d : DataW H} {ps : List MemPlace}
theorem agg_of {t : TypeId} {dd : TypeDesc} (hd : Tryd.prog.underlying t = some dd) (ha : aggD dd = true) (hv : Value.okWide Tryd.prog w r b0 t v) : ∃ cs : List Value, v = .agg cs.toArray := by
  unfold Value.okWide at hv
  rw [hd] at hv
  cases dd <;> simp [aggD] at ha
  all_goals
    obtain ⟨cs, rfl, _⟩ := hv
    exact ⟨cs.toList, by simp⟩
theorem get25 (hv : Value.okWide Tryd.prog w r b0 25 v) (h : DataW.Trod en Tryd.prog w base sp held 25 v d ps) : ∃ D uo po uc pc, v = valD D uo po uc pc ∧ rowD uo 5 encD D.dues (full w) ∧ rowD po 4 encP D.paid (full w) := by
  obtain ⟨cs, rfl⟩ := agg_of Tryd.underlying25 rfl hv
  obtain ⟨fuel, h⟩ := h
  obtain ⟨D, uo, po, uc, pc, e, h1, h2⟩ := open25 (cs := cs) h
  subst e
  exact ⟨D, uo, po, uc, pc, rfl, h1, h2⟩
end
theorem own0 : ownKnob Tryd.prog.godebug = none := by kernel_rfl
theorem monoR {W : World} {α : Type} {oa : Option Addr} {sz : Nat} {enc : α → List Value} {xs : List α} {R : List Fact} (h : rowD oa sz enc xs (full W)) (hR : ∀ φ ∈ R, Mono φ ∧ φ (full W)) : ∀ φ ∈ rowD oa sz enc xs :: R, Mono φ ∧ φ (full W) := by
  intro φ hφ
  rcases List.mem_cons.1 hφ with rfl | hφ
  · exact ⟨Mono.row _ _ _ _, h⟩
  · exact hR φ hφ
theorem mono0 {W : World} : ∀ φ ∈ ([] : List Fact), Mono φ ∧ φ (full W) := fun _ h => by cases h
/-! ### what is laid -/
abbrev laidL : List (String × DataW Unit) := [("bogworks/debt.ends", Rows.laid_bogworks_debt_ends)]
theorem typeName_named {P : Program} {nm : String} {tp : TypeId} (hrows : ((List.range P.types.size).all fun u => P.typeName? 3 u != some nm || u == tp) = true) (hstar : nm.toList.head? ≠ some '*') (u : TypeId) (hu : P.typeName? 3 u = some nm) : u = tp := by
  by_cases hlt : u < P.types.size
  · have := List.all_eq_true.1 hrows u (List.mem_range.2 hlt)
    simpa [hu] using this
  · exfalso
    unfold Program.typeName? at hu
    cases hi : P.info? u with
    | none => simp [hi] at hu
    | some i =>
      have hb := Tables.info?_beyond hlt hi
      simp only [hi] at hu
      cases hd : i.desc <;> simp only [hd, TypeDesc.tableOnly] at hu hb <;> try cases hb
      all_goals try cases hu
      simp only [Option.map_eq_some_iff] at hu
      obtain ⟨n', hn', hs⟩ := hu
      apply hstar
      rw [← hs]
      simp [String.toList_append]
theorem name_good {u : TypeId} (h : Tryd.prog.typeName? 3 u = some "bogworks/debt.good") : u = 182 := typeName_named (by kernel_rfl) (by decide) u h
theorem name_bad {u : TypeId} (h : Tryd.prog.typeName? 3 u = some "bogworks/debt.bad") : u = 184 := typeName_named (by kernel_rfl) (by decide) u h
theorem cells_nil {v : Value} (h : v.cells.toList.length = 0) : v = .agg #[] := by
  cases v with
  | agg cs =>
    have : cs.toList = [] := List.length_eq_zero_iff.1 h
    rw [show cs = #[] from Array.toList_inj.1 this]
  | _ => simp [Value.cells] at h
theorem iface_of {w : World} {sp : Nat → Bool} {fuel : Nat} {c : Value} {nm : String} {d : DataW Unit} {p : List MemPlace} (h : DataW.trod (fun _ => ()) Tryd.prog w 0 sp false fuel 141 [c] = some (.iface nm d, p)) : ∃ u v m, c = .iface u v ∧ Tryd.prog.typeName? 3 u = some nm ∧ ∃ q, DataW.trod (fun _ => ()) Tryd.prog w 0 sp false m u v.cells.toList = some (d, q) := by
  cases fuel with
  | zero => simp [DataW.trod] at h
  | succ m =>
    unfold DataW.trod at h
    rw [Tryd.underlying141] at h
    cases c with
    | iface u v =>
      dsimp only at h
      cases hn : Tryd.prog.typeName? 3 u with
      | none => rw [hn] at h; cases h
      | some name =>
        rw [hn] at h
        dsimp only at h
        cases ht : DataW.trod (fun _ => ()) Tryd.prog w 0 sp false m u v.cells.toList with
        | none => rw [ht] at h; cases h
        | some y =>
          rw [ht] at h
          simp only [Option.map_some, Option.some.injEq, Prod.mk.injEq, DataW.iface.injEq] at h
          obtain ⟨⟨rfl, rfl⟩, rfl⟩ := h
          exact ⟨u, v, m, rfl, hn, _, ht⟩
    | _ => simp at h
theorem ends_cells {W : World} (h : laidMetH Tryd.prog laidL W) : W.cell? ⟨0, 0, none⟩ = some (endV 0) ∧ W.cell? ⟨0, 1, none⟩ = some (endV 1) ∧ ∃ c t, W.heap[0]? = some (.cells c t (0, 0)) := by
  rw [MakeChecks.laidMetH_plain _ _ _ (by kernel_rfl)] at h
  obtain ⟨ps, ⟨g, t, cs, fuel, p, q, hg, ht, hv, hd, hq, hps⟩, _, hfr⟩ := h
  obtain rfl := Option.some.inj ((show Tryd.prog.globalNamed "bogworks/debt.ends" = some 0 by kernel_rfl).symm.trans hg)
  obtain rfl := Option.some.inj ((show (Tryd.prog.globals[0]?).map (·.type) = some 142 by kernel_rfl).symm.trans ht)
  obtain ⟨xs, m, _, ex, hlc, hl, hel⟩ := DataW.trod_array Tryd.underlying142 hd
  have c141 : Tryd.prog.cellsOf 141 = 1 := by kernel_rfl
  have c142 : Tryd.prog.cellsOf 142 = 2 := by kernel_rfl
  obtain ⟨a, b, hab⟩ := list2 (hlc.trans c142)
  obtain ⟨x0, x1, rfl⟩ : ∃ x0 x1, xs = [x0, x1] := by
    match xs, hl with
    | [x0, x1], _ => exact ⟨x0, x1, rfl⟩
  have e0 := hel 0 (by decide)
  have e1 := hel 1 (by decide)
  rw [c141, hab] at e0 e1
  have f0 : DataW.trod (fun _ => ()) Tryd.prog W 0 (fun _ => true) false m 141 [a] = some x0 := e0
  have f1 : DataW.trod (fun _ => ()) Tryd.prog W 0 (fun _ => true) false m 141 [b] = some x1 := e1
  clear e0 e1
  have hx := (Prod.mk.inj ex).1
  have hx : ([.iface "bogworks/debt.good" (.agg []), .iface "bogworks/debt.bad" (.agg [.agg []])] : List (DataW Unit)) = [x0.1, x1.1] := DataW.agg.inj hx
  obtain ⟨hx0, hx1⟩ := List.cons.inj hx
  have hx1 := (List.cons.inj hx1).1
  obtain ⟨u0, v0, m0, rfl, n0, q0, t0⟩ := iface_of (d := .agg []) (nm := "bogworks/debt.good") (p := x0.2) (f0.trans (by rw [hx0]))
  obtain ⟨u1, v1, m1, rfl, n1, q1, t1⟩ := iface_of (d := .agg [.agg []]) (nm := "bogworks/debt.bad") (p := x1.2) (f1.trans (by rw [hx1]))
  obtain rfl := name_good n0
  obtain rfl := name_bad n1
  have c182 : Tryd.prog.cellsOf 182 = 0 := by kernel_rfl
  have c184 : Tryd.prog.cellsOf 184 = 0 := by kernel_rfl
  obtain rfl := cells_nil ((open_len Tryd.underlying182 t0).trans c182)
  obtain rfl := cells_nil ((open_len Tryd.underlying184 t1).trans c184)
  have hcell := fun k => World.var?_cell hg hv k
  have hcs : cs = #[.iface 182 (.agg #[]), .iface 184 (.agg #[])] := Array.toList_inj.1 (by rw [hab])
  refine ⟨?_, ?_, ?_⟩
  · rw [hcell 0, hcs]; rfl
  · rw [hcell 1, hcs]; rfl
  · refine (hfr 0 0 ?_).1
    rw [hps, hcs]
    simp [MemPlace.row]
theorem ends_row {W : World} (h : laidMetH Tryd.prog laidL W) : rowD (some ⟨0, 0, none⟩) 1 encE ([0, 1] : List Nat) (full W) := by
  obtain ⟨h0, h1, c, t, hc⟩ := ends_cells h
  refine .inr ⟨0, 0, c, t, (0, 0), rfl, hc, fun i j hi hj => ?_⟩
  have hat : ∀ k, W.cell? ⟨0, k, none⟩ = c[k]? := fun k => by unfold World.cell?; rw [hc]; rfl
  obtain rfl : j = 0 := by omega
  have hi' : i < 2 := hi
  obtain rfl | rfl : i = 0 ∨ i = 1 := by omega
  · rw [← hat]; exact h0
  · rw [← hat]; exact h1
end Go.Proofs.YtpfgiednfjfdmaaDoor

