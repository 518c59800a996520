/- Part 6 of 6 of what the proofs of this seat stand on: a small logic for walks, what the functions come to, and the walks themselves. No condition of its own. -/
import Derived.Test.YtpfgiednfjfdmaaDoorZ5
set_option linter.unusedVariables false
set_option linter.unusedSimpArgs false
set_option linter.unusedSectionVars false
namespace Go.Proofs.YtpfgiednfjfdmaaDoor
open Go.G Debt10
set_option maxRecDepth 1000000
attribute [local irreducible] G.ParO G.Fin
variable (D : Debt) (uo po : Option Addr) (uc pc : Nat)
theorem has_eq (m k : Nat) : ((m / 2 ^ k % 2 : Nat) : Int) = 1 ↔ m.testBit k = true := by
  rw [← Nat.toNat_testBit m k]
  cases m.testBit k <;> simp
theorem has_dec (m k : Nat) : Value.bool (decide (((m / 2 ^ k % 2 : Nat) : Int) = 1)) = .bool (m.testBit k) := by
  cases hb : m.testBit k with
  | true => exact congrArg Value.bool (decide_eq_true ((has_eq m k).2 hb))
  | false => exact congrArg Value.bool (decide_eq_false (fun h => by rw [(has_eq m k).1 h] at hb; cases hb))
/-- The first of the sets before the k-th that are covered, of those of which there is most. -/
def bestR (f : Nat → Int) (p : Nat) (s : Int) : Nat → Nat
  | 0 => 0
  | k + 1 => if pop (bestR f p s k) < pop k ∧ sumM f k p ≤ s then k else bestR f p s k
theorem bestR_y {f : Nat → Int} {p : Nat} {s : Int} {k : Nat} (h : pop (bestR f p s k) < pop k) (h2 : sumM f k p ≤ s) : k = bestR f p s (k + 1) := (if_pos ⟨h, h2⟩).symm
theorem bestR_n {f : Nat → Int} {p : Nat} {s : Int} {k : Nat} (h : ¬ (pop (bestR f p s k) < pop k ∧ sumM f k p ≤ s)) : bestR f p s k = bestR f p s (k + 1) := (if_neg h).symm
theorem bestR_le {f : Nat → Int} {p : Nat} {s : Int} : ∀ k, bestR f p s k ≤ k
  | 0 => Nat.le_refl _
  | k + 1 => by
    have := bestR_le (f := f) (p := p) (s := s) k
    unfold bestR
    split <;> omega
theorem bestR_law {f : Nat → Int} {p : Nat} {s : Int} (h0 : sumM f 0 p ≤ s) : ∀ k, sumM f (bestR f p s k) p ≤ s ∧ ∀ x, x < k → sumM f x p ≤ s → pop x ≤ pop (bestR f p s k) ∧ (pop x = pop (bestR f p s k) → bestR f p s k ≤ x)
  | 0 => ⟨h0, fun x h => by cases h⟩
  | k + 1 => by
    obtain ⟨h1, h2⟩ := bestR_law h0 k
    have hle := bestR_le (f := f) (p := p) (s := s) k
    by_cases hc : pop (bestR f p s k) < pop k ∧ sumM f k p ≤ s
    · rw [← bestR_y hc.1 hc.2]
      refine ⟨hc.2, fun x hx hs => ?_⟩
      by_cases e : x = k
      · rw [e]; exact ⟨Nat.le_refl _, fun _ => Nat.le_refl _⟩
      · have := (h2 x (by omega) hs).1
        exact ⟨by omega, fun h => by omega⟩
    · rw [← bestR_n hc]
      refine ⟨h1, fun x hx hs => ?_⟩
      by_cases e : x = k
      · subst e
        exact ⟨by omega, fun _ => hle⟩
      · exact h2 x (by omega) hs
theorem most_same {D : Debt} (hg : GoodD D) {dn : Nat} (hd : dn ≤ 30) {s : Int} (hs : 0 ≤ s) : bestR (needN D dn) D.people.toNat s (2 ^ D.people.toNat) = mostS D dn s := by
  obtain ⟨⟨h1, h2⟩, h3⟩ := most_in hg hd hs
  obtain ⟨g1, g2⟩ := bestR_law (f := needN D dn) (p := D.people.toNat) (s := s) (by rw [sumM_zero _ fun i _ hb => by rw [Nat.zero_testBit] at hb; cases hb]; exact hs) (2 ^ D.people.toNat)
  have g3 := bestR_le (f := needN D dn) (p := D.people.toNat) (s := s) (2 ^ D.people.toNat)
  have g4 : bestR (needN D dn) D.people.toNat s (2 ^ D.people.toNat) < 2 ^ D.people.toNat := by
    have hlt : ∀ k, 0 < k → bestR (needN D dn) D.people.toNat s k < k := by
      intro k
      induction k with
      | zero => intro h; cases h
      | succ k ih =>
        intro _
        have := bestR_le (f := needN D dn) (p := D.people.toNat) (s := s) k
        unfold bestR
        split <;> omega
    exact hlt _ (Nat.two_pow_pos _)
  have a1 := g2 _ h1 h2
  have a2 := h3 _ g4 g1
  have a3 := a1.2 (by omega)
  have a4 := a2.2 (by omega)
  omega
attribute [local irreducible] leftT aheadT gradeS setT needT mostS pop sumM openK bestR sumT worstA
set_option maxHeartbeats 4000000 in
theorem has80_v (m k : Nat) (hm : m < 64) (hk : k ≤ 6) : FnV Tryd.prog 80 [i64 (m : Int), i64 (k : Int)] [] (.bool (m.testBit k)) := by
 have hpw := Nat.two_pow_pos k
 have hpz : (0 : Int) < ((2 ^ k : Nat) : Int) := by exact_mod_cast hpw
 refine FnV.intro Tryd.call80 Tryd.func80 rfl Tryd.ntmps80 rfl ?_
 intro W M Rf
 refine r_seq ?_
 refine r_region ?_
 refine o_q _ rfl rfl rfl (v_assign rfl rfl) ?_
 refine o_nil ?_
 with_reducible refine r_then ?_
 refine r_seq ?_
 refine r_region ?_
 refine o_q _ rfl rfl rfl (v_move rfl rfl) ?_
 refine o_q _ rfl rfl rfl (v_move rfl rfl) ?_
 refine o_q _ rfl rfl rfl (OpQ.fn (pow_v k (by omega)) rfl rfl SubRC.sub) ?_
 refine o_q _ rfl rfl rfl (v_cast (v := i64 ((m / 2 ^ k : Nat) : Int)) (v_quo rfl rfl rfl (by omega) (by rw [tdiv_nat]; have hq := Nat.div_le_self m (2 ^ k); generalize m / 2 ^ k = q at hq ⊢; omega)) (congrArg (Value.int .i64) tdiv_nat)) ?_
 refine o_q _ rfl rfl rfl (v_cast (v := i64 ((m / 2 ^ k % 2 : Nat) : Int)) (v_rem rfl rfl rfl (by omega)) (tmodE (b := 2) rfl rfl)) ?_
 refine o_q _ rfl rfl rfl (v_cast (v := .bool (m.testBit k)) (v_eql rfl rfl rfl) (has_dec m k)) ?_
 refine o_q _ rfl rfl rfl (v_assign rfl rfl) ?_
 refine o_nil ?_
 with_reducible refine r_then ?_
 refine r_ret ?_
 exact r_retv2 (Rd.tmp rfl rfl) rfl SelMC.sel SubRC.sub
set_option maxHeartbeats 4000000 in
theorem needs65_v (m dn : Nat) (hm : m < 64) (hg : GoodD D) (hd : dn ≤ 30) : FnV Tryd.prog 65 [valD D uo po uc pc, i64 (dn : Int), i64 (m : Int)] [rowD uo 5 encD D.dues, rowD po 4 encP D.paid] (i64 (sumM (needN D dn) m D.people.toNat)) := by
 have hp1 := hg.np
 have hp2 := hg.nd
 have hp3 := hg.ny
 refine FnV.intro Tryd.call65 Tryd.func65 rfl Tryd.ntmps65 rfl ?_
 intro W M Rf
 refine r_seq ?_
 refine r_region ?_
 refine o_boxA rfl rfl rfl rfl rfl (fun b3 => ?_)
 refine o_q _ rfl rfl rfl (v_assign rfl rfl) ?_
 refine o_nil ?_
 with_reducible refine r_then ?_
 refine r_seq ?_
 refine r_region ?_
 refine o_q _ rfl rfl rfl (v_assign rfl rfl) ?_
 refine o_nil ?_
 with_reducible refine r_then ?_
 refine r_seq ?_
 refine r_seq ?_
 refine r_region ?_
 refine o_q _ rfl rfl rfl (v_assign rfl rfl) ?_
 refine o_nil ?_
 with_reducible refine r_then ?_
 refine r_block ?_
 refine r_loop (ι := Nat) (fun k => k ≤ D.people.toNat) (fun k => [(1, i64 (dn : Int)), (2, i64 (m : Int)), (3, pt b3 0), (7, i64 (sumM (needN D dn) m k)), (8, i64 (k : Int))]) (fun k => bx b3 25 (cellsD D uo po uc pc) :: M) (fun k => [rowD uo 5 encD D.dues, rowD po 4 encP D.paid] ++ Rf) (fun k => D.people.toNat - k) 0 ?_ ?_ ?_
 ·
  exact r_here (by repeat (first | exact FSub.nil | refine FSub.cons rfl ?_ | refine FSub.cons2 rfl (by unfold sumM; rfl) ?_)) SelMC.sel SubRC.sub
 ·
  omega
 ·
  rintro k hI0
  refine r_seq ?_
  refine r_seq ?_
  refine r_region ?_
  refine o_q _ rfl rfl rfl (v_move rfl rfl) ?_
  refine o_q _ rfl rfl rfl (v_fieldAddr rfl Tryd.underlying25 inf3 rfl rfl rfl rfl) ?_
  refine o_q _ rfl rfl rfl (v_ld1 rfl Tryd.underlying3 rfl rfl rfl) ?_
  refine o_q _ rfl rfl rfl (v_lss rfl rfl rfl) ?_
  refine o_nil ?_
  with_reducible refine r_then ?_
  refine r_condd rfl (fun hc12 => ?_) (fun hc12 => ?_)
  ·
   refine r_skip ?_
   with_reducible refine r_then ?_
   refine r_seq ?_
   refine r_block ?_
   refine r_seq ?_
   refine r_region ?_
   refine o_q _ rfl rfl rfl (v_move rfl rfl) ?_
   refine o_q _ rfl rfl rfl (v_move rfl rfl) ?_
   refine o_q _ rfl rfl rfl (OpQ.fn (has80_v m k (by omega) (by omega)) rfl rfl SubRC.sub) ?_
   refine o_nil ?_
   with_reducible refine r_then ?_
   refine r_cond rfl (fun hc17 => ?_) (fun hc17 => ?_)
   ·
    have hsb := sumM_bd (f := (needN D dn)) (fun w => need_bd hg (w : Int) hd) m k
    have hnb := need_bd hg (k : Int) hd
    refine r_region ?_
    refine o_q _ rfl rfl rfl (v_move rfl rfl) ?_
    refine o_q _ rfl rfl rfl (v_ldW rfl Tryd.underlying25 rfl inf25 rfl rfl) ?_
    refine o_q _ rfl rfl rfl (v_move rfl rfl) ?_
    refine o_q _ rfl rfl rfl (v_move rfl rfl) ?_
    refine o_q _ rfl rfl rfl (v_cast (v := i64 (needT D (k : Int) dn)) (OpQ.fn (need57_v D uo po uc pc hg (k : Int) dn hd) rfl rfl SubRC.sub) (i64c (need_eq hg _ _))) ?_
    refine o_q _ rfl rfl rfl (v_add rfl rfl rfl (by omega)) ?_
    refine o_q _ rfl rfl rfl (v_assign rfl rfl) ?_
    refine o_nil ?_
    with_reducible refine r_in_normal ?_; refine r_then ?_
    refine r_region ?_
    refine o_q _ rfl rfl rfl (v_move rfl rfl) ?_
    refine o_q _ rfl rfl rfl (v_add rfl rfl rfl (by omega)) ?_
    refine o_q _ rfl rfl rfl (v_assign rfl rfl) ?_
    refine o_nil ?_
    with_reducible refine r_then ?_
    refine r_next (k + 1) ?_ ?_ ?_
    ·
     exact r_here (by (repeat (first | exact FSub.nil | refine FSub.cons rfl ?_ | refine FSub.cons2 rfl (i64c (sum_y (by assumption))) ?_ | refine FSub.cons2 rfl (i64c (sum_n (by assumption))) ?_)); first | done | fail) SelMC.sel SubRC.sub
    ·
     omega
    ·
     omega
   ·
    refine r_skip ?_
    with_reducible refine r_in_normal ?_; refine r_then ?_
    refine r_region ?_
    refine o_q _ rfl rfl rfl (v_move rfl rfl) ?_
    refine o_q _ rfl rfl rfl (v_add rfl rfl rfl (by omega)) ?_
    refine o_q _ rfl rfl rfl (v_assign rfl rfl) ?_
    refine o_nil ?_
    with_reducible refine r_then ?_
    refine r_next (k + 1) ?_ ?_ ?_
    ·
     exact r_here (by (repeat (first | exact FSub.nil | refine FSub.cons rfl ?_ | refine FSub.cons2 rfl (i64c (sum_y (by assumption))) ?_ | refine FSub.cons2 rfl (i64c (sum_n (by assumption))) ?_)); first | done | fail) SelMC.sel SubRC.sub
    ·
     omega
    ·
     omega
  ·
   refine r_exit ?_
   with_reducible refine r_then_exit ?_; refine r_then_exit ?_; refine r_in_here ?_; refine r_then ?_
   refine r_seq ?_
   obtain rfl : k = D.people.toNat := by omega
   refine r_region ?_
   refine o_q _ rfl rfl rfl (v_move rfl rfl) ?_
   refine o_q _ rfl rfl rfl (v_assign rfl rfl) ?_
   refine o_nil ?_
   with_reducible refine r_then ?_
   refine r_ret ?_
   exact r_retv2 (Rd.tmp rfl rfl) rfl SelMC.sel SubRC.sub
set_option maxHeartbeats 4000000 in
theorem sum25_a (d : Int) (hl1 : D.dues.length ≤ 40) (hl2 : D.paid.length ≤ 40) (hng : ¬ GoodD D) : FnV Tryd.prog 25 [valD D uo po uc pc, i64 d] [rowD uo 5 encD D.dues, rowD po 4 encP D.paid] (.tuple #[vS (sumB D d).1, i64 (sumB D d).2]) := by
 refine FnV.intro Tryd.call25 Tryd.func25 rfl Tryd.ntmps25 rfl ?_
 intro W M Rf
 refine r_seq ?_
 refine r_region ?_
 refine o_boxA rfl rfl rfl rfl rfl (fun b2 => ?_)
 refine o_alloc rfl inf29 rfl rfl rfl rfl rfl (fun b4 => ?_)
 refine o_q _ rfl rfl rfl (v_assign rfl rfl) ?_
 refine o_nil ?_
 with_reducible refine r_then ?_
 refine r_seq ?_
 refine r_region_q mixed (by kernel_rfl) ?_
 refine q_q _ rfl rfl rfl (v_ldW rfl Tryd.underlying25 rfl inf25 rfl rfl) ?_
 refine q_q _ rfl rfl rfl (v_move rfl rfl) ?_
 refine q_q _ rfl rfl rfl (OpQ.fn (rDay_v d) rfl rfl SubRC.sub) ?_
 refine q_q _ rfl rfl rfl (v_cast (v := i64 1) (OpQ.fn (check48_v D uo po uc pc (isDy d) hl1 hl2) rfl rfl SubRC.sub) (i64c (chkD_1 hng))) ?_
 refine q_q _ rfl rfl rfl (v_assign rfl rfl) ?_
 refine q_nil ?_
 with_reducible refine r_then ?_
 refine r_seq ?_
 refine r_seq ?_
 refine r_region ?_
 refine o_q _ rfl rfl rfl (v_move rfl rfl) ?_
 refine o_q _ rfl rfl rfl (v_neq rfl rfl rfl) ?_
 refine o_nil ?_
 with_reducible refine r_then ?_
 refine r_condd rfl (fun hc15 => ?_) (fun hc15 => ?_)
 ·
  refine r_seq ?_
  refine r_region ?_
  refine o_q _ rfl rfl rfl (v_bS0 rfl Tryd.underlying29 inf29 plt29 rfl rfl) ?_
  refine o_q _ rfl rfl rfl (v_move rfl rfl) ?_
  refine o_st rfl inf29 rfl rfl rfl rfl rfl rfl rfl rfl ?_
  refine o_q _ rfl rfl rfl (v_assign rfl rfl) ?_
  refine o_nil ?_
  with_reducible refine r_then ?_
  refine r_ret ?_
  with_reducible refine r_then_ret ?_
  exact r_retv2 (Rd.two rfl (RdI.cellW Tryd.underlying29 rfl inf29 rfl rfl) (RdI.tmp rfl)) (by rw [sumB, ansD_n (chkD_1 hng) (by decide)]; try rfl) SelMC.sel SubRC.sub
 ·
  (exfalso; revert hc15; decide)
set_option maxHeartbeats 4000000 in
theorem sum25_b (d : Int) (hl1 : D.dues.length ≤ 40) (hl2 : D.paid.length ≤ 40) (hg : GoodD D) (h2 : isDy d = false) : FnV Tryd.prog 25 [valD D uo po uc pc, i64 d] [rowD uo 5 encD D.dues, rowD po 4 encP D.paid] (.tuple #[vS (sumB D d).1, i64 (sumB D d).2]) := by
 refine FnV.intro Tryd.call25 Tryd.func25 rfl Tryd.ntmps25 rfl ?_
 intro W M Rf
 refine r_seq ?_
 refine r_region ?_
 refine o_boxA rfl rfl rfl rfl rfl (fun b2 => ?_)
 refine o_alloc rfl inf29 rfl rfl rfl rfl rfl (fun b4 => ?_)
 refine o_q _ rfl rfl rfl (v_assign rfl rfl) ?_
 refine o_nil ?_
 with_reducible refine r_then ?_
 refine r_seq ?_
 refine r_region_q mixed (by kernel_rfl) ?_
 refine q_q _ rfl rfl rfl (v_ldW rfl Tryd.underlying25 rfl inf25 rfl rfl) ?_
 refine q_q _ rfl rfl rfl (v_move rfl rfl) ?_
 refine q_q _ rfl rfl rfl (v_cast (v := .bool false) (OpQ.fn (rDay_v _) rfl rfl SubRC.sub) (congrArg Value.bool h2)) ?_
 refine q_q _ rfl rfl rfl (v_cast (v := i64 2) (OpQ.fn (check48_v D uo po uc pc false hl1 hl2) rfl rfl SubRC.sub) (i64c (chkD_2 hg rfl))) ?_
 refine q_q _ rfl rfl rfl (v_assign rfl rfl) ?_
 refine q_nil ?_
 with_reducible refine r_then ?_
 refine r_seq ?_
 refine r_seq ?_
 refine r_region ?_
 refine o_q _ rfl rfl rfl (v_move rfl rfl) ?_
 refine o_q _ rfl rfl rfl (v_neq rfl rfl rfl) ?_
 refine o_nil ?_
 with_reducible refine r_then ?_
 refine r_condd rfl (fun hc15 => ?_) (fun hc15 => ?_)
 ·
  refine r_seq ?_
  refine r_region ?_
  refine o_q _ rfl rfl rfl (v_bS0 rfl Tryd.underlying29 inf29 plt29 rfl rfl) ?_
  refine o_q _ rfl rfl rfl (v_move rfl rfl) ?_
  refine o_st rfl inf29 rfl rfl rfl rfl rfl rfl rfl rfl ?_
  refine o_q _ rfl rfl rfl (v_assign rfl rfl) ?_
  refine o_nil ?_
  with_reducible refine r_then ?_
  refine r_ret ?_
  with_reducible refine r_then_ret ?_
  exact r_retv2 (Rd.two rfl (RdI.cellW Tryd.underlying29 rfl inf29 rfl rfl) (RdI.tmp rfl)) (by rw [sumB, ansD_n (chkD_2 hg h2) (by decide)]; try rfl) SelMC.sel SubRC.sub
 ·
  (exfalso; revert hc15; decide)
set_option maxHeartbeats 4000000 in
theorem sum25_o (d : Int) (hl1 : D.dues.length ≤ 40) (hl2 : D.paid.length ≤ 40) (hg : GoodD D) (h2 : isDy d = true) : FnV Tryd.prog 25 [valD D uo po uc pc, i64 d] [rowD uo 5 encD D.dues, rowD po 4 encP D.paid] (.tuple #[vS (sumB D d).1, i64 (sumB D d).2]) := by
 obtain ⟨dn, rfl⟩ : ∃ n : Nat, d = n := ⟨d.toNat, by have := of_decide_eq_true h2; omega⟩
 have hd := of_decide_eq_true h2
 have hdn : dn ≤ 30 := by omega
 have hp1 := hg.np
 have hp2 := hg.nd
 have hp3 := hg.ny
 refine FnV.intro Tryd.call25 Tryd.func25 rfl Tryd.ntmps25 rfl ?_
 intro W M Rf
 refine r_seq ?_
 refine r_region ?_
 refine o_boxA rfl rfl rfl rfl rfl (fun b2 => ?_)
 refine o_alloc rfl inf29 rfl rfl rfl rfl rfl (fun b4 => ?_)
 refine o_q _ rfl rfl rfl (v_assign rfl rfl) ?_
 refine o_nil ?_
 with_reducible refine r_then ?_
 refine r_seq ?_
 refine r_region_q mixed (by kernel_rfl) ?_
 refine q_q _ rfl rfl rfl (v_ldW rfl Tryd.underlying25 rfl inf25 rfl rfl) ?_
 refine q_q _ rfl rfl rfl (v_move rfl rfl) ?_
 refine q_q _ rfl rfl rfl (v_cast (v := .bool true) (OpQ.fn (rDay_v _) rfl rfl SubRC.sub) (congrArg Value.bool h2)) ?_
 refine q_q _ rfl rfl rfl (v_cast (v := i64 0) (OpQ.fn (check48_v D uo po uc pc true hl1 hl2) rfl rfl SubRC.sub) (i64c (chkD_0 hg rfl))) ?_
 refine q_q _ rfl rfl rfl (v_assign rfl rfl) ?_
 refine q_nil ?_
 with_reducible refine r_then ?_
 refine r_seq ?_
 refine r_seq ?_
 refine r_region ?_
 refine o_q _ rfl rfl rfl (v_move rfl rfl) ?_
 refine o_q _ rfl rfl rfl (v_neq rfl rfl rfl) ?_
 refine o_nil ?_
 with_reducible refine r_then ?_
 refine r_condd rfl (fun hc15 => ?_) (fun hc15 => ?_)
 ·
  (exfalso; revert hc15; decide)
 ·
  refine r_skip ?_
  with_reducible refine r_then ?_
  refine r_seq ?_
  refine r_region ?_
  refine o_q _ rfl rfl rfl (v_bS0 rfl Tryd.underlying29 inf29 plt29 rfl rfl) ?_
  refine o_alloc rfl inf29 rfl rfl rfl rfl rfl (fun b7 => ?_)
  refine o_st rfl inf29 rfl rfl rfl rfl rfl rfl rfl rfl ?_
  refine o_nil ?_
  with_reducible refine r_then ?_
  refine r_seq ?_
  refine r_seq ?_
  refine r_region ?_
  refine o_q _ rfl rfl rfl (v_assign rfl rfl) ?_
  refine o_nil ?_
  with_reducible refine r_then ?_
  refine r_block ?_
  refine r_loop (ι := Nat) (fun k => k ≤ D.people.toNat) (fun k => [(1, i64 (dn : Int)), (2, pt b2 0), (4, pt b4 0), (5, i64 0), (7, pt b7 0), (8, i64 (k : Int))]) (fun k => bx b7 29 [i64 (sumT D dn k).lo, i64 (sumT D dn k).hi] :: bx b4 29 [i64 0, i64 0] :: bx b2 25 (cellsD D uo po uc pc) :: M) (fun k => [rowD uo 5 encD D.dues, rowD po 4 encP D.paid] ++ Rf) (fun k => D.people.toNat - k) 0 ?_ ?_ ?_
  ·
   refine Imp.box_to b7 [i64 (sumT D dn 0).lo, i64 (sumT D dn 0).hi] (by unfold sumT; rfl) ?_
   refine Imp.box_to b4 [i64 0, i64 0] rfl ?_
   exact r_here (by (repeat (first | exact FSub.nil | refine FSub.cons rfl ?_)); first | done | fail) SelMC.sel SubRC.sub
  ·
   omega
  ·
   rintro k hI0
   refine r_seq ?_
   refine r_seq ?_
   refine r_region ?_
   refine o_q _ rfl rfl rfl (v_move rfl rfl) ?_
   refine o_q _ rfl rfl rfl (v_fieldAddr rfl Tryd.underlying25 inf3 rfl rfl rfl rfl) ?_
   refine o_q _ rfl rfl rfl (v_ld1 rfl Tryd.underlying3 rfl rfl rfl) ?_
   refine o_q _ rfl rfl rfl (v_lss rfl rfl rfl) ?_
   refine o_nil ?_
   with_reducible refine r_then ?_
   refine r_condd rfl (fun hc22 => ?_) (fun hc22 => ?_)
   ·
    refine r_skip ?_
    with_reducible refine r_then ?_
    refine r_seq ?_
    refine r_block ?_
    refine r_seq ?_
    refine r_region ?_
    refine o_q _ rfl rfl rfl (v_ldW rfl Tryd.underlying25 rfl inf25 rfl rfl) ?_
    refine o_q _ rfl rfl rfl (v_move rfl rfl) ?_
    refine o_q _ rfl rfl rfl (v_move rfl rfl) ?_
    refine o_q _ rfl rfl rfl (v_cast (v := vS (leftT D (k : Int) dn)) (OpQ.fn (left51_v D uo po uc pc hg (k : Int) dn hdn) rfl rfl SubRC.sub) (by rw [← leftT_same hg]; rfl)) ?_
    refine o_alloc rfl inf29 rfl rfl rfl rfl rfl (fun b9 => ?_)
    refine o_st rfl inf29 rfl rfl rfl rfl rfl rfl rfl rfl ?_
    refine o_nil ?_
    with_reducible refine r_then ?_
    refine Imp.box_to b9 [i64 (leftT D (k : Int) dn).lo, i64 (leftT D (k : Int) dn).hi] rfl ?_
    have hsb := sum_bd hg hdn k
    have hlb := left_bd hg (k : Int) hdn
    refine r_region ?_
    refine o_q _ rfl rfl rfl (v_fieldAddr rfl Tryd.underlying29 inf3 rfl rfl rfl rfl) ?_
    refine o_q _ rfl rfl rfl (v_ld1 rfl Tryd.underlying3 rfl rfl rfl) ?_
    refine o_q _ rfl rfl rfl (v_fieldAddr rfl Tryd.underlying29 inf3 rfl rfl rfl rfl) ?_
    refine o_q _ rfl rfl rfl (v_ld1 rfl Tryd.underlying3 rfl rfl rfl) ?_
    refine o_q _ rfl rfl rfl (v_add rfl rfl rfl (by omega)) ?_
    refine o_q _ rfl rfl rfl (v_fieldAddr rfl Tryd.underlying29 inf3 rfl rfl rfl rfl) ?_
    refine o_q _ rfl rfl rfl (v_ld1 rfl Tryd.underlying3 rfl rfl rfl) ?_
    refine o_q _ rfl rfl rfl (v_fieldAddr rfl Tryd.underlying29 inf3 rfl rfl rfl rfl) ?_
    refine o_q _ rfl rfl rfl (v_ld1 rfl Tryd.underlying3 rfl rfl rfl) ?_
    refine o_q _ rfl rfl rfl (v_add rfl rfl rfl (by omega)) ?_
    refine o_q _ rfl rfl rfl (v_bS rfl Tryd.underlying29 inf29 plt29 rfl rfl rfl (by repeat (first | exact trivial | refine ⟨rfl, ?_⟩)) (by rfl)) ?_
    refine o_st rfl inf29 rfl rfl rfl rfl rfl rfl rfl rfl ?_
    refine o_nil ?_
    with_reducible refine r_in_normal ?_; refine r_then ?_
    refine r_region ?_
    refine o_q _ rfl rfl rfl (v_move rfl rfl) ?_
    refine o_q _ rfl rfl rfl (v_add rfl rfl rfl (by omega)) ?_
    refine o_q _ rfl rfl rfl (v_assign rfl rfl) ?_
    refine o_nil ?_
    with_reducible refine r_then ?_
    refine r_next (k + 1) ?_ ?_ ?_
    ·
     refine Imp.box_to b7 [i64 (sumT D dn (k + 1)).lo, i64 (sumT D dn (k + 1)).hi] (by rw [show sumT D dn (k + 1) = ⟨(sumT D dn k).lo + (leftT D k dn).lo, (sumT D dn k).hi + (leftT D k dn).hi⟩ from by conv => (lhs; unfold sumT)]; rfl) ?_
     exact r_here (by (repeat (first | exact FSub.nil | refine FSub.cons rfl ?_)); first | done | fail) SelMC.sel SubRC.sub
    ·
     omega
    ·
     omega
   ·
    refine r_exit ?_
    with_reducible refine r_then_exit ?_; refine r_then_exit ?_; refine r_in_here ?_; refine r_then ?_
    refine r_seq ?_
    obtain rfl : k = D.people.toNat := by omega
    refine r_region ?_
    refine o_q _ rfl rfl rfl (v_ldW rfl Tryd.underlying29 rfl inf29 rfl rfl) ?_
    refine o_st rfl inf29 rfl rfl rfl rfl rfl rfl rfl rfl ?_
    refine o_q _ rfl rfl rfl (v_assign rfl rfl) ?_
    refine o_nil ?_
    with_reducible refine r_then ?_
    refine r_ret ?_
    exact r_retv2 (Rd.two rfl (RdI.cellW Tryd.underlying29 rfl inf29 rfl rfl) (RdI.tmp rfl)) (by rw [sumB, ansD_0 (chkD_0 hg h2), Int.toNat_natCast]; try rfl) SelMC.sel SubRC.sub
theorem sum25_v (d : Int) (hl1 : D.dues.length ≤ 40) (hl2 : D.paid.length ≤ 40) : FnV Tryd.prog 25 [valD D uo po uc pc, i64 d] [rowD uo 5 encD D.dues, rowD po 4 encP D.paid] (.tuple #[vS (sumB D d).1, i64 (sumB D d).2]) := by
  by_cases hg : GoodD D
  · cases h2 : isDy d
    · exact sum25_b D uo po uc pc d hl1 hl2 hg h2
    · exact sum25_o D uo po uc pc d hl1 hl2 hg h2
  · exact sum25_a D uo po uc pc d hl1 hl2 hg
set_option maxHeartbeats 4000000 in
theorem most27_a (d s : Int) (hl1 : D.dues.length ≤ 40) (hl2 : D.paid.length ≤ 40) (hng : ¬ GoodD D) (h1 : isDy d = false) : FnV Tryd.prog 27 [valD D uo po uc pc, i64 d, i64 s] [rowD uo 5 encD D.dues, rowD po 4 encP D.paid] (.tuple #[i64 (mostB D d s).1.1, i64 (mostB D d s).1.2, i64 (mostB D d s).2]) := by
 refine FnV.intro Tryd.call27 Tryd.func27 rfl Tryd.ntmps27 rfl ?_
 intro W M Rf
 refine r_seq ?_
 refine r_region ?_
 refine o_boxA rfl rfl rfl rfl rfl (fun b3 => ?_)
 refine o_q _ rfl rfl rfl (v_assign rfl rfl) ?_
 refine o_q _ rfl rfl rfl (v_assign rfl rfl) ?_
 refine o_q _ rfl rfl rfl (v_assign rfl rfl) ?_
 refine o_nil ?_
 with_reducible refine r_then ?_
 refine r_seq ?_
 refine r_region_q mixed (by kernel_rfl) ?_
 refine q_q _ rfl rfl rfl (v_ldW rfl Tryd.underlying25 rfl inf25 rfl rfl) ?_
 refine q_q _ rfl rfl rfl (v_move rfl rfl) ?_
 refine q_q _ rfl rfl rfl (v_cast (v := .bool false) (OpQ.fn (rDay_v _) rfl rfl SubRC.sub) (congrArg Value.bool h1)) ?_
 refine q_q _ rfl rfl rfl (v_move rfl rfl) ?_
 refine q_gn rfl rfl rfl rfl ?_
 refine q_gn rfl rfl rfl rfl ?_
 refine q_q _ rfl rfl rfl (v_pick_f rfl rfl rfl) ?_
 refine q_q _ rfl rfl rfl (v_cast (v := i64 1) (OpQ.fn (check48_v D uo po uc pc false hl1 hl2) rfl rfl SubRC.sub) (i64c (chkD_1 hng))) ?_
 refine q_q _ rfl rfl rfl (v_assign rfl rfl) ?_
 refine q_nil ?_
 with_reducible refine r_then ?_
 refine r_seq ?_
 refine r_seq ?_
 refine r_region ?_
 refine o_q _ rfl rfl rfl (v_move rfl rfl) ?_
 refine o_q _ rfl rfl rfl (v_neq rfl rfl rfl) ?_
 refine o_nil ?_
 with_reducible refine r_then ?_
 refine r_condd rfl (fun hc21 => ?_) (fun hc21 => ?_)
 ·
  refine r_seq ?_
  refine r_region ?_
  refine o_q _ rfl rfl rfl (v_move rfl rfl) ?_
  refine o_q _ rfl rfl rfl (v_assign rfl rfl) ?_
  refine o_q _ rfl rfl rfl (v_assign rfl rfl) ?_
  refine o_q _ rfl rfl rfl (v_assign rfl rfl) ?_
  refine o_nil ?_
  with_reducible refine r_then ?_
  refine r_ret ?_
  with_reducible refine r_then_ret ?_
  exact r_retv2 (Rd.three rfl (RdI.tmp rfl) (RdI.tmp rfl) (RdI.tmp rfl)) (by rw [mostB, ansD_n (chkD_1 hng) (by decide)]; try rfl) SelMC.sel SubRC.sub
 ·
  (exfalso; revert hc21; decide)
set_option maxHeartbeats 4000000 in
theorem most27_b (d s : Int) (hl1 : D.dues.length ≤ 40) (hl2 : D.paid.length ≤ 40) (hng : ¬ GoodD D) (h1 : isDy d = true) : FnV Tryd.prog 27 [valD D uo po uc pc, i64 d, i64 s] [rowD uo 5 encD D.dues, rowD po 4 encP D.paid] (.tuple #[i64 (mostB D d s).1.1, i64 (mostB D d s).1.2, i64 (mostB D d s).2]) := by
 refine FnV.intro Tryd.call27 Tryd.func27 rfl Tryd.ntmps27 rfl ?_
 intro W M Rf
 refine r_seq ?_
 refine r_region ?_
 refine o_boxA rfl rfl rfl rfl rfl (fun b3 => ?_)
 refine o_q _ rfl rfl rfl (v_assign rfl rfl) ?_
 refine o_q _ rfl rfl rfl (v_assign rfl rfl) ?_
 refine o_q _ rfl rfl rfl (v_assign rfl rfl) ?_
 refine o_nil ?_
 with_reducible refine r_then ?_
 refine r_seq ?_
 refine r_region_q mixed (by kernel_rfl) ?_
 refine q_q _ rfl rfl rfl (v_ldW rfl Tryd.underlying25 rfl inf25 rfl rfl) ?_
 refine q_q _ rfl rfl rfl (v_move rfl rfl) ?_
 refine q_q _ rfl rfl rfl (v_cast (v := .bool true) (OpQ.fn (rDay_v _) rfl rfl SubRC.sub) (congrArg Value.bool h1)) ?_
 refine q_q _ rfl rfl rfl (v_move rfl rfl) ?_
 refine q_g _ rfl rfl rfl rfl (v_move rfl rfl) ?_
 refine q_g _ rfl rfl rfl rfl (OpQ.fn (rStore_v s) rfl rfl SubRC.sub) ?_
 refine q_q _ rfl rfl rfl (v_pick_t rfl rfl rfl) ?_
 refine q_q _ rfl rfl rfl (v_cast (v := i64 1) (OpQ.fn (check48_v D uo po uc pc (isSd s) hl1 hl2) rfl rfl SubRC.sub) (i64c (chkD_1 hng))) ?_
 refine q_q _ rfl rfl rfl (v_assign rfl rfl) ?_
 refine q_nil ?_
 with_reducible refine r_then ?_
 refine r_seq ?_
 refine r_seq ?_
 refine r_region ?_
 refine o_q _ rfl rfl rfl (v_move rfl rfl) ?_
 refine o_q _ rfl rfl rfl (v_neq rfl rfl rfl) ?_
 refine o_nil ?_
 with_reducible refine r_then ?_
 refine r_condd rfl (fun hc21 => ?_) (fun hc21 => ?_)
 ·
  refine r_seq ?_
  refine r_region ?_
  refine o_q _ rfl rfl rfl (v_move rfl rfl) ?_
  refine o_q _ rfl rfl rfl (v_assign rfl rfl) ?_
  refine o_q _ rfl rfl rfl (v_assign rfl rfl) ?_
  refine o_q _ rfl rfl rfl (v_assign rfl rfl) ?_
  refine o_nil ?_
  with_reducible refine r_then ?_
  refine r_ret ?_
  with_reducible refine r_then_ret ?_
  exact r_retv2 (Rd.three rfl (RdI.tmp rfl) (RdI.tmp rfl) (RdI.tmp rfl)) (by rw [mostB, ansD_n (chkD_1 hng) (by decide)]; try rfl) SelMC.sel SubRC.sub
 ·
  (exfalso; revert hc21; decide)
set_option maxHeartbeats 4000000 in
theorem most27_c (d s : Int) (hl1 : D.dues.length ≤ 40) (hl2 : D.paid.length ≤ 40) (hg : GoodD D) (h1 : isDy d = false) : FnV Tryd.prog 27 [valD D uo po uc pc, i64 d, i64 s] [rowD uo 5 encD D.dues, rowD po 4 encP D.paid] (.tuple #[i64 (mostB D d s).1.1, i64 (mostB D d s).1.2, i64 (mostB D d s).2]) := by
 refine FnV.intro Tryd.call27 Tryd.func27 rfl Tryd.ntmps27 rfl ?_
 intro W M Rf
 refine r_seq ?_
 refine r_region ?_
 refine o_boxA rfl rfl rfl rfl rfl (fun b3 => ?_)
 refine o_q _ rfl rfl rfl (v_assign rfl rfl) ?_
 refine o_q _ rfl rfl rfl (v_assign rfl rfl) ?_
 refine o_q _ rfl rfl rfl (v_assign rfl rfl) ?_
 refine o_nil ?_
 with_reducible refine r_then ?_
 refine r_seq ?_
 refine r_region_q mixed (by kernel_rfl) ?_
 refine q_q _ rfl rfl rfl (v_ldW rfl Tryd.underlying25 rfl inf25 rfl rfl) ?_
 refine q_q _ rfl rfl rfl (v_move rfl rfl) ?_
 refine q_q _ rfl rfl rfl (v_cast (v := .bool false) (OpQ.fn (rDay_v _) rfl rfl SubRC.sub) (congrArg Value.bool h1)) ?_
 refine q_q _ rfl rfl rfl (v_move rfl rfl) ?_
 refine q_gn rfl rfl rfl rfl ?_
 refine q_gn rfl rfl rfl rfl ?_
 refine q_q _ rfl rfl rfl (v_pick_f rfl rfl rfl) ?_
 refine q_q _ rfl rfl rfl (v_cast (v := i64 2) (OpQ.fn (check48_v D uo po uc pc false hl1 hl2) rfl rfl SubRC.sub) (i64c (chkD_2 hg rfl))) ?_
 refine q_q _ rfl rfl rfl (v_assign rfl rfl) ?_
 refine q_nil ?_
 with_reducible refine r_then ?_
 refine r_seq ?_
 refine r_seq ?_
 refine r_region ?_
 refine o_q _ rfl rfl rfl (v_move rfl rfl) ?_
 refine o_q _ rfl rfl rfl (v_neq rfl rfl rfl) ?_
 refine o_nil ?_
 with_reducible refine r_then ?_
 refine r_condd rfl (fun hc21 => ?_) (fun hc21 => ?_)
 ·
  refine r_seq ?_
  refine r_region ?_
  refine o_q _ rfl rfl rfl (v_move rfl rfl) ?_
  refine o_q _ rfl rfl rfl (v_assign rfl rfl) ?_
  refine o_q _ rfl rfl rfl (v_assign rfl rfl) ?_
  refine o_q _ rfl rfl rfl (v_assign rfl rfl) ?_
  refine o_nil ?_
  with_reducible refine r_then ?_
  refine r_ret ?_
  with_reducible refine r_then_ret ?_
  exact r_retv2 (Rd.three rfl (RdI.tmp rfl) (RdI.tmp rfl) (RdI.tmp rfl)) (by rw [mostB, ansD_n (chkD_2 hg (okM1 h1)) (by decide)]; try rfl) SelMC.sel SubRC.sub
 ·
  (exfalso; revert hc21; decide)
set_option maxHeartbeats 4000000 in
theorem most27_d (d s : Int) (hl1 : D.dues.length ≤ 40) (hl2 : D.paid.length ≤ 40) (hg : GoodD D) (h1 : isDy d = true) (h2 : isSd s = false) : FnV Tryd.prog 27 [valD D uo po uc pc, i64 d, i64 s] [rowD uo 5 encD D.dues, rowD po 4 encP D.paid] (.tuple #[i64 (mostB D d s).1.1, i64 (mostB D d s).1.2, i64 (mostB D d s).2]) := by
 refine FnV.intro Tryd.call27 Tryd.func27 rfl Tryd.ntmps27 rfl ?_
 intro W M Rf
 refine r_seq ?_
 refine r_region ?_
 refine o_boxA rfl rfl rfl rfl rfl (fun b3 => ?_)
 refine o_q _ rfl rfl rfl (v_assign rfl rfl) ?_
 refine o_q _ rfl rfl rfl (v_assign rfl rfl) ?_
 refine o_q _ rfl rfl rfl (v_assign rfl rfl) ?_
 refine o_nil ?_
 with_reducible refine r_then ?_
 refine r_seq ?_
 refine r_region_q mixed (by kernel_rfl) ?_
 refine q_q _ rfl rfl rfl (v_ldW rfl Tryd.underlying25 rfl inf25 rfl rfl) ?_
 refine q_q _ rfl rfl rfl (v_move rfl rfl) ?_
 refine q_q _ rfl rfl rfl (v_cast (v := .bool true) (OpQ.fn (rDay_v _) rfl rfl SubRC.sub) (congrArg Value.bool h1)) ?_
 refine q_q _ rfl rfl rfl (v_move rfl rfl) ?_
 refine q_g _ rfl rfl rfl rfl (v_move rfl rfl) ?_
 refine q_g _ rfl rfl rfl rfl (v_cast (v := .bool false) (OpQ.fn (rStore_v _) rfl rfl SubRC.sub) (congrArg Value.bool h2)) ?_
 refine q_q _ rfl rfl rfl (v_pick_t rfl rfl rfl) ?_
 refine q_q _ rfl rfl rfl (v_cast (v := i64 2) (OpQ.fn (check48_v D uo po uc pc false hl1 hl2) rfl rfl SubRC.sub) (i64c (chkD_2 hg rfl))) ?_
 refine q_q _ rfl rfl rfl (v_assign rfl rfl) ?_
 refine q_nil ?_
 with_reducible refine r_then ?_
 refine r_seq ?_
 refine r_seq ?_
 refine r_region ?_
 refine o_q _ rfl rfl rfl (v_move rfl rfl) ?_
 refine o_q _ rfl rfl rfl (v_neq rfl rfl rfl) ?_
 refine o_nil ?_
 with_reducible refine r_then ?_
 refine r_condd rfl (fun hc21 => ?_) (fun hc21 => ?_)
 ·
  refine r_seq ?_
  refine r_region ?_
  refine o_q _ rfl rfl rfl (v_move rfl rfl) ?_
  refine o_q _ rfl rfl rfl (v_assign rfl rfl) ?_
  refine o_q _ rfl rfl rfl (v_assign rfl rfl) ?_
  refine o_q _ rfl rfl rfl (v_assign rfl rfl) ?_
  refine o_nil ?_
  with_reducible refine r_then ?_
  refine r_ret ?_
  with_reducible refine r_then_ret ?_
  exact r_retv2 (Rd.three rfl (RdI.tmp rfl) (RdI.tmp rfl) (RdI.tmp rfl)) (by rw [mostB, ansD_n (chkD_2 hg (okM2 h2)) (by decide)]; try rfl) SelMC.sel SubRC.sub
 ·
  (exfalso; revert hc21; decide)
set_option maxHeartbeats 4000000 in
theorem most27_o (d s : Int) (hl1 : D.dues.length ≤ 40) (hl2 : D.paid.length ≤ 40) (hg : GoodD D) (h1 : isDy d = true) (h2 : isSd s = true) : FnV Tryd.prog 27 [valD D uo po uc pc, i64 d, i64 s] [rowD uo 5 encD D.dues, rowD po 4 encP D.paid] (.tuple #[i64 (mostB D d s).1.1, i64 (mostB D d s).1.2, i64 (mostB D d s).2]) := by
 obtain ⟨dn, rfl⟩ : ∃ n : Nat, d = n := ⟨d.toNat, by have := of_decide_eq_true h1; omega⟩
 have hd := of_decide_eq_true h1
 have hdn : dn ≤ 30 := by omega
 have hs := of_decide_eq_true h2
 have hp1 := hg.np
 have hp2 := hg.nd
 have hp3 := hg.ny
 have h2p := two_p (p := D.people.toNat) (by omega)
 refine FnV.intro Tryd.call27 Tryd.func27 rfl Tryd.ntmps27 rfl ?_
 intro W M Rf
 refine r_seq ?_
 refine r_region ?_
 refine o_boxA rfl rfl rfl rfl rfl (fun b3 => ?_)
 refine o_q _ rfl rfl rfl (v_assign rfl rfl) ?_
 refine o_q _ rfl rfl rfl (v_assign rfl rfl) ?_
 refine o_q _ rfl rfl rfl (v_assign rfl rfl) ?_
 refine o_nil ?_
 with_reducible refine r_then ?_
 refine r_seq ?_
 refine r_region_q mixed (by kernel_rfl) ?_
 refine q_q _ rfl rfl rfl (v_ldW rfl Tryd.underlying25 rfl inf25 rfl rfl) ?_
 refine q_q _ rfl rfl rfl (v_move rfl rfl) ?_
 refine q_q _ rfl rfl rfl (v_cast (v := .bool true) (OpQ.fn (rDay_v _) rfl rfl SubRC.sub) (congrArg Value.bool h1)) ?_
 refine q_q _ rfl rfl rfl (v_move rfl rfl) ?_
 refine q_g _ rfl rfl rfl rfl (v_move rfl rfl) ?_
 refine q_g _ rfl rfl rfl rfl (v_cast (v := .bool true) (OpQ.fn (rStore_v _) rfl rfl SubRC.sub) (congrArg Value.bool h2)) ?_
 refine q_q _ rfl rfl rfl (v_pick_t rfl rfl rfl) ?_
 refine q_q _ rfl rfl rfl (v_cast (v := i64 0) (OpQ.fn (check48_v D uo po uc pc true hl1 hl2) rfl rfl SubRC.sub) (i64c (chkD_0 hg rfl))) ?_
 refine q_q _ rfl rfl rfl (v_assign rfl rfl) ?_
 refine q_nil ?_
 with_reducible refine r_then ?_
 refine r_seq ?_
 refine r_seq ?_
 refine r_region ?_
 refine o_q _ rfl rfl rfl (v_move rfl rfl) ?_
 refine o_q _ rfl rfl rfl (v_neq rfl rfl rfl) ?_
 refine o_nil ?_
 with_reducible refine r_then ?_
 refine r_condd rfl (fun hc21 => ?_) (fun hc21 => ?_)
 ·
  (exfalso; revert hc21; decide)
 ·
  refine r_skip ?_
  with_reducible refine r_then ?_
  refine r_seq ?_
  refine r_region ?_
  refine o_q _ rfl rfl rfl (v_assign rfl rfl) ?_
  refine o_nil ?_
  with_reducible refine r_then ?_
  refine r_seq ?_
  refine r_seq ?_
  refine r_region ?_
  refine o_q _ rfl rfl rfl (v_assign rfl rfl) ?_
  refine o_nil ?_
  with_reducible refine r_then ?_
  refine r_block ?_
  refine r_loop (ι := Nat) (fun k => k ≤ 2 ^ D.people.toNat) (fun k => [(1, i64 (dn : Int)), (2, i64 s), (3, pt b3 0), (10, i64 ((bestR (needN D dn) D.people.toNat s k) : Nat)), (11, i64 (k : Int))]) (fun k => bx b3 25 (cellsD D uo po uc pc) :: M) (fun k => [rowD uo 5 encD D.dues, rowD po 4 encP D.paid] ++ Rf) (fun k => 2 ^ D.people.toNat - k) 0 ?_ ?_ ?_
  ·
   exact r_here (by repeat (first | exact FSub.nil | refine FSub.cons rfl ?_ | refine FSub.cons2 rfl (by unfold bestR; rfl) ?_)) SelMC.sel SubRC.sub
  ·
   omega
  ·
   rintro k hI0
   refine r_seq ?_
   refine r_seq ?_
   refine r_region ?_
   refine o_q _ rfl rfl rfl (v_move rfl rfl) ?_
   refine o_q _ rfl rfl rfl (v_fieldAddr rfl Tryd.underlying25 inf3 rfl rfl rfl rfl) ?_
   refine o_q _ rfl rfl rfl (v_cast (v := i64 ((D.people.toNat : Nat) : Int)) (v_ld1 rfl Tryd.underlying3 rfl rfl rfl) (i64c (by omega))) ?_
   refine o_q _ rfl rfl rfl (OpQ.fn (pow_v D.people.toNat (by omega)) rfl rfl SubRC.sub) ?_
   refine o_q _ rfl rfl rfl (v_lss rfl rfl rfl) ?_
   refine o_nil ?_
   with_reducible refine r_then ?_
   refine r_condd rfl (fun hc27 => ?_) (fun hc27 => ?_)
   ·
    refine r_skip ?_
    with_reducible refine r_then ?_
    refine r_seq ?_
    refine r_block ?_
    refine r_seq ?_
    have hbl := bestR_le (f := (needN D dn)) (p := D.people.toNat) (s := s) k
    refine r_region ?_
    refine o_q _ rfl rfl rfl (v_move rfl rfl) ?_
    refine o_q _ rfl rfl rfl (OpQ.fn (size40_v k (by omega)) rfl rfl SubRC.sub) ?_
    refine o_q _ rfl rfl rfl (v_move rfl rfl) ?_
    refine o_q _ rfl rfl rfl (OpQ.fn (size40_v (bestR (needN D dn) D.people.toNat s k) (by omega)) rfl rfl SubRC.sub) ?_
    refine o_test rfl rfl rfl (v_gtr rfl rfl rfl) (fun h34 => ?_) (fun h34 => ?_)
    all_goals
     refine o_q _ rfl rfl rfl (v_move rfl rfl) ?_
     first | refine o_gn rfl rfl rfl rfl ?_ | refine o_g _ rfl rfl rfl rfl (v_ldW rfl Tryd.underlying25 rfl inf25 rfl rfl) ?_
     first | refine o_gn rfl rfl rfl rfl ?_ | refine o_g _ rfl rfl rfl rfl (v_move rfl rfl) ?_
     first | refine o_gn rfl rfl rfl rfl ?_ | refine o_g _ rfl rfl rfl rfl (v_move rfl rfl) ?_
     first | refine o_gn rfl rfl rfl rfl ?_ | refine o_g _ rfl rfl rfl rfl (OpQ.fn (needs65_v D uo po uc pc k dn (by omega) hg hdn) rfl rfl SubRC.sub) ?_
     first | refine o_gn rfl rfl rfl rfl ?_ | refine o_g _ rfl rfl rfl rfl (v_move rfl rfl) ?_
     first | refine o_gn rfl rfl rfl rfl ?_ | refine o_gtest rfl rfl rfl rfl (v_leq rfl rfl rfl) (fun h41 => ?_) (fun h41 => ?_)
     all_goals
      first | refine o_q _ rfl rfl rfl (v_pick_t rfl rfl rfl) ?_ | refine o_q _ rfl rfl rfl (v_pick_f rfl rfl rfl) ?_
      refine o_nil ?_
      with_reducible refine r_then ?_
      refine r_cond rfl (fun hc42 => ?_) (fun hc42 => ?_)
      ·
       first
       | (exfalso; revert hc42; decide)
       |
        skip
        refine r_region ?_
        refine o_q _ rfl rfl rfl (v_move rfl rfl) ?_
        refine o_q _ rfl rfl rfl (v_assign rfl rfl) ?_
        refine o_nil ?_
        with_reducible refine r_in_normal ?_; refine r_then ?_
        refine r_region ?_
        refine o_q _ rfl rfl rfl (v_move rfl rfl) ?_
        refine o_q _ rfl rfl rfl (v_add rfl rfl rfl (by omega)) ?_
        refine o_q _ rfl rfl rfl (v_assign rfl rfl) ?_
        refine o_nil ?_
        with_reducible refine r_then ?_
        refine r_next (k + 1) ?_ ?_ ?_
        ·
         exact r_here (by (repeat (first | exact FSub.nil | refine FSub.cons rfl ?_ | refine FSub.cons2 rfl (i64n (bestR_y (by omega) (by omega))) ?_ | refine FSub.cons2 rfl (i64n (bestR_n (by omega))) ?_)); first | done | fail) SelMC.sel SubRC.sub
        ·
         omega
        ·
         omega
      ·
       first
       | (exfalso; revert hc42; decide)
       |
        skip
        refine r_skip ?_
        with_reducible refine r_in_normal ?_; refine r_then ?_
        refine r_region ?_
        refine o_q _ rfl rfl rfl (v_move rfl rfl) ?_
        refine o_q _ rfl rfl rfl (v_add rfl rfl rfl (by omega)) ?_
        refine o_q _ rfl rfl rfl (v_assign rfl rfl) ?_
        refine o_nil ?_
        with_reducible refine r_then ?_
        refine r_next (k + 1) ?_ ?_ ?_
        ·
         exact r_here (by (repeat (first | exact FSub.nil | refine FSub.cons rfl ?_ | refine FSub.cons2 rfl (i64n (bestR_y (by omega) (by omega))) ?_ | refine FSub.cons2 rfl (i64n (bestR_n (by omega))) ?_)); first | done | fail) SelMC.sel SubRC.sub
        ·
         omega
        ·
         omega
   ·
    refine r_exit ?_
    with_reducible refine r_then_exit ?_; refine r_then_exit ?_; refine r_in_here ?_; refine r_then ?_
    refine r_seq ?_
    obtain rfl : k = 2 ^ D.people.toNat := by omega
    have hbl := bestR_le (f := (needN D dn)) (p := D.people.toNat) (s := s) (2 ^ D.people.toNat)
    refine r_region ?_
    refine o_q _ rfl rfl rfl (v_move rfl rfl) ?_
    refine o_q _ rfl rfl rfl (OpQ.fn (size40_v (bestR (needN D dn) D.people.toNat s (2 ^ D.people.toNat)) (by omega)) rfl rfl SubRC.sub) ?_
    refine o_q _ rfl rfl rfl (v_move rfl rfl) ?_
    refine o_q _ rfl rfl rfl (v_assign rfl rfl) ?_
    refine o_q _ rfl rfl rfl (v_assign rfl rfl) ?_
    refine o_q _ rfl rfl rfl (v_assign rfl rfl) ?_
    refine o_nil ?_
    with_reducible refine r_then ?_
    refine r_ret ?_
    exact r_retv2 (Rd.three rfl (RdI.tmp rfl) (RdI.tmp rfl) (RdI.tmp rfl)) (by rw [most_same hg hdn hs.1, mostB_ok hg hdn hs]; try rfl) SelMC.sel SubRC.sub
theorem most27_v (d s : Int) (hl1 : D.dues.length ≤ 40) (hl2 : D.paid.length ≤ 40) : FnV Tryd.prog 27 [valD D uo po uc pc, i64 d, i64 s] [rowD uo 5 encD D.dues, rowD po 4 encP D.paid] (.tuple #[i64 (mostB D d s).1.1, i64 (mostB D d s).1.2, i64 (mostB D d s).2]) := by
  by_cases hg : GoodD D
  · cases h1 : isDy d
    · exact most27_c D uo po uc pc d s hl1 hl2 hg h1
    · cases h2 : isSd s
      · exact most27_d D uo po uc pc d s hl1 hl2 hg h1 h2
      · exact most27_o D uo po uc pc d s hl1 hl2 hg h1 h2
  · cases h1 : isDy d
    · exact most27_a D uo po uc pc d s hl1 hl2 hg h1
    · exact most27_b D uo po uc pc d s hl1 hl2 hg h1
end Go.Proofs.YtpfgiednfjfdmaaDoor


namespace Go.Proofs.YtpfgiednfjfdmaaDoor
open Go.G Debt10
set_option maxRecDepth 1000000
attribute [local irreducible] G.ParO G.Fin
variable (D : Debt) (uo po : Option Addr) (uc pc : Nat)
attribute [local irreducible] leftT aheadT gradeS setT needT mostS pop sumM openK bestR sumT worstA
theorem worst_end {D : Debt} {k dk : Nat} (h : (D.paid.getD k default).day = dk) : (endA D 1 (D.paid.getD k default).who dk).2 = worstA D k := by
  rw [end_acc]
  unfold worstA
  rw [h, Int.toNat_natCast]; rfl
set_option maxHeartbeats 4000000 in
theorem rule66_v (k : Nat) (hk : k < D.paid.length) (hg : GoodD D) (hl1 : D.dues.length ≤ 40) (hl2 : D.paid.length ≤ 40) : FnV Tryd.prog 66 [valD D uo po uc pc, i64 (k : Int)] [rowD uo 5 encD D.dues, rowD po 4 encP D.paid] (i64 (ruleP D k)) := by
 have hp1 := hg.np
 have hp2 := hg.nd
 have hp3 := hg.ny
 refine FnV.intro Tryd.call66 Tryd.func66 rfl Tryd.ntmps66 rfl ?_
 intro W M Rf
 refine r_seq ?_
 refine r_region ?_
 refine o_boxA rfl rfl rfl rfl rfl (fun b2 => ?_)
 refine o_q _ rfl rfl rfl (v_assign rfl rfl) ?_
 refine o_nil ?_
 with_reducible refine r_then ?_
 refine r_seq ?_
 refine r_region ?_
 refine o_q _ rfl rfl rfl (v_fieldAddr rfl Tryd.underlying25 inf23 rfl rfl rfl rfl) ?_
 refine o_q _ rfl rfl rfl (v_ld1 rfl Tryd.underlying23 rfl rfl rfl) ?_
 refine o_q _ rfl rfl rfl (v_move rfl rfl) ?_
 refine o_q _ rfl rfl rfl (v_indexAddrSn rfl Tryd.underlying23 inf54 rfl rfl rfl (by omega) rfl) ?_
 refine o_q _ rfl rfl rfl (v_loadEN (us := encP (D.paid.getD k default)) rfl Tryd.underlying54 rfl inf54 rfl (by omega) rfl rfl rfl) ?_
 refine o_alloc rfl inf54 rfl rfl rfl rfl rfl (fun b5 => ?_)
 refine o_st rfl inf54 rfl rfl rfl rfl rfl rfl rfl rfl ?_
 refine o_nil ?_
 with_reducible refine r_then ?_
 refine r_seq ?_
 refine r_seq ?_
 refine Imp.box_to b5 (encP (D.paid.getD k default)) rfl ?_
 have hok := hg.paid k hk
 unfold PaidOk SodsOk at hok
 obtain ⟨dk, hdk⟩ : ∃ n : Nat, (D.paid.getD k default).day = n := ⟨(D.paid.getD k default).day.toNat, by omega⟩
 refine r_region ?_
 refine o_q _ rfl rfl rfl (v_assign rfl rfl) ?_
 refine o_nil ?_
 with_reducible refine r_then ?_
 refine r_block ?_
 refine r_loop (ι := Nat) (fun j => j ≤ k ∧ ¬ TwT D k j) (fun j => [(1, i64 (k : Int)), (2, pt b2 0), (5, pt b5 0), (6, i64 (j : Int))]) (fun j => bx b5 54 (encP (D.paid.getD k default)) :: bx b2 25 (cellsD D uo po uc pc) :: M) (fun j => [rowD uo 5 encD D.dues, rowD po 4 encP D.paid] ++ Rf) (fun j => k - j) 0 ?_ ?_ ?_
 ·
  exact r_here (by (repeat (first | exact FSub.nil | refine FSub.cons rfl ?_)); first | done | fail) SelMC.sel SubRC.sub
 ·
  exact ⟨Nat.zero_le _, TwT_0⟩
 ·
  rintro j hI0
  have hjl := hI0.1
  refine r_seq ?_
  refine r_seq ?_
  refine r_region ?_
  refine o_q _ rfl rfl rfl (v_move rfl rfl) ?_
  refine o_q _ rfl rfl rfl (v_move rfl rfl) ?_
  refine o_q _ rfl rfl rfl (v_lss rfl rfl rfl) ?_
  refine o_nil ?_
  with_reducible refine r_then ?_
  refine r_condd rfl (fun hc14 => ?_) (fun hc14 => ?_)
  ·
   refine r_skip ?_
   with_reducible refine r_then ?_
   refine r_seq ?_
   refine r_block ?_
   refine r_seq ?_
   refine r_region_q mixed (by kernel_rfl) ?_
   refine q_q _ rfl rfl rfl (v_fieldAddr rfl Tryd.underlying25 inf23 rfl rfl rfl rfl) ?_
   refine q_q _ rfl rfl rfl (v_ld1 rfl Tryd.underlying23 rfl rfl rfl) ?_
   refine q_q _ rfl rfl rfl (v_move rfl rfl) ?_
   refine q_q _ rfl rfl rfl (v_indexAddrSn rfl Tryd.underlying23 inf54 rfl rfl rfl (by omega) rfl) ?_
   refine q_q _ rfl rfl rfl (v_fieldAddr rfl Tryd.underlying54 inf3 rfl rfl rfl rfl) ?_
   refine q_q _ rfl rfl rfl (v_loadE1 (v := i64 (D.paid.getD j default).who) (j := 0) rfl Tryd.underlying3 rfl rfl (by omega) rfl rfl) ?_
   refine q_q _ rfl rfl rfl (v_fieldAddr rfl Tryd.underlying54 inf3 rfl rfl rfl rfl) ?_
   refine q_q _ rfl rfl rfl (v_ld1 rfl Tryd.underlying3 rfl rfl rfl) ?_
   refine q_test rfl rfl rfl (v_eql rfl rfl rfl) (fun h25 => ?_) (fun h25 => ?_)
   all_goals
    refine q_q _ rfl rfl rfl (v_move rfl rfl) ?_
    first | refine q_gn rfl rfl rfl rfl ?_ | refine q_g _ rfl rfl rfl rfl (v_fieldAddr rfl Tryd.underlying25 inf23 rfl rfl rfl rfl) ?_
    first | refine q_gn rfl rfl rfl rfl ?_ | refine q_g _ rfl rfl rfl rfl (v_ld1 rfl Tryd.underlying23 rfl rfl rfl) ?_
    first | refine q_gn rfl rfl rfl rfl ?_ | refine q_g _ rfl rfl rfl rfl (v_move rfl rfl) ?_
    first | refine q_gn rfl rfl rfl rfl ?_ | refine q_g _ rfl rfl rfl rfl (v_indexAddrSn rfl Tryd.underlying23 inf54 rfl rfl rfl (by omega) rfl) ?_
    first | refine q_gn rfl rfl rfl rfl ?_ | refine q_g _ rfl rfl rfl rfl (v_fieldAddr rfl Tryd.underlying54 inf3 rfl rfl rfl rfl) ?_
    first | refine q_gn rfl rfl rfl rfl ?_ | refine q_g _ rfl rfl rfl rfl (v_loadE1 (v := i64 (D.paid.getD j default).day) (j := 1) rfl Tryd.underlying3 rfl rfl (by omega) rfl rfl) ?_
    first | refine q_gn rfl rfl rfl rfl ?_ | refine q_g _ rfl rfl rfl rfl (v_fieldAddr rfl Tryd.underlying54 inf3 rfl rfl rfl rfl) ?_
    first | refine q_gn rfl rfl rfl rfl ?_ | refine q_g _ rfl rfl rfl rfl (v_ld1 rfl Tryd.underlying3 rfl rfl rfl) ?_
    first | refine q_gn rfl rfl rfl rfl ?_ | refine q_gtest rfl rfl rfl rfl (v_eql rfl rfl rfl) (fun h35 => ?_) (fun h35 => ?_)
    all_goals
     first | refine q_q _ rfl rfl rfl (v_pick_t rfl rfl rfl) ?_ | refine q_q _ rfl rfl rfl (v_pick_f rfl rfl rfl) ?_
     refine q_nil ?_
     with_reducible refine r_then ?_
     refine r_cond rfl (fun hc36 => ?_) (fun hc36 => ?_)
     ·
      first
      | (exfalso; revert hc36; decide)
      |
       skip
       refine r_seq ?_
       refine r_region ?_
       refine o_q _ rfl rfl rfl (v_assign rfl rfl) ?_
       refine o_nil ?_
       with_reducible refine r_then ?_
       refine r_ret ?_
       with_reducible refine r_in_ret ?_; refine r_then_ret ?_; refine r_then_ret ?_; refine r_in_ret ?_; refine r_then_ret ?_
       exact r_retv2 (Rd.tmp rfl rfl) (i64c (rule_1 (let ⟨i, h1, h2⟩ := TwT_s (D := D) (k := k) (j := j) (by omega) (by omega); ⟨i, by omega, h2⟩)).symm) SelMC.sel SubRC.sub
     ·
      first
      | (exfalso; revert hc36; decide)
      |
       skip
       refine r_skip ?_
       with_reducible refine r_in_normal ?_; refine r_then ?_
       refine r_region ?_
       refine o_q _ rfl rfl rfl (v_move rfl rfl) ?_
       refine o_q _ rfl rfl rfl (v_add rfl rfl rfl (by omega)) ?_
       refine o_q _ rfl rfl rfl (v_assign rfl rfl) ?_
       refine o_nil ?_
       with_reducible refine r_then ?_
       refine r_next (j + 1) ?_ ?_ ?_
       ·
        exact r_here (by (repeat (first | exact FSub.nil | refine FSub.cons rfl ?_)); first | done | fail) SelMC.sel SubRC.sub
       ·
        exact ⟨by omega, TwT_n hI0.2 (by omega)⟩
       ·
        omega
  ·
   refine r_exit ?_
   with_reducible refine r_then_exit ?_; refine r_then_exit ?_; refine r_in_here ?_; refine r_then ?_
   refine r_seq ?_
   refine r_seq ?_
   have hjk : j = k := by omega
   rw [hjk] at hI0
   have htw : ¬ TwT D k k := hI0.2
   have hwe : (endA D 1 (D.paid.getD k default).who dk).2 = worstA D k := worst_end hdk
   refine r_par' 10 mixed (by kernel_rfl) (by rfl) ?_
   refine p_q _ rfl rfl rfl (fun _ _ => v_ldW rfl Tryd.underlying25 rfl inf25 rfl rfl) ?_
   refine p_q _ rfl rfl rfl (fun _ _ => v_ldW rfl Tryd.underlying25 rfl inf25 rfl rfl) ?_
   refine p_fn (bad37_r D uo po uc pc hl1 hl2) rfl rfl rfl rfl rfl SubRC.sub ?_
   refine p_q _ rfl rfl rfl (fun _ _ => v_fieldAddr rfl Tryd.underlying54 inf3 rfl rfl rfl rfl) ?_
   refine p_q _ rfl rfl rfl (fun _ _ => v_ld1 rfl Tryd.underlying3 rfl rfl rfl) ?_
   refine p_q _ rfl rfl rfl (fun _ _ => v_fieldAddr rfl Tryd.underlying54 inf3 rfl rfl rfl rfl) ?_
   refine p_q _ rfl rfl rfl (fun _ _ => v_cast (v := i64 (dk : Int)) (v_ld1 rfl Tryd.underlying3 rfl rfl rfl) (i64c hdk)) ?_
   refine p_acc (by simp only [List.nil_append, List.cons_append]; rfl) ?_
   refine p_depN (valAc D.dues.length (4000 * ((dk : Int) + 1)) (endA D 1 (D.paid.getD k default).who dk).2) (resAc D.dues.length (endA D 1 (D.paid.getD k default).who dk).1) 2 rfl rfl rfl (by kernel_rfl) rfl rfl rfl (fun u hu => by obtain ⟨ao, ac, qo, qc, rfl⟩ := hu; exact LayR.mk (layAc (after_v D uo po uc pc (amT D 1) (paT D 1) ao qo ac qc hg (tru_end hg 1) (D.paid.getD k default).who dk (by omega))) rfl rfl (by show SubR ([rowD ao 1 encI (amT D 1), rowD qo 1 encI (paT D 1)] ++ _) _; exact SubRC.sub)) ?_
   refine p_acc (by simp only [List.nil_append, List.cons_append]; rfl) ?_
   refine p_dep (v := i64 (endA D 1 (D.paid.getD k default).who dk).2) 7 rfl rfl rfl (by kernel_rfl) rfl rfl rfl (fun u hu Mx Rx => by obtain ⟨⟨⟨gx, rx, wx⟩, hrx, hwx⟩, rfl⟩ := hu; exact v_field rfl Tryd.underlying81 Tryd.underlying3 inf3 rfl rfl rfl rfl) ?_
   refine p_q _ rfl rfl rfl (fun _ _ => v_gtr rfl rfl rfl) ?_
   refine p_nil2 (by simp only [List.nil_append, List.cons_append]; rfl) rfl ?_
   refine f_q rfl ?_
   refine f_q rfl ?_
   refine f_gf rfl (fun v39 hv39 => ?_)
   refine f_q rfl ?_
   refine f_q rfl ?_
   refine f_q rfl ?_
   refine f_q rfl ?_
   refine f_g rfl (fun v44 hv44 => ?_)
   obtain ⟨⟨⟨g44, r44, w44⟩, hr44, hw44⟩, rfl⟩ := hv44
   show Fin _ _ _ _ _ _ _ (bx g44 3 ((arrL (endA D 1 (D.paid.getD k default).who dk).1 D.dues.length).flatMap encI) :: _) _
   simp only [List.append_eq, List.nil_append]
   refine f_q rfl ?_
   refine f_q rfl ?_
   refine f_nil ?_
   refine o_nil ?_
   with_reducible refine r_then ?_
   refine r_condd rfl (fun hc46 => ?_) (fun hc46 => ?_)
   ·
    refine r_seq ?_
    refine r_region ?_
    refine o_q _ rfl rfl rfl (v_assign rfl rfl) ?_
    refine o_nil ?_
    with_reducible refine r_then ?_
    refine r_ret ?_
    with_reducible refine r_then_ret ?_
    exact r_retv2 (Rd.tmp rfl rfl) (i64c (rule_2 htw (by omega)).symm) SelMC.sel SubRC.sub
   ·
    refine r_skip ?_
    with_reducible refine r_then ?_
    refine r_seq ?_
    refine r_region ?_
    refine o_q _ rfl rfl rfl (v_assign rfl rfl) ?_
    refine o_nil ?_
    with_reducible refine r_then ?_
    refine r_ret ?_
    exact r_retv2 (Rd.tmp rfl rfl) (i64c (rule_0 htw (by omega)).symm) SelMC.sel SubRC.sub
set_option maxHeartbeats 4000000 in
theorem check29_a (hl1 : D.dues.length ≤ 40) (hl2 : D.paid.length ≤ 40) (hng : ¬ GoodD D) : FnV Tryd.prog 29 [valD D uo po uc pc] [rowD uo 5 encD D.dues, rowD po 4 encP D.paid] (.tuple #[i64 (checkB D).1.1, i64 (checkB D).1.2, i64 (checkB D).2]) := by
 refine FnV.intro Tryd.call29 Tryd.func29 rfl Tryd.ntmps29 rfl ?_
 intro W M Rf
 refine r_seq ?_
 refine r_region ?_
 refine o_boxA rfl rfl rfl rfl rfl (fun b1 => ?_)
 refine o_q _ rfl rfl rfl (v_assign rfl rfl) ?_
 refine o_q _ rfl rfl rfl (v_assign rfl rfl) ?_
 refine o_q _ rfl rfl rfl (v_assign rfl rfl) ?_
 refine o_nil ?_
 with_reducible refine r_then ?_
 refine r_seq ?_
 refine r_region ?_
 refine o_q _ rfl rfl rfl (v_ldW rfl Tryd.underlying25 rfl inf25 rfl rfl) ?_
 refine o_q _ rfl rfl rfl (v_cast (v := i64 1) (OpQ.fn (check48_v D uo po uc pc true hl1 hl2) rfl rfl SubRC.sub) (i64c (chkD_1 hng))) ?_
 refine o_q _ rfl rfl rfl (v_assign rfl rfl) ?_
 refine o_nil ?_
 with_reducible refine r_then ?_
 refine r_seq ?_
 refine r_seq ?_
 refine r_region ?_
 refine o_q _ rfl rfl rfl (v_move rfl rfl) ?_
 refine o_q _ rfl rfl rfl (v_neq rfl rfl rfl) ?_
 refine o_nil ?_
 with_reducible refine r_then ?_
 refine r_condd rfl (fun hc11 => ?_) (fun hc11 => ?_)
 ·
  refine r_seq ?_
  refine r_region ?_
  refine o_q _ rfl rfl rfl (v_move rfl rfl) ?_
  refine o_q _ rfl rfl rfl (v_assign rfl rfl) ?_
  refine o_q _ rfl rfl rfl (v_assign rfl rfl) ?_
  refine o_q _ rfl rfl rfl (v_assign rfl rfl) ?_
  refine o_nil ?_
  with_reducible refine r_then ?_
  refine r_ret ?_
  with_reducible refine r_then_ret ?_
  exact r_retv2 (Rd.three rfl (RdI.tmp rfl) (RdI.tmp rfl) (RdI.tmp rfl)) (by unfold checkB; rw [if_neg hng]; try rfl) SelMC.sel SubRC.sub
 ·
  (exfalso; revert hc11; decide)
set_option maxHeartbeats 4000000 in
theorem check29_o (hl1 : D.dues.length ≤ 40) (hl2 : D.paid.length ≤ 40) (hg : GoodD D) : FnV Tryd.prog 29 [valD D uo po uc pc] [rowD uo 5 encD D.dues, rowD po 4 encP D.paid] (.tuple #[i64 (checkB D).1.1, i64 (checkB D).1.2, i64 (checkB D).2]) := by
 have hp1 := hg.np
 have hp2 := hg.nd
 have hp3 := hg.ny
 refine FnV.intro Tryd.call29 Tryd.func29 rfl Tryd.ntmps29 rfl ?_
 intro W M Rf
 refine r_seq ?_
 refine r_region ?_
 refine o_boxA rfl rfl rfl rfl rfl (fun b1 => ?_)
 refine o_q _ rfl rfl rfl (v_assign rfl rfl) ?_
 refine o_q _ rfl rfl rfl (v_assign rfl rfl) ?_
 refine o_q _ rfl rfl rfl (v_assign rfl rfl) ?_
 refine o_nil ?_
 with_reducible refine r_then ?_
 refine r_seq ?_
 refine r_region ?_
 refine o_q _ rfl rfl rfl (v_ldW rfl Tryd.underlying25 rfl inf25 rfl rfl) ?_
 refine o_q _ rfl rfl rfl (v_cast (v := i64 0) (OpQ.fn (check48_v D uo po uc pc true hl1 hl2) rfl rfl SubRC.sub) (i64c (chkD_0 hg rfl))) ?_
 refine o_q _ rfl rfl rfl (v_assign rfl rfl) ?_
 refine o_nil ?_
 with_reducible refine r_then ?_
 refine r_seq ?_
 refine r_seq ?_
 refine r_region ?_
 refine o_q _ rfl rfl rfl (v_move rfl rfl) ?_
 refine o_q _ rfl rfl rfl (v_neq rfl rfl rfl) ?_
 refine o_nil ?_
 with_reducible refine r_then ?_
 refine r_condd rfl (fun hc11 => ?_) (fun hc11 => ?_)
 ·
  (exfalso; revert hc11; decide)
 ·
  refine r_skip ?_
  with_reducible refine r_then ?_
  refine r_seq ?_
  refine r_seq ?_
  refine r_region ?_
  refine o_q _ rfl rfl rfl (v_assign rfl rfl) ?_
  refine o_nil ?_
  with_reducible refine r_then ?_
  refine r_block ?_
  refine r_loop (ι := Nat) (fun k => k ≤ D.paid.length ∧ firstR D k = none) (fun k => [(1, pt b1 0), (6, i64 (k : Int))]) (fun k => bx b1 25 (cellsD D uo po uc pc) :: M) (fun k => [rowD uo 5 encD D.dues, rowD po 4 encP D.paid] ++ Rf) (fun k => D.paid.length - k) 0 ?_ ?_ ?_
  ·
   exact r_here (by (repeat (first | exact FSub.nil | refine FSub.cons rfl ?_)); first | done | fail) SelMC.sel SubRC.sub
  ·
   exact ⟨Nat.zero_le _, rfl⟩
  ·
   rintro k hI0
   have hkl := hI0.1
   refine r_seq ?_
   refine r_seq ?_
   refine r_region ?_
   refine o_q _ rfl rfl rfl (v_move rfl rfl) ?_
   refine o_q _ rfl rfl rfl (v_fieldAddr rfl Tryd.underlying25 inf23 rfl rfl rfl rfl) ?_
   refine o_q _ rfl rfl rfl (v_ld1 rfl Tryd.underlying23 rfl rfl rfl) ?_
   refine o_q _ rfl rfl rfl (v_len rfl rfl Tryd.underlying23 rfl) ?_
   refine o_q _ rfl rfl rfl (v_lss rfl rfl rfl) ?_
   refine o_nil ?_
   with_reducible refine r_then ?_
   refine r_condd rfl (fun hc17 => ?_) (fun hc17 => ?_)
   ·
    refine r_skip ?_
    with_reducible refine r_then ?_
    refine r_seq ?_
    refine r_block ?_
    refine r_seq ?_
    refine r_region ?_
    refine o_q _ rfl rfl rfl (v_ldW rfl Tryd.underlying25 rfl inf25 rfl rfl) ?_
    refine o_q _ rfl rfl rfl (v_move rfl rfl) ?_
    refine o_q _ rfl rfl rfl (OpQ.fn (rule66_v D uo po uc pc k (by omega) hg hl1 hl2) rfl rfl SubRC.sub) ?_
    refine o_q _ rfl rfl rfl (v_assign rfl rfl) ?_
    refine o_nil ?_
    with_reducible refine r_then ?_
    refine r_seq ?_
    refine r_region ?_
    refine o_q _ rfl rfl rfl (v_move rfl rfl) ?_
    refine o_q _ rfl rfl rfl (v_neq rfl rfl rfl) ?_
    refine o_nil ?_
    with_reducible refine r_then ?_
    refine r_condd rfl (fun hc24 => ?_) (fun hc24 => ?_)
    ·
     refine r_seq ?_
     refine r_region ?_
     refine o_q _ rfl rfl rfl (v_move rfl rfl) ?_
     refine o_q _ rfl rfl rfl (v_move rfl rfl) ?_
     refine o_q _ rfl rfl rfl (v_assign rfl rfl) ?_
     refine o_q _ rfl rfl rfl (v_assign rfl rfl) ?_
     refine o_q _ rfl rfl rfl (v_assign rfl rfl) ?_
     refine o_nil ?_
     with_reducible refine r_then ?_
     refine r_ret ?_
     with_reducible refine r_in_ret ?_; refine r_then_ret ?_; refine r_then_ret ?_; refine r_in_ret ?_; refine r_then_ret ?_
     exact r_retv2 (Rd.three rfl (RdI.tmp rfl) (RdI.tmp rfl) (RdI.tmp rfl)) (by rw [check_hit hg hI0.2 (by omega) (by omega)]; try rfl) SelMC.sel SubRC.sub
    ·
     refine r_skip ?_
     with_reducible refine r_in_normal ?_; refine r_then ?_
     refine r_region ?_
     refine o_q _ rfl rfl rfl (v_move rfl rfl) ?_
     refine o_q _ rfl rfl rfl (v_add rfl rfl rfl (by omega)) ?_
     refine o_q _ rfl rfl rfl (v_assign rfl rfl) ?_
     refine o_nil ?_
     with_reducible refine r_then ?_
     refine r_next (k + 1) ?_ ?_ ?_
     ·
      exact r_here (by (repeat (first | exact FSub.nil | refine FSub.cons rfl ?_)); first | done | fail) SelMC.sel SubRC.sub
     ·
      exact ⟨by omega, firstR_n hI0.2 (by omega)⟩
     ·
      omega
   ·
    refine r_exit ?_
    with_reducible refine r_then_exit ?_; refine r_then_exit ?_; refine r_in_here ?_; refine r_then ?_
    refine r_seq ?_
    have hkn : k = D.paid.length := by omega
    rw [hkn] at hI0
    refine r_region ?_
    refine o_q _ rfl rfl rfl (v_assign rfl rfl) ?_
    refine o_q _ rfl rfl rfl (v_assign rfl rfl) ?_
    refine o_q _ rfl rfl rfl (v_assign rfl rfl) ?_
    refine o_nil ?_
    with_reducible refine r_then ?_
    refine r_ret ?_
    exact r_retv2 (Rd.three rfl (RdI.tmp rfl) (RdI.tmp rfl) (RdI.tmp rfl)) (by rw [check_none hg hI0.2]; try rfl) SelMC.sel SubRC.sub
theorem check29_v (hl1 : D.dues.length ≤ 40) (hl2 : D.paid.length ≤ 40) : FnV Tryd.prog 29 [valD D uo po uc pc] [rowD uo 5 encD D.dues, rowD po 4 encP D.paid] (.tuple #[i64 (checkB D).1.1, i64 (checkB D).1.2, i64 (checkB D).2]) := by
  by_cases hg : GoodD D
  · exact check29_o D uo po uc pc hl1 hl2 hg
  · exact check29_a D uo po uc pc hl1 hl2 hg
attribute [local irreducible] sumB mostB checkB
set_option maxHeartbeats 4000000 in
theorem looks_far (d s : Int) (hf : farD D) : FnV Tryd.prog 4 [valD D uo po uc pc, i64 d, i64 s] [rowD uo 5 encD D.dues, rowD po 4 encP D.paid, rowD (some ⟨0, 0, none⟩) 1 encE ([0, 1] : List Nat)] (.bool true) := by
 refine FnV.intro Tryd.call4 Tryd.func4 rfl Tryd.ntmps4 rfl ?_
 intro W M Rf
 refine r_seq ?_
 refine r_region ?_
 refine o_boxA rfl rfl rfl rfl rfl (fun b3 => ?_)
 refine o_q _ rfl rfl rfl (v_assign rfl rfl) ?_
 refine o_nil ?_
 with_reducible refine r_then ?_
 refine r_seq ?_
 refine r_seq ?_
 refine r_region ?_
 refine o_q _ rfl rfl rfl (v_ldW rfl Tryd.underlying25 rfl inf25 rfl rfl) ?_
 refine o_q _ rfl rfl rfl (v_cast (v := .bool true) (OpQ.fn (far_v D uo po uc pc) rfl rfl SubRC.sub) (congrArg Value.bool (decide_eq_true hf))) ?_
 refine o_nil ?_
 with_reducible refine r_then ?_
 refine r_cond rfl (fun hc24 => ?_) (fun hc24 => ?_)
 ·
  refine r_seq ?_
  refine r_region ?_
  refine o_q _ rfl rfl rfl (OpQ.fn awake_v rfl rfl SubRC.sub) ?_
  refine o_q _ rfl rfl rfl (v_assign rfl rfl) ?_
  refine o_nil ?_
  with_reducible refine r_then ?_
  refine r_ret ?_
  with_reducible refine r_then_ret ?_
  exact r_retv2 (Rd.tmp rfl rfl) rfl SelMC.sel SubRC.sub
 ·
  (exfalso; revert hc24; decide)
set_option maxHeartbeats 4000000 in
theorem looks_ok (d s : Int) (hf : ¬ farD D) : FnV Tryd.prog 4 [valD D uo po uc pc, i64 d, i64 s] [rowD uo 5 encD D.dues, rowD po 4 encP D.paid, rowD (some ⟨0, 0, none⟩) 1 encE ([0, 1] : List Nat)] (.bool true) := by
 have hf2 := hf
 unfold farD at hf2
 have hl1 : D.dues.length ≤ 40 := by omega
 have hl2 : D.paid.length ≤ 40 := by omega
 refine FnV.intro Tryd.call4 Tryd.func4 rfl Tryd.ntmps4 rfl ?_
 intro W M Rf
 refine r_seq ?_
 refine r_region ?_
 refine o_boxA rfl rfl rfl rfl rfl (fun b3 => ?_)
 refine o_q _ rfl rfl rfl (v_assign rfl rfl) ?_
 refine o_nil ?_
 with_reducible refine r_then ?_
 refine r_seq ?_
 refine r_seq ?_
 refine r_region ?_
 refine o_q _ rfl rfl rfl (v_ldW rfl Tryd.underlying25 rfl inf25 rfl rfl) ?_
 refine o_q _ rfl rfl rfl (v_cast (v := .bool false) (OpQ.fn (far_v D uo po uc pc) rfl rfl SubRC.sub) (congrArg Value.bool (decide_eq_false hf))) ?_
 refine o_nil ?_
 with_reducible refine r_then ?_
 refine r_cond rfl (fun hc24 => ?_) (fun hc24 => ?_)
 ·
  (exfalso; revert hc24; decide)
 ·
  refine r_skip ?_
  with_reducible refine r_then ?_
  refine r_seq ?_
  refine r_region ?_
  refine o_q _ rfl rfl rfl (v_ldW rfl Tryd.underlying25 rfl inf25 rfl rfl) ?_
  refine o_q _ rfl rfl rfl (v_move rfl rfl) ?_
  refine o_q _ rfl rfl rfl (OpQ.fn (sum24_v D uo po uc pc d hl1 hl2) rfl rfl SubRC.sub) ?_
  refine o_q _ rfl rfl rfl (v_move rfl rfl) ?_
  refine o_q _ rfl rfl rfl (v_extract rfl rfl rfl) ?_
  refine o_q _ rfl rfl rfl (v_extract rfl rfl rfl) ?_
  refine o_alloc rfl inf29 rfl rfl rfl rfl rfl (fun b7 => ?_)
  refine o_st rfl inf29 rfl rfl rfl rfl rfl rfl rfl rfl ?_
  refine o_q _ rfl rfl rfl (v_assign rfl rfl) ?_
  refine o_nil ?_
  with_reducible refine r_then ?_
  refine r_seq ?_
  refine r_region ?_
  refine o_q _ rfl rfl rfl (v_ldW rfl Tryd.underlying25 rfl inf25 rfl rfl) ?_
  refine o_q _ rfl rfl rfl (v_move rfl rfl) ?_
  refine o_q _ rfl rfl rfl (OpQ.fn (sum25_v D uo po uc pc d hl1 hl2) rfl rfl SubRC.sub) ?_
  refine o_q _ rfl rfl rfl (v_move rfl rfl) ?_
  refine o_q _ rfl rfl rfl (v_extract rfl rfl rfl) ?_
  refine o_q _ rfl rfl rfl (v_extract rfl rfl rfl) ?_
  refine o_alloc rfl inf29 rfl rfl rfl rfl rfl (fun b9 => ?_)
  refine o_st rfl inf29 rfl rfl rfl rfl rfl rfl rfl rfl ?_
  refine o_q _ rfl rfl rfl (v_assign rfl rfl) ?_
  refine o_nil ?_
  with_reducible refine r_then ?_
  refine r_seq ?_
  refine r_region ?_
  refine o_q _ rfl rfl rfl (v_ldW rfl Tryd.underlying25 rfl inf25 rfl rfl) ?_
  refine o_q _ rfl rfl rfl (v_move rfl rfl) ?_
  refine o_q _ rfl rfl rfl (v_move rfl rfl) ?_
  refine o_q _ rfl rfl rfl (OpQ.fn (most26_v D uo po uc pc d s hl1 hl2) rfl rfl SubRC.sub) ?_
  refine o_q _ rfl rfl rfl (v_move rfl rfl) ?_
  refine o_q _ rfl rfl rfl (v_extract rfl rfl rfl) ?_
  refine o_q _ rfl rfl rfl (v_extract rfl rfl rfl) ?_
  refine o_q _ rfl rfl rfl (v_extract rfl rfl rfl) ?_
  refine o_q _ rfl rfl rfl (v_assign rfl rfl) ?_
  refine o_q _ rfl rfl rfl (v_assign rfl rfl) ?_
  refine o_q _ rfl rfl rfl (v_assign rfl rfl) ?_
  refine o_nil ?_
  with_reducible refine r_then ?_
  refine r_seq ?_
  refine r_region ?_
  refine o_q _ rfl rfl rfl (v_ldW rfl Tryd.underlying25 rfl inf25 rfl rfl) ?_
  refine o_q _ rfl rfl rfl (v_move rfl rfl) ?_
  refine o_q _ rfl rfl rfl (v_move rfl rfl) ?_
  refine o_q _ rfl rfl rfl (OpQ.fn (most27_v D uo po uc pc d s hl1 hl2) rfl rfl SubRC.sub) ?_
  refine o_q _ rfl rfl rfl (v_move rfl rfl) ?_
  refine o_q _ rfl rfl rfl (v_extract rfl rfl rfl) ?_
  refine o_q _ rfl rfl rfl (v_extract rfl rfl rfl) ?_
  refine o_q _ rfl rfl rfl (v_extract rfl rfl rfl) ?_
  refine o_q _ rfl rfl rfl (v_assign rfl rfl) ?_
  refine o_q _ rfl rfl rfl (v_assign rfl rfl) ?_
  refine o_q _ rfl rfl rfl (v_assign rfl rfl) ?_
  refine o_nil ?_
  with_reducible refine r_then ?_
  refine r_seq ?_
  refine r_region ?_
  refine o_q _ rfl rfl rfl (v_ldW rfl Tryd.underlying25 rfl inf25 rfl rfl) ?_
  refine o_q _ rfl rfl rfl (OpQ.fn (check28_v D uo po uc pc  hl1 hl2) rfl rfl SubRC.sub) ?_
  refine o_q _ rfl rfl rfl (v_move rfl rfl) ?_
  refine o_q _ rfl rfl rfl (v_extract rfl rfl rfl) ?_
  refine o_q _ rfl rfl rfl (v_extract rfl rfl rfl) ?_
  refine o_q _ rfl rfl rfl (v_extract rfl rfl rfl) ?_
  refine o_q _ rfl rfl rfl (v_assign rfl rfl) ?_
  refine o_q _ rfl rfl rfl (v_assign rfl rfl) ?_
  refine o_q _ rfl rfl rfl (v_assign rfl rfl) ?_
  refine o_nil ?_
  with_reducible refine r_then ?_
  refine r_seq ?_
  refine r_region ?_
  refine o_q _ rfl rfl rfl (v_ldW rfl Tryd.underlying25 rfl inf25 rfl rfl) ?_
  refine o_q _ rfl rfl rfl (OpQ.fn (check29_v D uo po uc pc  hl1 hl2) rfl rfl SubRC.sub) ?_
  refine o_q _ rfl rfl rfl (v_move rfl rfl) ?_
  refine o_q _ rfl rfl rfl (v_extract rfl rfl rfl) ?_
  refine o_q _ rfl rfl rfl (v_extract rfl rfl rfl) ?_
  refine o_q _ rfl rfl rfl (v_extract rfl rfl rfl) ?_
  refine o_q _ rfl rfl rfl (v_assign rfl rfl) ?_
  refine o_q _ rfl rfl rfl (v_assign rfl rfl) ?_
  refine o_q _ rfl rfl rfl (v_assign rfl rfl) ?_
  refine o_nil ?_
  with_reducible refine r_then ?_
  refine r_seq ?_
  refine Imp.box_to b7 [i64 (sumB D d).1.lo, i64 (sumB D d).1.hi] rfl ?_
  refine Imp.box_to b9 [i64 (sumB D d).1.lo, i64 (sumB D d).1.hi] rfl ?_
  refine r_region ?_
  refine o_q _ rfl rfl rfl (v_ldW rfl Tryd.underlying29 rfl inf29 rfl rfl) ?_
  refine o_q _ rfl rfl rfl (v_ldW rfl Tryd.underlying29 rfl inf29 rfl rfl) ?_
  refine o_q _ rfl rfl rfl (v_cast (v := .bool true) (v_eqP rfl rfl rfl guard29 (eq29 _ _ _ _)) (congrArg Value.bool (decide_eq_true rfl))) ?_
  refine o_q _ rfl rfl rfl (v_move rfl rfl) ?_
  refine o_g _ rfl rfl rfl rfl (v_move rfl rfl) ?_
  refine o_g _ rfl rfl rfl rfl (v_move rfl rfl) ?_
  refine o_g _ rfl rfl rfl rfl (v_cast (v := .bool true) (v_eql rfl rfl rfl) (congrArg Value.bool (decide_eq_true rfl))) ?_
  refine o_q _ rfl rfl rfl (v_pick_t rfl rfl rfl) ?_
  refine o_q _ rfl rfl rfl (v_move rfl rfl) ?_
  refine o_g _ rfl rfl rfl rfl (v_move rfl rfl) ?_
  refine o_g _ rfl rfl rfl rfl (v_move rfl rfl) ?_
  refine o_g _ rfl rfl rfl rfl (v_cast (v := .bool true) (v_eql rfl rfl rfl) (congrArg Value.bool (decide_eq_true rfl))) ?_
  refine o_q _ rfl rfl rfl (v_pick_t rfl rfl rfl) ?_
  refine o_q _ rfl rfl rfl (v_move rfl rfl) ?_
  refine o_g _ rfl rfl rfl rfl (v_move rfl rfl) ?_
  refine o_g _ rfl rfl rfl rfl (v_move rfl rfl) ?_
  refine o_g _ rfl rfl rfl rfl (v_cast (v := .bool true) (v_eql rfl rfl rfl) (congrArg Value.bool (decide_eq_true rfl))) ?_
  refine o_q _ rfl rfl rfl (v_pick_t rfl rfl rfl) ?_
  refine o_q _ rfl rfl rfl (v_move rfl rfl) ?_
  refine o_g _ rfl rfl rfl rfl (v_move rfl rfl) ?_
  refine o_g _ rfl rfl rfl rfl (v_move rfl rfl) ?_
  refine o_g _ rfl rfl rfl rfl (v_cast (v := .bool true) (v_eql rfl rfl rfl) (congrArg Value.bool (decide_eq_true rfl))) ?_
  refine o_q _ rfl rfl rfl (v_pick_t rfl rfl rfl) ?_
  refine o_q _ rfl rfl rfl (v_move rfl rfl) ?_
  refine o_g _ rfl rfl rfl rfl (v_move rfl rfl) ?_
  refine o_g _ rfl rfl rfl rfl (v_move rfl rfl) ?_
  refine o_g _ rfl rfl rfl rfl (v_cast (v := .bool true) (v_eql rfl rfl rfl) (congrArg Value.bool (decide_eq_true rfl))) ?_
  refine o_q _ rfl rfl rfl (v_pick_t rfl rfl rfl) ?_
  refine o_q _ rfl rfl rfl (v_move rfl rfl) ?_
  refine o_g _ rfl rfl rfl rfl (v_move rfl rfl) ?_
  refine o_g _ rfl rfl rfl rfl (v_move rfl rfl) ?_
  refine o_g _ rfl rfl rfl rfl (v_cast (v := .bool true) (v_eql rfl rfl rfl) (congrArg Value.bool (decide_eq_true rfl))) ?_
  refine o_q _ rfl rfl rfl (v_pick_t rfl rfl rfl) ?_
  refine o_q _ rfl rfl rfl (v_move rfl rfl) ?_
  refine o_g _ rfl rfl rfl rfl (v_move rfl rfl) ?_
  refine o_g _ rfl rfl rfl rfl (v_move rfl rfl) ?_
  refine o_g _ rfl rfl rfl rfl (v_cast (v := .bool true) (v_eql rfl rfl rfl) (congrArg Value.bool (decide_eq_true rfl))) ?_
  refine o_q _ rfl rfl rfl (v_pick_t rfl rfl rfl) ?_
  refine o_q _ rfl rfl rfl (v_move rfl rfl) ?_
  refine o_g _ rfl rfl rfl rfl (OpQ.fn awake_v rfl rfl SubRC.sub) ?_
  refine o_q _ rfl rfl rfl (v_pick_t rfl rfl rfl) ?_
  refine o_q _ rfl rfl rfl (v_assign rfl rfl) ?_
  refine o_nil ?_
  with_reducible refine r_then ?_
  refine r_ret ?_
  exact r_retv2 (Rd.tmp rfl rfl) rfl SelMC.sel SubRC.sub
theorem looks_v (d s : Int) : FnV Tryd.prog 4 [valD D uo po uc pc, i64 d, i64 s] [rowD uo 5 encD D.dues, rowD po 4 encP D.paid, rowD (some ⟨0, 0, none⟩) 1 encE ([0, 1] : List Nat)] (.bool true) := by
  by_cases h : farD D
  · exact looks_far D uo po uc pc d s h
  · exact looks_ok D uo po uc pc d s h
end Go.Proofs.YtpfgiednfjfdmaaDoor

