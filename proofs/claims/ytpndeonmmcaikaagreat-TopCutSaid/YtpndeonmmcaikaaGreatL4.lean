/- Part 4 of 6 of what the proofs of this seat stand on: a small logic for walks, what the functions come to, and the walks themselves. No condition of its own. -/
import Derived.Test.YtpndeonmmcaikaaGreatL3
import Derived.Test.YtpndeonmmcaikaaGreatL1
import Derived.Test.YtpndeonmmcaikaaGreatL2
import Derived.Deep.Slices
import Derived.ProofKit
import Derived.OpenShut
set_option linter.unusedVariables false
set_option linter.unusedSimpArgs false
set_option linter.unusedSectionVars false
namespace Go.Proofs.YtpndeonmmcaikaaGreat.BurstW
open Go.G Burst8
set_option maxRecDepth 1000000
attribute [local irreducible] G.ParO G.Fin
attribute [local irreducible] fw fwR fwC emptyT tabOf knownT canB boundsL
variable (B : Bog) (bo ro so : Option Addr) (bc rc sc : Nat) (bb mb : Nat)
set_option maxHeartbeats 4000000 in
theorem rin_v (a b c : Int) : FnV Tryz.prog 64 [i64 a, i64 b, i64 c] [] (.bool (decide (b ≤ a ∧ a ≤ c))) := by
 refine FnV.intro Tryz.call64 Tryz.func64 rfl Tryz.ntmps64 rfl ?_; intro W M Rf; refine r_seq (r_region ?_); refine q_as rfl rfl rfl rfl rfl ?_; refine o_nil (r_then (r_seq (r_region ?_))); refine q_mv rfl rfl rfl rfl rfl ?_; refine q_mv rfl rfl rfl rfl rfl ?_; refine o_test rfl rfl rfl (v_leq rfl rfl rfl) (fun h9 => ?_) (fun h9 => ?_)
 all_goals
  refine q_mv rfl rfl rfl rfl rfl ?_
  first | refine o_gn rfl rfl rfl rfl ?_ | refine o_g _ rfl rfl rfl rfl (v_move rfl rfl) ?_
  first | refine o_gn rfl rfl rfl rfl ?_ | refine o_g _ rfl rfl rfl rfl (v_move rfl rfl) ?_
  first | refine o_gn rfl rfl rfl rfl ?_ | refine o_gtest rfl rfl rfl rfl (v_leq rfl rfl rfl) (fun h13 => ?_) (fun h13 => ?_)
  all_goals
   first | refine o_q _ rfl rfl rfl (v_pick_t rfl rfl rfl) ?_ | refine o_q _ rfl rfl rfl (v_pick_f rfl rfl rfl) ?_
   refine q_as rfl rfl rfl rfl rfl ?_; refine o_nil (r_then ?_); refine r_ret ?_
   first | exact r_retv2 (Rd.tmp rfl rfl) (congrArg Value.bool (decide_eq_true (by omega)).symm) SelMC.sel SubRC.sub | exact r_retv2 (Rd.tmp rfl rfl) (congrArg Value.bool (decide_eq_false (by omega)).symm) SelMC.sel SubRC.sub
set_option maxHeartbeats 4000000 in
theorem rspan_v (lo hi a b : Int) : FnV Tryz.prog 65 [.agg #[i64 lo, i64 hi], i64 a, i64 b] [] (.bool (decide (a ≤ lo ∧ lo ≤ hi ∧ hi ≤ b))) := by
 refine FnV.intro Tryz.call65 Tryz.func65 rfl Tryz.ntmps65 rfl ?_; intro W M Rf; refine r_seq (r_region ?_); refine o_boxA rfl rfl rfl rfl rfl (fun b3 => ?_); refine q_as rfl rfl rfl rfl rfl ?_; refine o_nil (r_then (r_seq (r_region ?_))); refine q_mv rfl rfl rfl rfl rfl ?_; refine o_q _ rfl rfl rfl (v_fieldAddr rfl Tryz.underlying43 inf3 rfl rfl rfl rfl) ?_; refine o_q _ rfl rfl rfl (v_ld1 rfl Tryz.underlying3 rfl rfl rfl) ?_; refine o_test rfl rfl rfl (v_leq rfl rfl rfl) (fun h10 => ?_) (fun h10 => ?_)
 all_goals
  refine q_mv rfl rfl rfl rfl rfl ?_
  first | refine o_gn rfl rfl rfl rfl ?_ | refine o_g _ rfl rfl rfl rfl (v_fieldAddr rfl Tryz.underlying43 inf3 rfl rfl rfl rfl) ?_
  first | refine o_gn rfl rfl rfl rfl ?_ | refine o_g _ rfl rfl rfl rfl (v_ld1 rfl Tryz.underlying3 rfl rfl rfl) ?_
  first | refine o_gn rfl rfl rfl rfl ?_ | refine o_g _ rfl rfl rfl rfl (v_fieldAddr rfl Tryz.underlying43 inf3 rfl rfl rfl rfl) ?_
  first | refine o_gn rfl rfl rfl rfl ?_ | refine o_g _ rfl rfl rfl rfl (v_ld1 rfl Tryz.underlying3 rfl rfl rfl) ?_
  first | refine o_gn rfl rfl rfl rfl ?_ | refine o_gtest rfl rfl rfl rfl (v_leq rfl rfl rfl) (fun h16 => ?_) (fun h16 => ?_)
  all_goals
   first | refine o_q _ rfl rfl rfl (v_pick_t rfl rfl rfl) ?_ | refine o_q _ rfl rfl rfl (v_pick_f rfl rfl rfl) ?_
   refine q_mv rfl rfl rfl rfl rfl ?_
   first | refine o_gn rfl rfl rfl rfl ?_ | refine o_g _ rfl rfl rfl rfl (v_fieldAddr rfl Tryz.underlying43 inf3 rfl rfl rfl rfl) ?_
   first | refine o_gn rfl rfl rfl rfl ?_ | refine o_g _ rfl rfl rfl rfl (v_ld1 rfl Tryz.underlying3 rfl rfl rfl) ?_
   first | refine o_gn rfl rfl rfl rfl ?_ | refine o_g _ rfl rfl rfl rfl (v_move rfl rfl) ?_
   first | refine o_gn rfl rfl rfl rfl ?_ | refine o_gtest rfl rfl rfl rfl (v_leq rfl rfl rfl) (fun h22 => ?_) (fun h22 => ?_)
   all_goals
    first | refine o_q _ rfl rfl rfl (v_pick_t rfl rfl rfl) ?_ | refine o_q _ rfl rfl rfl (v_pick_f rfl rfl rfl) ?_
    refine q_as rfl rfl rfl rfl rfl ?_; refine o_nil (r_then ?_); refine r_ret ?_
    first | exact r_retv2 (Rd.tmp rfl rfl) (congrArg Value.bool (decide_eq_true (by omega)).symm) SelMC.sel SubRC.sub | exact r_retv2 (Rd.tmp rfl rfl) (congrArg Value.bool (decide_eq_false (by omega)).symm) SelMC.sel SubRC.sub
set_option maxHeartbeats 4000000 in
theorem rDay_v (x : Int) (hl1 : B.banks.length ≤ 40) (hl2 : B.rain.length ≤ 40) (hl3 : B.signs.length ≤ 40) : FnV Tryz.prog 117 [valB B bo ro so bc rc sc, i64 x] [] (.bool (decide (0 ≤ x ∧ x ≤ (B.rain.length : Int)))) := by
 refine FnV.intro Tryz.call117 Tryz.func117 rfl Tryz.ntmps117 rfl ?_; intro W M Rf; refine r_seq (r_region ?_); refine o_boxA rfl rfl rfl rfl rfl (fun b2 => ?_); refine q_as rfl rfl rfl rfl rfl ?_; refine o_nil (r_then (r_seq (r_region ?_))); refine q_mv rfl rfl rfl rfl rfl ?_; refine o_q _ rfl rfl rfl (v_fieldAddr rfl Tryz.underlying66 inf59 rfl rfl rfl rfl) ?_; refine o_q _ rfl rfl rfl (v_ld1 rfl Tryz.underlying59 rfl rfl rfl) ?_; refine o_q _ rfl rfl rfl (v_len rfl rfl Tryz.underlying59 rfl) ?_; refine o_q _ rfl rfl rfl (OpQ.fn (rin_v _ _ _) rfl rfl SubRC.sub) ?_; refine q_as rfl rfl rfl rfl rfl ?_; refine o_nil (r_then ?_); refine r_ret ?_; exact r_retv2 (Rd.tmp rfl rfl) rfl SelMC.sel SubRC.sub
set_option maxHeartbeats 4000000 in
theorem rBank_v (x : Int) (hl1 : B.banks.length ≤ 40) (hl2 : B.rain.length ≤ 40) (hl3 : B.signs.length ≤ 40) : FnV Tryz.prog 118 [valB B bo ro so bc rc sc, i64 x] [] (.bool (decide (0 ≤ x ∧ x ≤ (B.banks.length : Int) - 1))) := by
 refine FnV.intro Tryz.call118 Tryz.func118 rfl Tryz.ntmps118 rfl ?_; intro W M Rf; refine r_seq (r_region ?_); refine o_boxA rfl rfl rfl rfl rfl (fun b2 => ?_); refine q_as rfl rfl rfl rfl rfl ?_; refine o_nil (r_then (r_seq (r_region ?_))); refine q_mv rfl rfl rfl rfl rfl ?_; refine o_q _ rfl rfl rfl (v_fieldAddr rfl Tryz.underlying66 inf63 rfl rfl rfl rfl) ?_; refine o_q _ rfl rfl rfl (v_ld1 rfl Tryz.underlying63 rfl rfl rfl) ?_; refine o_q _ rfl rfl rfl (v_len rfl rfl Tryz.underlying63 rfl) ?_; refine o_q _ rfl rfl rfl (v_sub rfl rfl rfl (by omega)) ?_; refine o_q _ rfl rfl rfl (OpQ.fn (rin_v _ _ _) rfl rfl SubRC.sub) ?_; refine q_as rfl rfl rfl rfl rfl ?_; refine o_nil (r_then ?_); refine r_ret ?_; exact r_retv2 (Rd.tmp rfl rfl) rfl SelMC.sel SubRC.sub
set_option maxHeartbeats 4000000 in
theorem rsign_v (x : Sign) (hl1 : B.banks.length ≤ 40) (hl2 : B.rain.length ≤ 40) (hl3 : B.signs.length ≤ 40) : FnV Tryz.prog 66 [valB B bo ro so bc rc sc, .agg #[i64 x.kind, i64 x.bank, i64 x.day]] [] (.bool (decide (SignOk B x))) := by
 refine FnV.intro Tryz.call66 Tryz.func66 rfl Tryz.ntmps66 rfl ?_; intro W M Rf; refine r_seq (r_region ?_); refine o_boxA rfl rfl rfl rfl rfl (fun b2 => ?_); refine o_boxA rfl rfl rfl rfl rfl (fun b3 => ?_); refine q_as rfl rfl rfl rfl rfl ?_; refine o_nil (r_then (r_seq ?_)); refine r_seq ?_; have hcases : x.kind = 0 ∨ x.kind = 1 ∨ x.kind = 2 ∨ (x.kind ≠ 0 ∧ x.kind ≠ 1 ∧ x.kind ≠ 2) := by omega
 refine r_region ?_; refine o_q _ rfl rfl rfl (v_ldW rfl Tryz.underlying66 rfl inf66 rfl rfl) ?_; refine o_q _ rfl rfl rfl (v_fieldAddr rfl Tryz.underlying142 inf3 rfl rfl rfl rfl) ?_; refine o_q _ rfl rfl rfl (v_ld1 rfl Tryz.underlying3 rfl rfl rfl) ?_; refine o_test rfl rfl rfl (OpQ.fn (rDay_v B bo ro so bc rc sc _ hl1 hl2 hl3) rfl rfl SubRC.sub) (fun h8 => ?_) (fun h8 => ?_)
 all_goals
  refine o_q _ rfl rfl rfl (v_not rfl rfl) ?_; refine o_nil (r_then ?_); refine r_cond rfl (fun hc9 => ?_) (fun hc9 => ?_)
  ·
   first
   | (exfalso; revert hc9; decide)
   |
    skip
    refine r_seq (r_region ?_); refine q_as rfl rfl rfl rfl rfl ?_; refine o_nil (r_then ?_); refine r_ret ?_; (with_reducible refine r_then_ret ?_); exact r_retv2 (Rd.tmp rfl rfl) (congrArg Value.bool (decide_eq_false (by unfold SignOk; omega)).symm) SelMC.sel SubRC.sub
  ·
   first
   | (exfalso; revert hc9; decide)
   |
    skip
    refine r_skip (r_then ?_); refine r_seq ?_; refine r_seq (r_region ?_); refine o_q _ rfl rfl rfl (v_fieldAddr rfl Tryz.underlying142 inf3 rfl rfl rfl rfl) ?_; refine o_q _ rfl rfl rfl (v_ld1 rfl Tryz.underlying3 rfl rfl rfl) ?_; refine o_nil (r_then ?_); refine r_block ?_; refine r_seq ?_; refine r_seq (r_region ?_); refine o_q _ rfl rfl rfl (v_eql rfl rfl rfl) ?_; refine q_as rfl rfl rfl rfl rfl ?_; refine o_nil (r_then ?_); refine r_condd rfl (fun hc12 => ?_) (fun hc12 => ?_)
    ·
     refine r_skip (r_then ?_); refine r_condd rfl (fun hc12 => ?_) (fun hc12 => ?_)
     ·
      refine r_seq (r_region ?_); refine o_q _ rfl rfl rfl (v_ldW rfl Tryz.underlying66 rfl inf66 rfl rfl) ?_; refine o_q _ rfl rfl rfl (v_fieldAddr rfl Tryz.underlying142 inf3 rfl rfl rfl rfl) ?_; refine o_q _ rfl rfl rfl (v_ld1 rfl Tryz.underlying3 rfl rfl rfl) ?_; refine o_q _ rfl rfl rfl (OpQ.fn (rBank_v B bo ro so bc rc sc _ hl1 hl2 hl3) rfl rfl SubRC.sub) ?_; refine q_as rfl rfl rfl rfl rfl ?_; refine o_nil (r_then ?_); refine r_ret ?_; (with_reducible refine r_in_ret ?_; refine r_then_ret ?_); exact r_retv2 (Rd.tmp rfl rfl) (congrArg Value.bool (decide_eq_decide.2 (by unfold SignOk; omega))) SelMC.sel SubRC.sub
     ·
      (exfalso; omega)
    ·
     refine r_region ?_; refine o_q _ rfl rfl rfl (v_eql rfl rfl rfl) ?_; refine q_as rfl rfl rfl rfl rfl ?_; refine o_nil (r_then ?_); refine r_condd rfl (fun hc12 => ?_) (fun hc12 => ?_)
     ·
      refine r_seq (r_region ?_); refine o_q _ rfl rfl rfl (v_ldW rfl Tryz.underlying66 rfl inf66 rfl rfl) ?_; refine o_q _ rfl rfl rfl (v_fieldAddr rfl Tryz.underlying142 inf3 rfl rfl rfl rfl) ?_; refine o_q _ rfl rfl rfl (v_ld1 rfl Tryz.underlying3 rfl rfl rfl) ?_; refine o_q _ rfl rfl rfl (OpQ.fn (rBank_v B bo ro so bc rc sc _ hl1 hl2 hl3) rfl rfl SubRC.sub) ?_; refine q_as rfl rfl rfl rfl rfl ?_; refine o_nil (r_then ?_); refine r_ret ?_; (with_reducible refine r_in_ret ?_; refine r_then_ret ?_); exact r_retv2 (Rd.tmp rfl rfl) (congrArg Value.bool (decide_eq_decide.2 (by unfold SignOk; omega))) SelMC.sel SubRC.sub
     ·
      refine r_seq (r_region ?_); refine o_q _ rfl rfl rfl (v_eql rfl rfl rfl) ?_; refine q_as rfl rfl rfl rfl rfl ?_; refine o_nil (r_then ?_); refine r_condd rfl (fun hc19 => ?_) (fun hc19 => ?_)
      ·
       refine r_seq (r_region ?_); refine q_as rfl rfl rfl rfl rfl ?_; refine o_nil (r_then ?_); refine r_ret ?_; (with_reducible refine r_in_ret ?_; refine r_then_ret ?_); exact r_retv2 (Rd.tmp rfl rfl) (congrArg Value.bool (decide_eq_true (by unfold SignOk; omega)).symm) SelMC.sel SubRC.sub
      ·
       refine r_skip ?_; refine r_in_normal ?_; refine r_then (r_seq (r_region ?_)); refine q_as rfl rfl rfl rfl rfl ?_; refine o_nil (r_then ?_); refine r_ret ?_; exact r_retv2 (Rd.tmp rfl rfl) (congrArg Value.bool (decide_eq_false (by unfold SignOk; omega)).symm) SelMC.sel SubRC.sub
set_option maxHeartbeats 4000000 in
theorem Burst_v (hl1 : B.banks.length ≤ 40) (hl2 : B.rain.length ≤ 40) (hl3 : B.signs.length ≤ 40) : FnV Tryz.prog 17 [valB B bo ro so bc rc sc] [rowD bo 4 encB B.banks, rowD ro 2 encS B.rain, rowD so 3 encG B.signs] (.bool (decide (GoodB B))) := by
 refine FnV.intro Tryz.call17 Tryz.func17 rfl Tryz.ntmps17 rfl ?_; intro W M Rf; refine r_seq (r_region ?_); refine o_boxA rfl rfl rfl rfl rfl (fun b1 => ?_); refine q_as rfl rfl rfl rfl rfl ?_; refine o_nil (r_then (r_seq ?_)); refine r_seq (r_region ?_); refine o_q _ rfl rfl rfl (v_fieldAddr rfl Tryz.underlying66 inf63 rfl rfl rfl rfl) ?_; refine o_q _ rfl rfl rfl (v_ld1 rfl Tryz.underlying63 rfl rfl rfl) ?_; refine o_q _ rfl rfl rfl (v_len rfl rfl Tryz.underlying63 rfl) ?_; refine o_test rfl rfl rfl (OpQ.fn (rin_v _ _ _) rfl rfl SubRC.sub) (fun h9 => ?_) (fun h9 => ?_)
 all_goals
  refine o_q _ rfl rfl rfl (v_not rfl rfl) ?_; refine q_mv rfl rfl rfl rfl rfl ?_
  first | refine o_gn rfl rfl rfl rfl ?_ | refine o_g _ rfl rfl rfl rfl (v_fieldAddr rfl Tryz.underlying66 inf43 rfl rfl rfl rfl) ?_
  first | refine o_gn rfl rfl rfl rfl ?_ | refine o_g _ rfl rfl rfl rfl (v_ldN rfl Tryz.underlying43 rfl inf43 rfl rfl rfl) ?_
  first | refine o_gn rfl rfl rfl rfl ?_ | refine o_gtest rfl rfl rfl rfl (OpQ.fn (rspan_v _ _ _ _) rfl rfl SubRC.sub) (fun h14 => ?_) (fun h14 => ?_)
  all_goals
   first | refine o_gn rfl rfl rfl rfl ?_ | refine o_g _ rfl rfl rfl rfl (v_not rfl rfl) ?_
   first | refine o_q _ rfl rfl rfl (v_pick_t rfl rfl rfl) ?_ | refine o_q _ rfl rfl rfl (v_pick_f rfl rfl rfl) ?_
   refine q_mv rfl rfl rfl rfl rfl ?_
   first | refine o_gn rfl rfl rfl rfl ?_ | refine o_g _ rfl rfl rfl rfl (v_fieldAddr rfl Tryz.underlying66 inf59 rfl rfl rfl rfl) ?_
   first | refine o_gn rfl rfl rfl rfl ?_ | refine o_g _ rfl rfl rfl rfl (v_ld1 rfl Tryz.underlying59 rfl rfl rfl) ?_
   first | refine o_gn rfl rfl rfl rfl ?_ | refine o_g _ rfl rfl rfl rfl (v_len rfl rfl Tryz.underlying59 rfl) ?_
   first | refine o_gn rfl rfl rfl rfl ?_ | refine o_gtest rfl rfl rfl rfl (OpQ.fn (rin_v _ _ _) rfl rfl SubRC.sub) (fun h21 => ?_) (fun h21 => ?_)
   all_goals
    first | refine o_gn rfl rfl rfl rfl ?_ | refine o_g _ rfl rfl rfl rfl (v_not rfl rfl) ?_
    first | refine o_q _ rfl rfl rfl (v_pick_t rfl rfl rfl) ?_ | refine o_q _ rfl rfl rfl (v_pick_f rfl rfl rfl) ?_
    refine q_mv rfl rfl rfl rfl rfl ?_
    first | refine o_gn rfl rfl rfl rfl ?_ | refine o_g _ rfl rfl rfl rfl (v_fieldAddr rfl Tryz.underlying66 inf3 rfl rfl rfl rfl) ?_
    first | refine o_gn rfl rfl rfl rfl ?_ | refine o_g _ rfl rfl rfl rfl (v_ld1 rfl Tryz.underlying3 rfl rfl rfl) ?_
    first | refine o_gn rfl rfl rfl rfl ?_ | refine o_gtest rfl rfl rfl rfl (OpQ.fn (rin_v _ _ _) rfl rfl SubRC.sub) (fun h27 => ?_) (fun h27 => ?_)
    all_goals
     first | refine o_gn rfl rfl rfl rfl ?_ | refine o_g _ rfl rfl rfl rfl (v_not rfl rfl) ?_
     first | refine o_q _ rfl rfl rfl (v_pick_t rfl rfl rfl) ?_ | refine o_q _ rfl rfl rfl (v_pick_f rfl rfl rfl) ?_
     refine q_mv rfl rfl rfl rfl rfl ?_
     first | refine o_gn rfl rfl rfl rfl ?_ | refine o_g _ rfl rfl rfl rfl (v_fieldAddr rfl Tryz.underlying66 inf64 rfl rfl rfl rfl) ?_
     first | refine o_gn rfl rfl rfl rfl ?_ | refine o_g _ rfl rfl rfl rfl (v_ld1 rfl Tryz.underlying64 rfl rfl rfl) ?_
     first | refine o_gn rfl rfl rfl rfl ?_ | refine o_g _ rfl rfl rfl rfl (v_len rfl rfl Tryz.underlying64 rfl) ?_
     first | refine o_gn rfl rfl rfl rfl ?_ | refine o_gtest rfl rfl rfl rfl (v_gtr rfl rfl rfl) (fun h34 => ?_) (fun h34 => ?_)
     all_goals
      first | refine o_q _ rfl rfl rfl (v_pick_t rfl rfl rfl) ?_ | refine o_q _ rfl rfl rfl (v_pick_f rfl rfl rfl) ?_
      refine o_nil (r_then ?_); refine r_cond rfl (fun hc35 => ?_) (fun hc35 => ?_)
      ·
       first
       | (exfalso; revert hc35; decide)
       |
        skip
        refine r_seq (r_region ?_); refine q_as rfl rfl rfl rfl rfl ?_; refine o_nil (r_then ?_); refine r_ret ?_; (with_reducible refine r_then_ret ?_); exact r_retv2 (Rd.tmp rfl rfl) (congrArg Value.bool (decide_eq_false (fun g : GoodB B => by have g1 := g.nb; have g2 := g.w; have g3 := g.nr; have g4 := g.dr; have g5 := g.ns; first | omega | (have g9 := g.banks k1 (by omega); unfold BankOk at g9; omega) | (have g9 := g.rain k2 (by omega); unfold RainOk at g9; omega) | (have g9 := g.signs k3 (by omega); contradiction))).symm) SelMC.sel SubRC.sub
      ·
       first
       | (exfalso; revert hc35; decide)
       |
        skip
        refine r_skip (r_then ?_); refine r_seq ?_; refine r_seq (r_region ?_); refine q_as rfl rfl rfl rfl rfl ?_; refine o_nil (r_then ?_); refine r_block ?_; refine r_loop (ι := Nat) (fun k1 => k1 ≤ B.banks.length ∧ ∀ j, j < k1 → BankOk (B.banks.getD j default)) (fun k1 => [(1, pt b1 0), (3, i64 k1)]) (fun k1 => bx b1 66 (cellsB B bo ro so bc rc sc) :: M) (fun k1 => [rowD bo 4 encB B.banks, rowD ro 2 encS B.rain, rowD so 3 encG B.signs] ++ Rf) (fun k1 => B.banks.length - k1) 0 ?_ ?_ ?_
        ·
         exact r_here (by repeat (first | exact FSub.nil | refine FSub.cons rfl ?_)) SelMC.sel SubRC.sub
        ·
         exact ⟨Nat.zero_le _, fun j hj => absurd hj (by omega)⟩
        ·
         rintro k1 hI0; refine r_seq ?_; refine r_seq (r_region ?_); refine q_mv rfl rfl rfl rfl rfl ?_; refine o_q _ rfl rfl rfl (v_fieldAddr rfl Tryz.underlying66 inf63 rfl rfl rfl rfl) ?_; refine o_q _ rfl rfl rfl (v_ld1 rfl Tryz.underlying63 rfl rfl rfl) ?_; refine o_q _ rfl rfl rfl (v_len rfl rfl Tryz.underlying63 rfl) ?_; refine o_q _ rfl rfl rfl (v_lss rfl rfl rfl) ?_; refine o_nil (r_then ?_); refine r_condd rfl (fun hc40 => ?_) (fun hc40 => ?_)
         ·
          refine r_skip (r_then ?_); refine r_seq (r_block ?_); refine r_seq (r_region ?_); refine o_q _ rfl rfl rfl (v_fieldAddr rfl Tryz.underlying66 inf63 rfl rfl rfl rfl) ?_; refine o_q _ rfl rfl rfl (v_ld1 rfl Tryz.underlying63 rfl rfl rfl) ?_; refine q_mv rfl rfl rfl rfl rfl ?_; refine o_q _ rfl rfl rfl (v_indexAddrSn rfl Tryz.underlying63 inf75 rfl rfl rfl (by omega) rfl) ?_; refine o_q _ rfl rfl rfl (v_fieldAddr rfl Tryz.underlying75 inf43 rfl rfl rfl rfl) ?_; refine o_q _ rfl rfl rfl (v_loadEN rfl Tryz.underlying43 rfl inf43 rfl (by omega) rfl rfl rfl) ?_; refine o_test rfl rfl rfl (OpQ.fn (rspan_v _ _ _ _) rfl rfl SubRC.sub) (fun h49 => ?_) (fun h49 => ?_)
          all_goals
           refine o_q _ rfl rfl rfl (v_not rfl rfl) ?_; refine q_mv rfl rfl rfl rfl rfl ?_
           first | refine o_gn rfl rfl rfl rfl ?_ | refine o_g _ rfl rfl rfl rfl (v_fieldAddr rfl Tryz.underlying66 inf63 rfl rfl rfl rfl) ?_
           first | refine o_gn rfl rfl rfl rfl ?_ | refine o_g _ rfl rfl rfl rfl (v_ld1 rfl Tryz.underlying63 rfl rfl rfl) ?_
           first | refine o_gn rfl rfl rfl rfl ?_ | refine o_g _ rfl rfl rfl rfl (v_move rfl rfl) ?_
           first | refine o_gn rfl rfl rfl rfl ?_ | refine o_g _ rfl rfl rfl rfl (v_indexAddrSn rfl Tryz.underlying63 inf75 rfl rfl rfl (by omega) rfl) ?_
           first | refine o_gn rfl rfl rfl rfl ?_ | refine o_g _ rfl rfl rfl rfl (v_fieldAddr rfl Tryz.underlying75 inf43 rfl rfl rfl rfl) ?_
           first | refine o_gn rfl rfl rfl rfl ?_ | refine o_g _ rfl rfl rfl rfl (v_loadEN rfl Tryz.underlying43 rfl inf43 rfl (by omega) rfl rfl rfl) ?_
           first | refine o_gn rfl rfl rfl rfl ?_ | refine o_gtest rfl rfl rfl rfl (OpQ.fn (rspan_v _ _ _ _) rfl rfl SubRC.sub) (fun h58 => ?_) (fun h58 => ?_)
           all_goals
            first | refine o_gn rfl rfl rfl rfl ?_ | refine o_g _ rfl rfl rfl rfl (v_not rfl rfl) ?_
            first | refine o_q _ rfl rfl rfl (v_pick_t rfl rfl rfl) ?_ | refine o_q _ rfl rfl rfl (v_pick_f rfl rfl rfl) ?_
            refine o_nil (r_then ?_); refine r_cond rfl (fun hc60 => ?_) (fun hc60 => ?_)
            ·
             first
             | (exfalso; revert hc60; decide)
             |
              skip
              refine r_seq (r_region ?_); refine q_as rfl rfl rfl rfl rfl ?_; refine o_nil (r_then ?_); refine r_ret ?_; (with_reducible refine r_in_ret ?_; refine r_then_ret ?_; refine r_then_ret ?_; refine r_in_ret ?_; refine r_then_ret ?_); exact r_retv2 (Rd.tmp rfl rfl) (congrArg Value.bool (decide_eq_false (fun g : GoodB B => by have g1 := g.nb; have g2 := g.w; have g3 := g.nr; have g4 := g.dr; have g5 := g.ns; first | omega | (have g9 := g.banks k1 (by omega); unfold BankOk at g9; omega) | (have g9 := g.rain k2 (by omega); unfold RainOk at g9; omega) | (have g9 := g.signs k3 (by omega); contradiction))).symm) SelMC.sel SubRC.sub
            ·
             first
             | (exfalso; revert hc60; decide)
             |
              skip
              refine r_skip ?_; refine r_in_normal ?_; refine r_then ?_; refine r_region ?_; refine q_mv rfl rfl rfl rfl rfl ?_; refine o_q _ rfl rfl rfl (v_add rfl rfl rfl (by omega)) ?_; refine q_as rfl rfl rfl rfl rfl ?_; refine o_nil (r_then ?_); refine r_next (k1 + 1) ?_ ?_ ?_
              ·
               exact r_here (by repeat (first | exact FSub.nil | refine FSub.cons rfl ?_)) SelMC.sel SubRC.sub
              ·
               exact ⟨by omega, all_step hI0.2 (by unfold BankOk; omega)⟩
              ·
               omega
         ·
          refine r_exit ?_; refine r_then_exit ?_; refine r_then_exit ?_; refine r_in_here ?_; refine r_then (r_seq ?_); refine r_seq (r_region ?_); refine q_as rfl rfl rfl rfl rfl ?_; refine o_nil (r_then ?_); refine r_block ?_; refine r_loop (ι := Nat) (fun k2 => k2 ≤ B.rain.length ∧ ∀ j, j < k2 → RainOk (B.rain.getD j default)) (fun k2 => [(1, pt b1 0), (4, i64 k2)]) (fun k2 => bx b1 66 (cellsB B bo ro so bc rc sc) :: M) (fun k2 => [rowD bo 4 encB B.banks, rowD ro 2 encS B.rain, rowD so 3 encG B.signs] ++ Rf) (fun k2 => B.rain.length - k2) 0 ?_ ?_ ?_
          ·
           exact r_here (by repeat (first | exact FSub.nil | refine FSub.cons rfl ?_)) SelMC.sel SubRC.sub
          ·
           exact ⟨Nat.zero_le _, fun j hj => absurd hj (by omega)⟩
          ·
           rintro k2 hI1; refine r_seq ?_; refine r_seq (r_region ?_); refine q_mv rfl rfl rfl rfl rfl ?_; refine o_q _ rfl rfl rfl (v_fieldAddr rfl Tryz.underlying66 inf59 rfl rfl rfl rfl) ?_; refine o_q _ rfl rfl rfl (v_ld1 rfl Tryz.underlying59 rfl rfl rfl) ?_; refine o_q _ rfl rfl rfl (v_len rfl rfl Tryz.underlying59 rfl) ?_; refine o_q _ rfl rfl rfl (v_lss rfl rfl rfl) ?_; refine o_nil (r_then ?_); refine r_condd rfl (fun hc65 => ?_) (fun hc65 => ?_)
           ·
            refine r_skip (r_then ?_); refine r_seq (r_block ?_); refine r_seq (r_region ?_); refine o_q _ rfl rfl rfl (v_fieldAddr rfl Tryz.underlying66 inf59 rfl rfl rfl rfl) ?_; refine o_q _ rfl rfl rfl (v_ld1 rfl Tryz.underlying59 rfl rfl rfl) ?_; refine q_mv rfl rfl rfl rfl rfl ?_; refine o_q _ rfl rfl rfl (v_indexAddrSn rfl Tryz.underlying59 inf43 rfl rfl rfl (by omega) rfl) ?_; refine o_q _ rfl rfl rfl (v_loadEN rfl Tryz.underlying43 rfl inf43 rfl (by omega) rfl rfl rfl) ?_; refine o_test rfl rfl rfl (OpQ.fn (rspan_v _ _ _ _) rfl rfl SubRC.sub) (fun h73 => ?_) (fun h73 => ?_)
            all_goals
             refine o_q _ rfl rfl rfl (v_not rfl rfl) ?_; refine o_nil (r_then ?_); refine r_cond rfl (fun hc74 => ?_) (fun hc74 => ?_)
             ·
              first
              | (exfalso; revert hc74; decide)
              |
               skip
               refine r_seq (r_region ?_); refine q_as rfl rfl rfl rfl rfl ?_; refine o_nil (r_then ?_); refine r_ret ?_; (with_reducible refine r_in_ret ?_; refine r_then_ret ?_; refine r_then_ret ?_; refine r_in_ret ?_; refine r_then_ret ?_); exact r_retv2 (Rd.tmp rfl rfl) (congrArg Value.bool (decide_eq_false (fun g : GoodB B => by have g1 := g.nb; have g2 := g.w; have g3 := g.nr; have g4 := g.dr; have g5 := g.ns; first | omega | (have g9 := g.banks k1 (by omega); unfold BankOk at g9; omega) | (have g9 := g.rain k2 (by omega); unfold RainOk at g9; omega) | (have g9 := g.signs k3 (by omega); contradiction))).symm) SelMC.sel SubRC.sub
             ·
              first
              | (exfalso; revert hc74; decide)
              |
               skip
               refine r_skip ?_; refine r_in_normal ?_; refine r_then ?_; refine r_region ?_; refine q_mv rfl rfl rfl rfl rfl ?_; refine o_q _ rfl rfl rfl (v_add rfl rfl rfl (by omega)) ?_; refine q_as rfl rfl rfl rfl rfl ?_; refine o_nil (r_then ?_); refine r_next (k2 + 1) ?_ ?_ ?_
               ·
                exact r_here (by repeat (first | exact FSub.nil | refine FSub.cons rfl ?_)) SelMC.sel SubRC.sub
               ·
                exact ⟨by omega, all_step hI1.2 (by unfold RainOk; omega)⟩
               ·
                omega
           ·
            refine r_exit ?_; refine r_then_exit ?_; refine r_then_exit ?_; refine r_in_here ?_; refine r_then (r_seq ?_); refine r_seq (r_region ?_); refine q_as rfl rfl rfl rfl rfl ?_; refine o_nil (r_then ?_); refine r_block ?_; refine r_loop (ι := Nat) (fun k3 => k3 ≤ B.signs.length ∧ ∀ j, j < k3 → SignOk B (B.signs.getD j default)) (fun k3 => [(1, pt b1 0), (5, i64 k3)]) (fun k3 => bx b1 66 (cellsB B bo ro so bc rc sc) :: M) (fun k3 => [rowD bo 4 encB B.banks, rowD ro 2 encS B.rain, rowD so 3 encG B.signs] ++ Rf) (fun k3 => B.signs.length - k3) 0 ?_ ?_ ?_
            ·
             exact r_here (by repeat (first | exact FSub.nil | refine FSub.cons rfl ?_)) SelMC.sel SubRC.sub
            ·
             exact ⟨Nat.zero_le _, fun j hj => absurd hj (by omega)⟩
            ·
             rintro k3 hI2; refine r_seq ?_; refine r_seq (r_region ?_); refine q_mv rfl rfl rfl rfl rfl ?_; refine o_q _ rfl rfl rfl (v_fieldAddr rfl Tryz.underlying66 inf64 rfl rfl rfl rfl) ?_; refine o_q _ rfl rfl rfl (v_ld1 rfl Tryz.underlying64 rfl rfl rfl) ?_; refine o_q _ rfl rfl rfl (v_len rfl rfl Tryz.underlying64 rfl) ?_; refine o_q _ rfl rfl rfl (v_lss rfl rfl rfl) ?_; refine o_nil (r_then ?_); refine r_condd rfl (fun hc79 => ?_) (fun hc79 => ?_)
             ·
              refine r_skip (r_then ?_); refine r_seq (r_block ?_); refine r_seq ?_; refine r_region_q mixed (by kernel_rfl) ?_; refine q_q _ rfl rfl rfl (v_ldW rfl Tryz.underlying66 rfl inf66 rfl rfl) ?_; refine q_q _ rfl rfl rfl (v_fieldAddr rfl Tryz.underlying66 inf64 rfl rfl rfl rfl) ?_; refine q_q _ rfl rfl rfl (v_ld1 rfl Tryz.underlying64 rfl rfl rfl) ?_; refine q_q _ rfl rfl rfl (v_move rfl rfl) ?_; refine q_q _ rfl rfl rfl (v_indexAddrSn rfl Tryz.underlying64 inf142 rfl rfl rfl (by omega) rfl) ?_; refine q_q _ rfl rfl rfl (v_loadEN rfl Tryz.underlying142 rfl inf142 rfl (by omega) rfl rfl rfl) ?_; refine q_test rfl rfl rfl (OpQ.fn (rsign_v B bo ro so bc rc sc _ hl1 hl2 hl3) rfl rfl SubRC.sub) (fun h88 => ?_) (fun h88 => ?_)
              all_goals
               refine q_q _ rfl rfl rfl (v_not rfl rfl) ?_; refine q_nil ?_; refine r_then ?_; refine r_cond rfl (fun hc89 => ?_) (fun hc89 => ?_)
               ·
                first
                | (exfalso; revert hc89; decide)
                |
                 skip
                 refine r_seq (r_region ?_); refine q_as rfl rfl rfl rfl rfl ?_; refine o_nil (r_then ?_); refine r_ret ?_; (with_reducible refine r_in_ret ?_; refine r_then_ret ?_; refine r_then_ret ?_; refine r_in_ret ?_; refine r_then_ret ?_); exact r_retv2 (Rd.tmp rfl rfl) (congrArg Value.bool (decide_eq_false (fun g : GoodB B => by have g1 := g.nb; have g2 := g.w; have g3 := g.nr; have g4 := g.dr; have g5 := g.ns; first | omega | (have g9 := g.banks k1 (by omega); unfold BankOk at g9; omega) | (have g9 := g.rain k2 (by omega); unfold RainOk at g9; omega) | (have g9 := g.signs k3 (by omega); contradiction))).symm) SelMC.sel SubRC.sub
               ·
                first
                | (exfalso; revert hc89; decide)
                |
                 skip
                 refine r_skip ?_; refine r_in_normal ?_; refine r_then ?_; refine r_region ?_; refine q_mv rfl rfl rfl rfl rfl ?_; refine o_q _ rfl rfl rfl (v_add rfl rfl rfl (by omega)) ?_; refine q_as rfl rfl rfl rfl rfl ?_; refine o_nil (r_then ?_); refine r_next (k3 + 1) ?_ ?_ ?_
                 ·
                  exact r_here (by repeat (first | exact FSub.nil | refine FSub.cons rfl ?_)) SelMC.sel SubRC.sub
                 ·
                  exact ⟨by omega, all_step hI2.2 (by assumption)⟩
                 ·
                  omega
             ·
              refine r_exit ?_; refine r_then_exit ?_; refine r_then_exit ?_; refine r_in_here ?_; refine r_then (r_seq (r_region ?_)); refine q_as rfl rfl rfl rfl rfl ?_; refine o_nil (r_then ?_); refine r_ret ?_; exact r_retv2 (Rd.tmp rfl rfl) (congrArg Value.bool (decide_eq_true (⟨by omega, by omega, by omega, by omega, by omega, fun j hj => hI0.2 j (by omega), fun j hj => hI1.2 j (by omega), fun j hj => hI2.2 j (by omega)⟩ : GoodB B)).symm) SelMC.sel SubRC.sub
def farB (B : Bog) : Prop := 40 < max (max (B.banks.length : Int) B.rain.length) B.signs.length
instance (B : Bog) : Decidable (farB B) := by unfold farB; infer_instance
end Go.Proofs.YtpndeonmmcaikaaGreat.BurstW

namespace Go.Proofs.YtpndeonmmcaikaaGreat.BurstW
open Go.G Burst8
set_option maxRecDepth 1000000
attribute [local irreducible] G.ParO G.Fin
attribute [local irreducible] fw fwR fwC emptyT tabOf knownT canB boundsL
variable (B : Bog) (bo ro so : Option Addr) (bc rc sc : Nat) (bb mb : Nat)
end Go.Proofs.YtpndeonmmcaikaaGreat.BurstW

namespace Go.Proofs.YtpndeonmmcaikaaGreat.BurstW
open Go.G Burst8
set_option maxRecDepth 1000000
attribute [local irreducible] fw fwR fwC emptyT tabOf knownT canB boundsL
abbrev bN : Bog := sampleB []
abbrev bC : Bog := sampleB [⟨1, 1, 2⟩, ⟨1, 1, 0⟩]
theorem goodN : GoodB bN := by decide
theorem goodC : GoodB bC := by decide
theorem tBN : tB bN = KN := knownN
theorem ex5 : untilB bN = (1, 0) := by
  unfold untilB lastB safeB; rw [tBN, ansE_0 (chkB_0 goodN rfl canN) (by decide +kernel)]; decide +kernel
theorem ex7 : spareB bN 1 = (4, 0) := by
  unfold spareB; rw [tBN, ansE_0 (chkB_0 (v := isK bN 1) goodN (by decide) canN) (by decide +kernel)]; decide +kernel
end Go.Proofs.YtpndeonmmcaikaaGreat.BurstW

namespace Go.Proofs.YtpndeonmmcaikaaGreat.BurstW
open Go.G Burst8
set_option maxRecDepth 1000000
attribute [local irreducible] G.ParO G.Fin
def adrAt (v : Value) (k : Nat) : Option Addr := match v with
  | .agg cs => adr (cs.getD k undef)
  | _ => none
theorem encB_len (x : Bank) : (encB x).length = 4 := rfl
theorem encS_len (x : Burst8.Span) : (encS x).length = 2 := rfl
attribute [local irreducible] fw fwR fwC emptyT tabOf knownT canB boundsL
end Go.Proofs.YtpndeonmmcaikaaGreat.BurstW

namespace Go.Proofs.YtpndeonmmcaikaaGreat.BurstW
open Go.G Burst8
set_option maxRecDepth 1000000
attribute [local irreducible] G.ParO G.Fin
attribute [local irreducible] fw fwR fwC emptyT tabOf knownT canB boundsL
theorem smpU (bo ro so : Option Addr) (sc : Nat) : FnV Tryz.prog 23 [valB bN bo ro so 2 2 sc] [rowD bo 4 encB bN.banks, rowD ro 2 encS bN.rain, rowD so 3 encG ([] : List Sign)] (.tuple #[i64 1, i64 0]) := by
  have h := until_v bN bo ro so 2 2 sc (by decide) (by decide) (by decide)
  rw [ex5] at h; exact h
theorem smpP (bo ro so : Option Addr) (sc : Nat) : FnV Tryz.prog 22 [valB bN bo ro so 2 2 sc, i64 1] [rowD bo 4 encB bN.banks, rowD ro 2 encS bN.rain, rowD so 3 encG ([] : List Sign)] (.tuple #[i64 4, i64 0]) := by
  have h := spare_v bN bo ro so 2 2 sc 1 (by decide) (by decide) (by decide)
  rw [ex7] at h; exact h
end Go.Proofs.YtpndeonmmcaikaaGreat.BurstW

namespace Go.Proofs.YtpndeonmmcaikaaGreat.BurstW
open Go.G Burst8
set_option maxRecDepth 1000000
attribute [local irreducible] G.ParO G.Fin
attribute [local irreducible] fw fwR fwC emptyT tabOf knownT canB boundsL
end Go.Proofs.YtpndeonmmcaikaaGreat.BurstW

set_option linter.unusedVariables false
namespace Burst8
open Go Go.G
def Holds (x : Bnd) (y : Nat → Int) : Prop := x.lo ≤ y x.a - y x.b ∧ y x.a - y x.b ≤ x.hi
theorem sat_set {T : Tab} (hT : T.length = 121) {a b : Nat} (ha : a < 11) (hb : b < 11) {z : Int} {y : Nat → Int} : Sat (tset T a b (min (tat T a b) z)) y ↔ Sat T y ∧ y a - y b ≤ z := by
  constructor
  · intro h
    refine ⟨fun i hi k hk => ?_, ?_⟩
    · have := h i hi k hk
      rw [tat_set hT ha hb hi hk] at this
      split at this
      · rename_i e; obtain ⟨rfl, rfl⟩ := e; omega
      · exact this
    · have := h a ha b hb
      rw [tat_set hT ha hb ha hb, if_pos ⟨rfl, rfl⟩] at this
      omega
  · rintro ⟨h, hz⟩ i hi k hk
    rw [tat_set hT ha hb hi hk]
    have := h i hi k hk
    split
    · rename_i e; obtain ⟨rfl, rfl⟩ := e; omega
    · exact this
theorem sat_put1 {T : Tab} (hT : T.length = 121) {x : Bnd} (hx : InT x) {y : Nat → Int} : Sat (put1 T x) y ↔ Sat T y ∧ Holds x y := by
  unfold put1
  rw [sat_set (by rw [putA_len, hT]) hx.2.1 hx.1]
  unfold putA
  rw [sat_set hT hx.1 hx.2.1]
  unfold Holds
  constructor
  · rintro ⟨⟨h1, h2⟩, h3⟩; exact ⟨h1, by omega, h2⟩
  · rintro ⟨h1, h2, h3⟩; exact ⟨⟨h1, h3⟩, by omega⟩
def Near (y : Nat → Int) : Prop := ∀ i, i < 11 → ∀ k, k < 11 → y i - y k ≤ 65536
theorem sat_empty {y : Nat → Int} : Sat emptyT y ↔ Near y := by
  constructor
  · intro h i hi k hk
    have := h i hi k hk
    rw [tat_empty hi hk] at this
    split at this <;> omega
  · intro h i hi k hk
    rw [tat_empty hi hk]
    have := h i hi k hk
    split
    · rename_i e; subst e; omega
    · exact this
theorem sat_foldl {y : Nat → Int} : ∀ (l : List Bnd) (T : Tab), T.length = 121 → (∀ x ∈ l, InT x) → (Sat (l.foldl put1 T) y ↔ Sat T y ∧ ∀ x ∈ l, Holds x y)
  | [], T, _, _ => by simp
  | x :: l, T, hT, hl => by
    rw [List.foldl_cons, sat_foldl l _ (by rw [put1_len, hT]) (fun z hz => hl z (by simp [hz])), sat_put1 hT (hl x (by simp))]
    constructor
    · rintro ⟨⟨h1, h2⟩, h3⟩
      refine ⟨h1, fun z hz => ?_⟩
      rcases List.mem_cons.1 hz with rfl | hz
      · exact h2
      · exact h3 z hz
    · rintro ⟨h1, h2⟩
      exact ⟨⟨h1, h2 x (by simp)⟩, fun z hz => h2 z (by simp [hz])⟩
theorem sat_tab {l : List Bnd} (hl : ∀ x ∈ l, InT x) {y : Nat → Int} : Sat (tabOf l) y ↔ Near y ∧ ∀ x ∈ l, Holds x y := by
  unfold tabOf
  rw [sat_foldl l _ emptyT_len hl, sat_empty]
def Tru (B : Bog) (m : Nat) (s : Int) (w : Bool) (y : Nat → Int) : Prop := Near y ∧ ∀ x ∈ boundsL B m s w, Holds x y
theorem sat_iff {B : Bog} (hg : GoodB B) {m : Nat} {s : Int} {w : Bool} {y : Nat → Int} : Sat (tabB B m s w) y ↔ Tru B m s w y := sat_tab (bounds_in hg)
theorem can_tru {B : Bog} (hg : GoodB B) {m : Nat} {s : Int} {w : Bool} : canB B m s w = true ↔ ∃ y, Tru B m s w y := by
  unfold canB
  rw [decide_eq_true_iff, can_iff (tabB_len ..)]
  constructor
  · rintro ⟨y, h⟩; exact ⟨y, (sat_iff hg).1 h⟩
  · rintro ⟨y, h⟩; exact ⟨y, (sat_iff hg).2 h⟩
theorem tabB_diag {B : Bog} (hg : GoodB B) {m : Nat} {s : Int} {w : Bool} (hc : canB B m s w = true) {i : Nat} (hi : i < 11) : tat (knownT B m s w) i i = 0 := by
  obtain ⟨y, hy⟩ := (can_tru hg).1 hc
  have hcan : Can (tabB B m s w) := by unfold canB at hc; exact of_decide_eq_true hc
  have h1 : 0 ≤ tat (knownT B m s w) i i := hcan i hi
  have h2 : tat (knownT B m s w) i i ≤ 0 := by
    have hd : ∀ (l : List Bnd) (T : Tab), T.length = 121 → (∀ x ∈ l, InT x) → tat T i i ≤ 0 → tat (l.foldl put1 T) i i ≤ 0 := by
      intro l
      induction l with
      | nil => intro T _ _ h; exact h
      | cons x l ih =>
        intro T hT hl h
        refine ih _ (by rw [put1_len, hT]) (fun z hz => hl z (by simp [hz])) ?_
        have hx := hl x (by simp)
        unfold put1
        rw [tat_set (by rw [putA_len, hT]) hx.2.1 hx.1 hi hi]
        have h3 : tat (putA T x) i i ≤ 0 := by
          unfold putA
          rw [tat_set hT hx.1 hx.2.1 hi hi]
          split
          · rename_i e; obtain ⟨e1, e2⟩ := e; rw [← e1, ← e2]; omega
          · exact h
        split
        · rename_i e; obtain ⟨e1, e2⟩ := e; rw [← e1, ← e2]; omega
        · exact h3
    have h4 : tat (tabB B m s w) i i ≤ 0 := hd _ _ emptyT_len (bounds_in hg) (by rw [tat_empty hi hi]; simp)
    have h5 := fw_le (tabB_len B m s w) hi hi
    unfold knownT; omega
  omega
theorem span_tru {B : Bog} (hg : GoodB B) {m : Nat} {s : Int} {w : Bool} {y : Nat → Int} (h : Tru B m s w y) {a b : Nat} (ha : a < 11) (hb : b < 11) : 0 - tat (knownT B m s w) b a ≤ y a - y b ∧ y a - y b ≤ tat (knownT B m s w) a b := by
  have := span_in (tabB_len B m s w) ((sat_iff hg).2 h) ha hb
  unfold knownT; omega
theorem Tru.mono {B : Bog} {m m' : Nat} {s s' : Int} {w w' : Bool} {y : Nat → Int} (h : Tru B m s w y) (hs : ∀ x ∈ boundsL B m' s' w', x ∈ boundsL B m s w) : Tru B m' s' w' y := ⟨h.1, fun x hx => h.2 x (hs x hx)⟩
end Burst8

namespace Go.Proofs.YtpndeonmmcaikaaGreat.BurstW
open Go.G Burst8
set_option maxRecDepth 1000000
attribute [local irreducible] fw fwR fwC emptyT tabOf knownT canB boundsL
theorem leastN_spec (f : Nat → Int) : ∀ n, 0 < n → (leastN f n).1 < n ∧ f (leastN f n).1 = (leastN f n).2 ∧ (∀ j, j < n → (leastN f n).2 ≤ f j) ∧ ∀ j, j < (leastN f n).1 → (leastN f n).2 < f j
  | 0, h => absurd h (by omega)
  | k + 1, _ => by
    by_cases hk : k = 0
    · subst hk
      rw [leastN_y (Or.inl rfl)]
      refine ⟨by show 0 < 1; omega, rfl, fun j hj => ?_, fun j hj => absurd hj (by show ¬ j < 0; omega)⟩
      have : j = 0 := by omega
      subst this
      exact Int.le_refl _
    · obtain ⟨h1, h2, h3, h4⟩ := leastN_spec f k (by omega)
      by_cases hf : f k < (leastN f k).2
      · rw [leastN_y (Or.inr hf)]
        refine ⟨by show k < k + 1; omega, rfl, fun j hj => ?_, fun j hj => ?_⟩
        · show f k ≤ f j
          by_cases e : j = k
          · subst e; exact Int.le_refl _
          · have := h3 j (by omega); omega
        · show f k < f j
          have := h3 j hj; omega
      · rw [leastN_n (by rintro (h | h) <;> contradiction)]
        refine ⟨by omega, h2, fun j hj => ?_, h4⟩
        by_cases e : j = k
        · subst e; omega
        · exact h3 j (by omega)
theorem worst_le {T : Tab} {k d j : Nat} (hj : j ≤ d) : worstT T k d ≤ (marginT T k j).lo := (leastN_spec _ (d + 1) (by omega)).2.2.1 j (by omega)
theorem worst_at (T : Tab) (k d : Nat) : ∃ j, j ≤ d ∧ (marginT T k j).lo = worstT T k d := by
  obtain ⟨h1, h2, _⟩ := leastN_spec (fun j => (marginT T k j).lo) (d + 1) (by omega)
  exact ⟨_, by omega, h2⟩
theorem safe_iff {T : Tab} {nb d : Nat} (hn : 0 < nb) : 0 ≤ (firstT T nb d).2 ↔ ∀ k, k < nb → ∀ j, j ≤ d → 0 ≤ (marginT T k j).lo := by
  obtain ⟨h1, h2, h3, _⟩ := leastN_spec (fun k => worstT T k d) nb hn
  constructor
  · intro h k hk j hj
    have e1 := h3 k hk
    have e2 := worst_le (T := T) (k := k) hj
    unfold firstT at h; omega
  · intro h
    obtain ⟨j, hj, e⟩ := worst_at T (firstT T nb d).1 d
    have := h _ h1 j hj
    have e2 : worstT T (firstT T nb d).1 d = (firstT T nb d).2 := h2
    unfold firstT at *; omega
theorem mvTo_bit (p : Nat → Bool) : ∀ (n i : Nat), (mvTo p n).testBit i = (decide (i < n) && p i)
  | 0, i => by simp [mvTo]
  | n + 1, i => by
    unfold mvTo
    rw [Nat.testBit_or, mvTo_bit p n i]
    by_cases e : i = n
    · subst e
      cases h : p i <;> simp [Nat.testBit_two_pow_self]
    · by_cases h : p n = true
      · rw [if_pos h, Nat.testBit_two_pow_of_ne (Ne.symm e)]
        have : decide (i < n) = decide (i < n + 1) := decide_eq_decide.2 (by omega)
        rw [this]; simp
      · rw [if_neg h]
        have : decide (i < n) = decide (i < n + 1) := decide_eq_decide.2 (by omega)
        rw [this]; simp
theorem mvTo_zero {p : Nat → Bool} {n : Nat} : mvTo p n = 0 ↔ ∀ i, i < n → p i = false := by
  constructor
  · intro h i hi
    have := mvTo_bit p n i
    rw [h] at this
    simpa [hi] using this.symm
  · intro h
    refine Nat.eq_of_testBit_eq fun i => ?_
    rw [mvTo_bit]
    by_cases hi : i < n
    · simp [h i hi]
    · simp [hi]
theorem lastTo_spec {p : Nat → Bool} (hp : ∀ i j, i ≤ j → p j = true → p i = true) : ∀ n, -1 ≤ lastTo p n ∧ lastTo p n < n ∧ ∀ d, d < n → ((d : Int) ≤ lastTo p n ↔ p d = true)
  | 0 => ⟨Int.le_refl _, by show (-1 : Int) < 0; decide, fun d hd => absurd hd (by omega)⟩
  | k + 1 => by
    obtain ⟨h1, h2, h3⟩ := lastTo_spec hp k
    by_cases h : p k = true
    · rw [lastTo_y h]
      exact ⟨by omega, by omega, fun d hd => ⟨fun _ => hp d k (by omega) h, fun _ => by omega⟩⟩
    · rw [lastTo_n h]
      refine ⟨h1, by omega, fun d hd => ?_⟩
      by_cases e : d = k
      · subst e
        exact ⟨fun x => absurd x (by omega), fun x => absurd x h⟩
      · exact h3 d (by omega)
section
variable {B : Bog}
theorem some_zero {d : Nat} : mvTo (someB B d) B.banks.length = 0 ↔ ∀ k, k < B.banks.length → 0 ≤ (marginT (tB B) k d).lo := by
  rw [mvTo_zero]
  constructor
  · intro h k hk
    have := h k hk
    unfold someB at this
    have := of_decide_eq_false this
    omega
  · intro h k hk
    have := h k hk
    exact decide_eq_false (by omega)
theorem safe_some (hg : GoodB B) {d : Nat} : 0 ≤ (firstT (tB B) B.banks.length d).2 ↔ ∀ j, j ≤ d → mvTo (someB B j) B.banks.length = 0 := by
  have h1 := hg.nb
  rw [safe_iff (by omega)]
  constructor
  · intro h j hj; exact some_zero.2 fun k hk => h k hk j hj
  · intro h k hk j hj; exact some_zero.1 (h j hj) k hk
theorem last_iff (hg : GoodB B) {d : Nat} (hd : d ≤ B.rain.length) : (d : Int) ≤ lastB B ↔ ∀ j, j ≤ d → mvTo (someB B j) B.banks.length = 0 := by
  have h := (lastTo_spec (p := safeB B) (fun i j hij h => by
    unfold safeB at *
    have h1 := (safe_some hg).1 (of_decide_eq_true h)
    exact decide_eq_true ((safe_some hg).2 fun k hk => h1 k (by omega))) (B.rain.length + 1)).2.2 d (by omega)
  unfold lastB
  rw [h, ← safe_some hg]
  unfold safeB
  rw [decide_eq_true_iff]
end
end Go.Proofs.YtpndeonmmcaikaaGreat.BurstW

set_option linter.unusedVariables false
namespace Burst8
open Go Go.G
def SignR (s : Sign) (k w : Nat → Int) : Prop := if s.kind = 0 then 0 ≤ k s.bank.toNat - w s.day.toNat ∧ k s.bank.toNat - w s.day.toNat ≤ 10 else if s.kind = 1 then 0 ≤ k s.bank.toNat - w s.day.toNat ∧ k s.bank.toNat - w s.day.toNat ≤ 5 else 15 ≤ w s.day.toNat
structure TrW (B : Bog) (m : Nat) (k w : Nat → Int) : Prop where
  w0 : B.wlo ≤ w 0 ∧ w 0 ≤ B.whi
  b : ∀ i, i < B.banks.length → (B.banks.getD i default).blo - (B.banks.getD i default).chi ≤ k i ∧ k i ≤ (B.banks.getD i default).bhi - (B.banks.getD i default).clo
  r : ∀ d, d < B.rain.length → (B.rain.getD d default).lo - B.drain ≤ w (d + 1) - w d ∧ w (d + 1) - w d ≤ (B.rain.getD d default).hi - B.drain
  s : ∀ j, j < B.signs.length → m.testBit j = true → SignR (B.signs.getD j default) k w
def Calm (B : Bog) (s : Int) (k w : Nat → Int) : Prop := ∀ i, i < B.banks.length → ∀ d, d ≤ B.rain.length → (d : Int) ≤ s → w d ≤ k i
theorem TrW.kb {B : Bog} (hg : GoodB B) {m : Nat} {k w : Nat → Int} (h : TrW B m k w) {i : Nat} (hi : i < B.banks.length) : -20 ≤ k i ∧ k i ≤ 60 := by
  have h1 := h.b i hi
  obtain ⟨h2, h3⟩ := hg.banks i hi
  omega
theorem TrW.wb {B : Bog} (hg : GoodB B) {m : Nat} {k w : Nat → Int} (h : TrW B m k w) : ∀ d, d ≤ B.rain.length → -40 - 20 * (d : Int) ≤ w d ∧ w d ≤ 40 + 20 * (d : Int)
  | 0, _ => by have := h.w0; have := hg.w; omega
  | d + 1, hd => by
    have ih := TrW.wb hg h d (by omega)
    have h1 := h.r d (by omega)
    have h2 := hg.rain d (by omega)
    have h3 := hg.dr
    unfold RainOk at h2
    omega
theorem TrW.wb' {B : Bog} (hg : GoodB B) {m : Nat} {k w : Nat → Int} (h : TrW B m k w) {d : Nat} (hd : d ≤ B.rain.length) : -140 ≤ w d ∧ w d ≤ 140 := by
  have := h.wb hg d hd
  have := hg.nr
  omega
def yOf (B : Bog) (k w : Nat → Int) (i : Nat) : Int := if i = 0 then 0 else if i < 1 + B.banks.length then k (i - 1) else if 5 ≤ i ∧ i ≤ 5 + B.rain.length then w (i - 5) else 0
theorem yOf_0 (B : Bog) (k w : Nat → Int) : yOf B k w 0 = 0 := rfl
theorem yOf_b {B : Bog} {k w : Nat → Int} {i : Nat} (hi : i < B.banks.length) : yOf B k w (1 + i) = k i := by
  unfold yOf
  rw [if_neg (by omega), if_pos (by omega)]
  congr 1; omega
theorem yOf_w {B : Bog} (hg : GoodB B) {k w : Nat → Int} {d : Nat} (hd : d ≤ B.rain.length) : yOf B k w (5 + d) = w d := by
  have := hg.nb
  unfold yOf
  rw [if_neg (by omega), if_neg (by omega), if_pos (by omega)]
  congr 1; omega
theorem yOf_bd {B : Bog} (hg : GoodB B) {m : Nat} {k w : Nat → Int} (h : TrW B m k w) (i : Nat) : -140 ≤ yOf B k w i ∧ yOf B k w i ≤ 140 := by
  unfold yOf
  split
  · omega
  · split
    · have := h.kb hg (i := i - 1) (by omega); omega
    · split
      · exact h.wb' hg (by omega)
      · omega
theorem tru_way {B : Bog} (hg : GoodB B) {m : Nat} {s : Int} {wi : Bool} {k w : Nat → Int} (h : TrW B m k w) (hw : wi = true → Calm B s k w) : Tru B m s wi (yOf B k w) := by
  refine ⟨fun i _ j _ => ?_, fun x hx => ?_⟩
  · have h1 := yOf_bd hg h i; have h2 := yOf_bd hg h j; omega
  · rcases mem_bounds.1 hx with rfl | ⟨i, hi, rfl⟩ | ⟨d, hd, rfl⟩ | ⟨j, hj, hm, rfl⟩ | ⟨i, hi, d, hd, ⟨hwi, hds⟩, rfl⟩
    · have h1 := h.w0
      have e : yOf B k w 5 = w 0 := yOf_w hg (d := 0) (by omega)
      show B.wlo ≤ yOf B k w 5 - yOf B k w 0 ∧ yOf B k w 5 - yOf B k w 0 ≤ B.whi
      rw [e, yOf_0]; omega
    · have h1 := h.b i hi
      show _ ≤ yOf B k w (1 + i) - yOf B k w 0 ∧ yOf B k w (1 + i) - yOf B k w 0 ≤ _
      rw [yOf_b hi, yOf_0]
      show (B.banks.getD i default).blo - (B.banks.getD i default).chi ≤ _ ∧ _ ≤ (B.banks.getD i default).bhi - (B.banks.getD i default).clo
      omega
    · have h1 := h.r d hd
      have e : yOf B k w (5 + d + 1) = w (d + 1) := yOf_w hg (d := d + 1) (by omega)
      show _ ≤ yOf B k w (5 + d + 1) - yOf B k w (5 + d) ∧ yOf B k w (5 + d + 1) - yOf B k w (5 + d) ≤ _
      rw [e, yOf_w hg (show d ≤ B.rain.length by omega)]
      exact h1
    · have h1 := h.s j hj hm
      obtain ⟨⟨hd1, hd2⟩, hk⟩ := hg.signs j hj
      generalize B.signs.getD j default = sg at *
      have ew : yOf B k w (5 + sg.day.toNat) = w sg.day.toNat := yOf_w hg (by omega)
      have hwb := h.wb' hg (d := sg.day.toNat) (by omega)
      unfold SignR at h1
      unfold Holds signB
      split
      · rename_i h0
        rw [if_pos h0] at h1
        have eb : yOf B k w (1 + sg.bank.toNat) = k sg.bank.toNat := yOf_b (by omega)
        show 0 ≤ yOf B k w (1 + sg.bank.toNat) - yOf B k w (5 + sg.day.toNat) ∧ _ ≤ (10 : Int)
        rw [eb, ew]; exact h1
      · rename_i h0
        rw [if_neg h0] at h1
        split
        · rename_i h2
          rw [if_pos h2] at h1
          have eb : yOf B k w (1 + sg.bank.toNat) = k sg.bank.toNat := yOf_b (by omega)
          show 0 ≤ yOf B k w (1 + sg.bank.toNat) - yOf B k w (5 + sg.day.toNat) ∧ _ ≤ (5 : Int)
          rw [eb, ew]; exact h1
        · rename_i h2
          rw [if_neg h2] at h1
          show 15 ≤ yOf B k w (5 + sg.day.toNat) - yOf B k w 0 ∧ yOf B k w (5 + sg.day.toNat) - yOf B k w 0 ≤ 65536
          rw [ew, yOf_0]; omega
    · have h1 := hw hwi i hi d (by omega) hds
      have h2 := h.kb hg hi
      have h3 := h.wb' hg (d := d) (by omega)
      show 0 ≤ yOf B k w (1 + i) - yOf B k w (5 + d) ∧ yOf B k w (1 + i) - yOf B k w (5 + d) ≤ 65536
      rw [yOf_b hi, yOf_w hg (show d ≤ B.rain.length by omega)]; omega
def kOf (y : Nat → Int) (i : Nat) : Int := y (1 + i) - y 0
def wOf (y : Nat → Int) (d : Nat) : Int := y (5 + d) - y 0
theorem way_tru {B : Bog} (hg : GoodB B) {m : Nat} {s : Int} {wi : Bool} {y : Nat → Int} (h : Tru B m s wi y) : TrW B m (kOf y) (wOf y) := by
  refine ⟨?_, fun i hi => ?_, fun d hd => ?_, fun j hj hm => ?_⟩
  · have h1 := h.2 (bW B) (mem_bounds.2 (.inl rfl)); exact h1
  · have h1 := h.2 (bB B i) (mem_bounds.2 (.inr (.inl ⟨i, hi, rfl⟩))); exact h1
  · have h1 := h.2 (bR B d) (mem_bounds.2 (.inr (.inr (.inl ⟨d, hd, rfl⟩))))
    have h2 : (B.rain.getD d default).lo - B.drain ≤ y (5 + d + 1) - y (5 + d) ∧ y (5 + d + 1) - y (5 + d) ≤ (B.rain.getD d default).hi - B.drain := h1
    show _ ≤ y (5 + d + 1) - y 0 - (y (5 + d) - y 0) ∧ y (5 + d + 1) - y 0 - (y (5 + d) - y 0) ≤ _
    omega
  · have h1 := h.2 (signB (B.signs.getD j default)) (mem_bounds.2 (.inr (.inr (.inr (.inl ⟨j, hj, hm, rfl⟩)))))
    generalize B.signs.getD j default = sg at *
    unfold Holds signB at h1
    unfold SignR kOf wOf
    split
    · rename_i h0
      rw [if_pos h0] at h1
      have h2 : 0 ≤ y (1 + sg.bank.toNat) - y (5 + sg.day.toNat) ∧ y (1 + sg.bank.toNat) - y (5 + sg.day.toNat) ≤ 10 := h1
      omega
    · rename_i h0
      rw [if_neg h0] at h1
      split
      · rename_i h3
        rw [if_pos h3] at h1
        have h2 : 0 ≤ y (1 + sg.bank.toNat) - y (5 + sg.day.toNat) ∧ y (1 + sg.bank.toNat) - y (5 + sg.day.toNat) ≤ 5 := h1
        omega
      · rename_i h3
        rw [if_neg h3] at h1
        have h2 : 15 ≤ y (5 + sg.day.toNat) - y 0 ∧ _ ≤ (65536 : Int) := h1
        exact h2.1
theorem can_way {B : Bog} (hg : GoodB B) {m : Nat} : canB B m 0 false = true ↔ ∃ k w, TrW B m k w := by
  rw [can_tru hg]
  constructor
  · rintro ⟨y, h⟩; exact ⟨_, _, way_tru hg h⟩
  · rintro ⟨k, w, h⟩; exact ⟨_, tru_way hg h fun h => by cases h⟩
theorem span_tru_mid {B : Bog} (hg : GoodB B) {m : Nat} {s : Int} {w : Bool} (hc : canB B m s w = true) {a b : Nat} (ha : a < 11) (hb : b < 11) {v : Int} (h1 : 0 - tat (knownT B m s w) b a ≤ v) (h2 : v ≤ tat (knownT B m s w) a b) : ∃ y, Tru B m s w y ∧ y a - y b = v := by
  have hcan : Can (tabB B m s w) := by unfold canB at hc; exact of_decide_eq_true hc
  have e1 := sat_hi (tabB_len B m s w) hcan hb
  have e2 := sat_hi (tabB_len B m s w) hcan ha
  refine ⟨fun i => min (tat (knownT B m s w) i b) (v + tat (knownT B m s w) i a), (sat_iff hg).1 fun i hi k hk => ?_, ?_⟩
  · have g1 : tat (knownT B m s w) i b - tat (knownT B m s w) k b ≤ tat (tabB B m s w) i k := e1 i hi k hk
    have g2 : tat (knownT B m s w) i a - tat (knownT B m s w) k a ≤ tat (tabB B m s w) i k := e2 i hi k hk
    show min _ _ - min _ _ ≤ _
    omega
  · have d1 := tabB_diag hg hc ha
    have d2 := tabB_diag hg hc hb
    show min _ _ - min _ _ = v
    omega
section
variable {B : Bog} (hg : GoodB B)
include hg
theorem margin_in {m : Nat} {k w : Nat → Int} (h : TrW B m k w) {i d : Nat} (hi : i < B.banks.length) (hd : d ≤ B.rain.length) : 0 - tat (knownT B m 0 false) (5 + d) (1 + i) ≤ k i - w d ∧ k i - w d ≤ tat (knownT B m 0 false) (1 + i) (5 + d) := by
  have h2 := hg.nr; have h1 := hg.nb
  have := span_tru hg (tru_way hg h (s := 0) (wi := false) fun h => by cases h) (a := 1 + i) (b := 5 + d) (by omega) (by omega)
  rw [yOf_w hg hd, yOf_b hi] at this
  exact this
theorem margin_mid {m : Nat} (hc : canB B m 0 false = true) {i d : Nat} (hi : i < B.banks.length) (hd : d ≤ B.rain.length) {v : Int} (h1 : 0 - tat (knownT B m 0 false) (5 + d) (1 + i) ≤ v) (h2 : v ≤ tat (knownT B m 0 false) (1 + i) (5 + d)) : ∃ k w, TrW B m k w ∧ k i - w d = v := by
  have h3 := hg.nr; have h4 := hg.nb
  obtain ⟨y, hy, e⟩ := span_tru_mid hg hc (a := 1 + i) (b := 5 + d) (by omega) (by omega) h1 h2
  exact ⟨_, _, way_tru hg hy, by show y (1 + i) - y 0 - (y (5 + d) - y 0) = v; omega⟩
theorem known_le {m : Nat} (hc : canB B m 0 false = true) {a b : Nat} (ha : a < 11) (hb : b < 11) : 0 - tat (knownT B m 0 false) b a ≤ tat (knownT B m 0 false) a b := by
  obtain ⟨y, hy⟩ := (can_tru hg).1 hc
  have := span_tru hg hy ha hb
  omega
end
end Burst8

namespace Go.Proofs.YtpndeonmmcaikaaGreat.BurstW
open Go.G Burst8
set_option maxRecDepth 1000000
attribute [local irreducible] fw fwR fwC emptyT tabOf knownT canB boundsL
section
variable {B X : Bog} (hg : GoodB B) (hx : GoodB X)
include hg hx
end
def moreK (x : Bank) (n : Int) : Bank := ⟨x.blo, x.bhi, x.clo + n, x.chi + n⟩
def cutB (B : Bog) (b : Nat) (n : Int) : Bog := { B with banks := B.banks.set b (moreK (B.banks.getD b default) n) }
def NoSign (B : Bog) (b : Nat) : Prop := ∀ j, j < B.signs.length → ¬ ((B.signs.getD j default).kind ≠ 2 ∧ (B.signs.getD j default).bank = (b : Int))
section
variable {B : Bog} {b : Nat} {n : Int} (hg : GoodB B) (hb : b < B.banks.length) (hn : NoSign B b)
include hg hb hn
variable (hx : GoodB (cutB B b n))
include hx
variable (hc : canB B (allS B) 0 false = true)
include hc
end
end Go.Proofs.YtpndeonmmcaikaaGreat.BurstW

namespace Go.G
theorem splice_len : ∀ (us vs : List Value) (off : Nat), (splice vs off us).length = vs.length
  | [], _, _ => rfl
  | u :: us, vs, off => by
    show (splice (vs.set off u) (off + 1) us).length = _
    rw [splice_len us, List.length_set]
theorem flat_set {α : Type} [Inhabited α] {enc : α → List Value} {sz : Nat} (henc : ∀ x, (enc x).length = sz) {y : α} {v : Value} {sp : List Value} : ∀ (xs : List α) (i j : Nat), i < xs.length → j < sz → enc y = (enc (xs.getD i default)).set j v → (xs.flatMap enc ++ sp).set (i * sz + j) v = (xs.set i y).flatMap enc ++ sp
  | [], i, j, h, _, _ => by simp at h
  | x :: r, 0, j, _, hj, he => by
    simp only [List.flatMap_cons, List.set_cons_zero, Nat.zero_mul, Nat.zero_add, List.append_assoc]
    rw [List.set_append_left _ _ (by rw [henc]; exact hj)]
    have he : enc y = (enc x).set j v := he
    rw [he]
  | x :: r, i + 1, j, h, hj, he => by
    simp only [List.flatMap_cons, List.set_cons_succ, List.append_assoc]
    rw [List.set_append_right _ _ (by rw [henc, Nat.add_mul]; omega), henc, show (i + 1) * sz + j - sz = i * sz + j from by rw [Nat.add_mul]; omega]
    rw [flat_set henc r i j (by simpa using h) hj he]
theorem flat_get {α : Type} [Inhabited α] {enc : α → List Value} {sz : Nat} (henc : ∀ x, (enc x).length = sz) {sp : List Value} {xs : List α} {i j : Nat} (hi : i < xs.length) (hj : j < sz) : (xs.flatMap enc ++ sp)[i * sz + j]? = (enc (xs.getD i default))[j]? := by
  have h : i * sz + j < (xs.flatMap enc).length := by
    rw [flat_len henc]
    have : (i + 1) * sz ≤ xs.length * sz := Nat.mul_le_mul_right _ hi
    rw [Nat.add_mul] at this; omega
  rw [List.getElem?_append_left h, flat_at henc xs i j hi hj]
  congr 1
  simp [List.getD_eq_getElem?_getD, hi]
end Go.G

namespace Go.Proofs.YtpndeonmmcaikaaGreat.BurstW
open Go.G Burst8
set_option maxRecDepth 1000000
attribute [local irreducible] fw fwR fwC emptyT tabOf knownT canB boundsL
section
variable {B : Bog} (hg : GoodB B) (m : Nat)
include hg
end
end Go.Proofs.YtpndeonmmcaikaaGreat.BurstW
namespace Go.G
variable {P : Program} {W : World} {n : Nat} {D : List Deferred} {L : Tm} {M : List Res} {R : List Fact} {Q : Exit → Act → World → Prop} {o : Oper}
end Go.G

namespace Go.Proofs.YtpndeonmmcaikaaGreat.BurstW
open Go.G Burst8
set_option maxRecDepth 1000000
attribute [local irreducible] fw fwR fwC emptyT tabOf knownT canB boundsL
def InF (f : Nat → Burst8.Span → Int) : Prop := ∀ k s, s.lo ≤ s.hi → s.lo ≤ f k s ∧ f k s ≤ s.hi
section
variable (B : Bog) (f : Nat → Burst8.Span → Int)
instance (s : Sign) (k w : Nat → Int) : Decidable (SignR s k w) := by unfold SignR; infer_instance
end
section
variable {B : Bog} {f : Nat → Burst8.Span → Int}
variable (hg : GoodB B)
include hg
variable (hf : InF f)
include hf
end
def calmI (n : Nat) (k w : Nat → Int) (d i : Nat) : Prop := (∀ j, j < d → ∀ i', i' < n → w j ≤ k i') ∧ ∀ i', i' < i → w d ≤ k i'
instance (n : Nat) (k w : Nat → Int) (d i : Nat) : Decidable (calmI n k w d i) := by unfold calmI; infer_instance
def calmF (n : Nat) (k w : Nat → Int) (d i : Nat) : Int := if calmI n k w d i then 1 else 0
theorem calmF_iff {n : Nat} {k w : Nat → Int} {d i : Nat} : calmF n k w d i = 1 ↔ calmI n k w d i := by unfold calmF; split <;> simp [*]
section
variable {X : Bog} (hx : GoodB X) {k w : Nat → Int} (h : TrW X (allS X) k w)
include hx h
theorem tr_can : canB X (allS X) 0 false = true := (can_way hx).2 ⟨k, w, h⟩
theorem tr_margin {i d : Nat} (hi : i < X.banks.length) (hd : d ≤ X.rain.length) : (marginT (tB X) i d).lo ≤ k i - w d ∧ k i - w d ≤ (marginT (tB X) i d).hi := margin_in hx h hi hd
theorem tr_some0 {d : Nat} (hd : d ≤ X.rain.length) (h0 : ∀ j, j ≤ d → mvTo (someB X j) X.banks.length = 0) : calmF X.banks.length k w d X.banks.length = 1 := by
  refine calmF_iff.2 ⟨fun j hj i hi => ?_, fun i hi => ?_⟩
  · have h1 := (tr_margin hx h hi (show j ≤ X.rain.length by omega)).1
    have h2 := some_zero.1 (h0 j (by omega)) i hi
    omega
  · have h1 := (tr_margin hx h hi hd).1
    have h2 := some_zero.1 (h0 d (Nat.le_refl _)) i hi
    omega
theorem tr_until {d : Nat} (hd : d ≤ X.rain.length) (hu : (d : Int) ≤ lastB X) : calmF X.banks.length k w d X.banks.length = 1 := tr_some0 hx h hd ((last_iff hx hd).1 hu)
end
theorem until_cases {X : Bog} (hx : GoodB X) (hc : canB X (allS X) 0 false = true) : ((untilB X).2 = 0 ∧ (untilB X).1 = lastB X ∧ 0 ≤ lastB X) ∨ ((untilB X).2 = 4 ∧ (untilB X).1 = 0) := by
  unfold untilB
  by_cases h : 0 ≤ lastB X
  · left
    rw [ansE_0 (chkB_0 hx rfl hc) h]
    exact ⟨rfl, rfl, h⟩
  · right
    rw [ansE_4 (chkB_0 hx rfl hc) h]
    exact ⟨rfl, rfl⟩
end Go.Proofs.YtpndeonmmcaikaaGreat.BurstW

namespace Foot4
open Go Go.G
structure T3 where
  a : Int
  b : Int
  c : Int
  deriving DecidableEq, Inhabited
def T3.at (t : T3) (k : Nat) : Int := if k = 0 then t.a else if k = 1 then t.b else t.c
structure Span where
  lo : Int
  hi : Int
  deriving DecidableEq, Inhabited
structure Heap where
  lo : Int
  hi : Int
  sods : Int
  deriving DecidableEq, Inhabited
structure Work where
  rain : List Span
  men : Int
  lim : T3
  dr : T3
  heaps : List Heap
abbrev i64 (n : Int) : Value := .int .i64 n
def encT (t : T3) : List Value := [i64 t.a, i64 t.b, i64 t.c]
def encS (s : Span) : List Value := [i64 s.lo, i64 s.hi]
def encH (h : Heap) : List Value := [i64 h.lo, i64 h.hi, i64 h.sods]
@[reducible] def cellsF (F : Work) (ro : Option Addr) (rc : Nat) (ho : Option Addr) (hc : Nat) : List Value :=
  [.slice ro F.rain.length rc, i64 F.men, i64 F.lim.a, i64 F.lim.b, i64 F.lim.c, i64 F.dr.a, i64 F.dr.b, i64 F.dr.c, .slice ho F.heaps.length hc]
@[reducible] def valF (F : Work) (ro : Option Addr) (rc : Nat) (ho : Option Addr) (hc : Nat) : Value := .agg (cellsF F ro rc ho hc).toArray
theorem t3_atn {a b c : Int} {k : Nat} (h1 : k < 3) : [i64 a, i64 b, i64 c][0 + k * 1]? = some (i64 (T3.at ⟨a, b, c⟩ k)) := by
  obtain rfl | rfl | rfl : k = 0 ∨ k = 1 ∨ k = 2 := by omega
  all_goals rfl
theorem F_limn {F : Work} {v m h : Value} {k : Nat} (h1 : k < 3) : [v, m, i64 F.lim.a, i64 F.lim.b, i64 F.lim.c, i64 F.dr.a, i64 F.dr.b, i64 F.dr.c, h][0 + 2 + k * 1]? = some (i64 (F.lim.at k)) := by
  obtain rfl | rfl | rfl : k = 0 ∨ k = 1 ∨ k = 2 := by omega
  all_goals rfl
theorem F_drn {F : Work} {v m h : Value} {k : Nat} (h1 : k < 3) : [v, m, i64 F.lim.a, i64 F.lim.b, i64 F.lim.c, i64 F.dr.a, i64 F.dr.b, i64 F.dr.c, h][0 + 5 + k * 1]? = some (i64 (F.dr.at k)) := by
  obtain rfl | rfl | rfl : k = 0 ∨ k = 1 ∨ k = 2 := by omega
  all_goals rfl
def doneTo (p : T3) (day : Int) : Nat → Int
  | 0 => 0
  | k + 1 => doneTo p day k + (if 0 ≤ p.at k ∧ p.at k ≤ day then 1 else 0)
def Done (p : T3) (day : Int) : Int := doneTo p day 3
def step (n rain dr : Int) : Int := max 0 (n + rain - dr)
def worstTo (F : Work) (heap : Nat) (p : T3) : Nat → Int
  | 0 => (F.heaps.getD heap default).hi
  | d + 1 => if Done p d < 3 then step (worstTo F heap p d) (F.rain.getD d default).hi (F.dr.at (Done p d).toNat) else worstTo F heap p d
theorem all_step {p : Nat → Prop} {k : Nat} (h : ∀ j, j < k → p j) (hk : p k) : ∀ j, j < k + 1 → p j := fun j hj => by
  by_cases e : j = k
  · subst e; exact hk
  · exact h j (by omega)
def SpanOk (s : Span) (m : Int) : Prop := 0 ≤ s.lo ∧ s.lo ≤ s.hi ∧ s.hi ≤ m
instance (s : Span) (m : Int) : Decidable (SpanOk s m) := by unfold SpanOk; infer_instance
def GoodF (F : Work) : Prop := (1 ≤ (F.rain.length : Int) ∧ (F.rain.length : Int) ≤ 8) ∧ (0 ≤ F.men ∧ F.men ≤ 3) ∧ (F.heaps.length : Int) ≤ 3 ∧ (∀ k, k < F.rain.length → 0 ≤ (F.rain.getD k default).lo ∧ (F.rain.getD k default).lo ≤ (F.rain.getD k default).hi ∧ (F.rain.getD k default).hi ≤ 10) ∧
  (∀ k, k < 3 → (0 ≤ F.lim.at k ∧ F.lim.at k ≤ 60) ∧ (0 ≤ F.dr.at k ∧ F.dr.at k ≤ 10)) ∧
  (∀ k, k < F.heaps.length → (0 ≤ (F.heaps.getD k default).lo ∧ (F.heaps.getD k default).lo ≤ (F.heaps.getD k default).hi ∧ (F.heaps.getD k default).hi ≤ 60) ∧ (0 ≤ (F.heaps.getD k default).sods ∧ (F.heaps.getD k default).sods ≤ 500))
instance (F : Work) : Decidable (GoodF F) := by unfold GoodF; infer_instance
def Ordered (p : T3) (k : Nat) : Prop := p.at k < 0 ∨ k = 0 ∨ (0 ≤ p.at (k - 1) ∧ p.at (k - 1) < p.at k)
instance (p : T3) (k : Nat) : Decidable (Ordered p k) := by unfold Ordered; infer_instance
def Days (n : Nat) (p : T3) : Prop := ∀ k, k < 3 → -1 ≤ p.at k ∧ p.at k ≤ (n : Int) - 1
instance (n : Nat) (p : T3) : Decidable (Days n p) := by unfold Days; infer_instance
def IsPlan (n : Nat) (p : T3) : Prop := Days n p ∧ Ordered p 0 ∧ Ordered p 1 ∧ Ordered p 2
instance (n : Nat) (p : T3) : Decidable (IsPlan n p) := by unfold IsPlan; infer_instance
def cs3 (n a b : Nat) : List T3 := (List.range' (b + 1) (n - (b + 1))).map fun c : Nat => ⟨a, b, c⟩
def bs3 (n a : Nat) : List T3 := (List.range' (a + 1) (n - (a + 1))).flatMap (cs3 n a)
def whole (n : Nat) : List T3 := (List.range n).flatMap (bs3 n)
def wholeA (n a : Nat) : List T3 := (List.range a).flatMap (bs3 n)
def wholeB (n a b : Nat) : List T3 := wholeA n a ++ (List.range' (a + 1) (b - (a + 1))).flatMap (cs3 n a)
def wholeC (n a b c : Nat) : List T3 := wholeB n a b ++ (List.range' (b + 1) (c - (b + 1))).map fun c : Nat => (⟨a, b, c⟩ : T3)
theorem range'_next {s c : Nat} (h : s ≤ c) : List.range' s (c + 1 - s) = List.range' s (c - s) ++ [c] := by
  rw [show c + 1 - s = (c - s) + 1 from by omega, List.range'_1_concat, show s + (c - s) = c from by omega]
theorem wholeC_step {n a b c : Nat} (h : b < c) : wholeC n a b (c + 1) = wholeC n a b c ++ [⟨a, b, c⟩] := by
  unfold wholeC; rw [range'_next (by omega)]; simp
theorem wholeC_0 {n a b : Nat} : wholeB n a b = wholeC n a b (b + 1) := by simp [wholeC]
theorem wholeB_step {n a b : Nat} (h : a < b) : wholeC n a b (max n (b + 1)) = wholeB n a (b + 1) := by
  unfold wholeC wholeB; rw [range'_next (by omega)]
  simp only [List.flatMap_append, List.flatMap_cons, List.flatMap_nil, List.append_nil, List.append_assoc]
  congr 2
  unfold cs3
  rw [show max n (b + 1) - (b + 1) = n - (b + 1) from by omega]
theorem wholeB_0 {n a : Nat} : wholeA n a = wholeB n a (a + 1) := by simp [wholeB]
theorem wholeA_step {n a : Nat} : wholeB n a (max n (a + 1)) = wholeA n (a + 1) := by
  unfold wholeB wholeA; rw [List.range_succ]
  simp only [List.flatMap_append, List.flatMap_cons, List.flatMap_nil, List.append_nil]
  congr 1
  unfold bs3
  rw [show max n (a + 1) - (a + 1) = n - (a + 1) from by omega]
theorem flatMap_len {α β : Type} (f : α → List β) (k : Nat) : ∀ (l : List α), (∀ x ∈ l, (f x).length ≤ k) → (l.flatMap f).length ≤ l.length * k
  | [], _ => by simp
  | x :: r, h => by
    have h1 := h x (by simp)
    have h2 := flatMap_len f k r (fun y hy => h y (by simp [hy]))
    simp only [List.flatMap_cons, List.length_append, List.length_cons, Nat.add_mul]
    omega
theorem wholeC_len {n a b c : Nat} (hn : n ≤ 8) (ha : a ≤ 8) (hb : b ≤ 9) (hc : c ≤ 10) : (wholeC n a b c).length ≤ 1000 := by
  have hcs : ∀ a b, (cs3 n a b).length ≤ 8 := fun a b => by simp [cs3]; omega
  have hbs : ∀ a, (bs3 n a).length ≤ 64 := fun a => by
    have := flatMap_len (cs3 n a) 8 (List.range' (a + 1) (n - (a + 1))) (fun b _ => hcs a b)
    simp only [List.length_range'] at this
    unfold bs3
    have : (n - (a + 1)) * 8 ≤ 8 * 8 := Nat.mul_le_mul_right _ (by omega)
    omega
  have h1 := flatMap_len (bs3 n) 64 (List.range a) (fun a _ => hbs a)
  have h2 := flatMap_len (cs3 n a) 8 (List.range' (a + 1) (b - (a + 1))) (fun b _ => hcs a b)
  simp only [List.length_range, List.length_range'] at h1 h2
  unfold wholeC wholeB wholeA
  simp only [List.length_append, List.length_map, List.length_range']
  have : a * 64 ≤ 8 * 64 := Nat.mul_le_mul_right _ ha
  have : (b - (a + 1)) * 8 ≤ 9 * 8 := Nat.mul_le_mul_right _ (by omega)
  omega
theorem encT_len (t : T3) : (encT t).length = 3 := rfl
theorem encS_len (t : Span) : (encS t).length = 2 := rfl
theorem encH_len (t : Heap) : (encH t).length = 3 := rfl
structure Bnd (F : Work) : Prop where
  rain : ∀ k, 0 ≤ (F.rain.getD k default).lo ∧ (F.rain.getD k default).lo ≤ 10 ∧ 0 ≤ (F.rain.getD k default).hi ∧ (F.rain.getD k default).hi ≤ 10
  dr : ∀ k, 0 ≤ F.dr.at k ∧ F.dr.at k ≤ 10
  len : F.rain.length ≤ 8
  heap : ∀ k, 0 ≤ (F.heaps.getD k default).lo ∧ (F.heaps.getD k default).lo ≤ 60 ∧ 0 ≤ (F.heaps.getD k default).hi ∧ (F.heaps.getD k default).hi ≤ 60
theorem GoodF.bnd {F : Work} (g : GoodF F) : Bnd F := by
  obtain ⟨g1, g2, g3, g4, g5, g6⟩ := g
  refine ⟨fun k => ?_, fun k => ?_, by omega, fun k => ?_⟩
  · by_cases h : k < F.rain.length
    · have := g4 k h; omega
    · have : F.rain.getD k default = default := by simp [List.getD, List.getElem?_eq_none (by omega : F.rain.length ≤ k)]
      rw [this]; decide
  · by_cases h : k < 3
    · exact (g5 k h).2
    · have : F.dr.at k = F.dr.at 2 := by simp [T3.at]; omega
      rw [this]; exact (g5 2 (by omega)).2
  · by_cases h : k < F.heaps.length
    · have := g6 k h; omega
    · have : F.heaps.getD k default = default := by simp [List.getD, List.getElem?_eq_none (by omega : F.heaps.length ≤ k)]
      rw [this]; decide
def chk (F : Work) (v : Bool) : Int := if GoodF F then (if v then 0 else 2) else 1
def okStep (F : Work) (wx : Work → Nat → T3 → Nat → Int) (heap : Nat) (p : T3) (k : Nat) : Prop := p.at k < 0 ∨ wx F heap p (p.at k).toNat ≤ F.lim.at k
instance (F : Work) (wx : Work → Nat → T3 → Nat → Int) (heap : Nat) (p : T3) (k : Nat) : Decidable (okStep F wx heap p k) := by unfold okStep; infer_instance
theorem step_bd {n r d B : Int} (h0 : 0 ≤ n) (h1 : n ≤ B) (h2 : 0 ≤ r) (h3 : r ≤ 10) (h4 : 0 ≤ d) : 0 ≤ step n r d ∧ step n r d ≤ B + 10 := by
  unfold step; omega
theorem Bnd.wet {F : Work} (h : Bnd F) (heap d : Nat) (p : T3) : 0 ≤ worstTo F heap p d ∧ worstTo F heap p d ≤ 60 + 10 * d := by
  induction d with
  | zero => have := h.heap heap; simp only [worstTo]; omega
  | succ d ih =>
    simp only [worstTo]
    split
    · have := h.rain d; have := h.dr (Done p d).toNat
      have := step_bd ih.1 ih.2 (by omega : 0 ≤ (F.rain.getD d default).hi) (by omega) (h.dr (Done p d).toNat).1
      omega
    · omega
end Foot4

namespace Sod2
open Go Go.G Foot4
structure Spit where
  sods : Int
  lo : Int
  hi : Int
  deriving DecidableEq, Inhabited
structure LogS where
  day : Int
  lo : Int
  hi : Int
  deriving DecidableEq, Inhabited
structure Bank where
  spits : List Spit
  days : List Span
  logs : List LogS
def encSp (p : Spit) : List Value := [i64 p.sods, i64 p.lo, i64 p.hi]
def encLg (l : LogS) : List Value := [i64 l.day, i64 l.lo, i64 l.hi]
theorem encSp_len (t : Spit) : (encSp t).length = 3 := rfl
theorem encLg_len (t : LogS) : (encLg t).length = 3 := rfl
@[reducible] def cellsS (B : Bank) (po : Option Addr) (pc : Nat) (so : Option Addr) (sc : Nat) (lo : Option Addr) (lc : Nat) : List Value :=
  [.slice po B.spits.length pc, .slice so B.days.length sc, .slice lo B.logs.length lc]
@[reducible] def valS (B : Bank) (po : Option Addr) (pc : Nat) (so : Option Addr) (sc : Nat) (lo : Option Addr) (lc : Nat) : Value := .agg (cellsS B po pc so sc lo lc).toArray
def GoodS (B : Bank) : Prop := (1 ≤ (B.spits.length : Int) ∧ (B.spits.length : Int) ≤ 3) ∧ (1 ≤ (B.days.length : Int) ∧ (B.days.length : Int) ≤ 6) ∧ (B.logs.length : Int) ≤ 4 ∧
  (∀ k, k < B.spits.length → (1 ≤ (B.spits.getD k default).sods ∧ (B.spits.getD k default).sods ≤ 30) ∧ (1 ≤ (B.spits.getD k default).lo ∧ (B.spits.getD k default).lo ≤ (B.spits.getD k default).hi ∧ (B.spits.getD k default).hi ≤ 6) ∧ (B.spits.getD k default).hi - (B.spits.getD k default).lo ≤ 2) ∧
  (∀ k, k < B.days.length → 0 ≤ (B.days.getD k default).lo ∧ (B.days.getD k default).lo ≤ (B.days.getD k default).hi ∧ (B.days.getD k default).hi ≤ 100) ∧
  (∀ k, k < B.logs.length → (0 ≤ (B.logs.getD k default).day ∧ (B.logs.getD k default).day ≤ (B.days.length : Int) - 1) ∧ (0 ≤ (B.logs.getD k default).lo ∧ (B.logs.getD k default).lo ≤ (B.logs.getD k default).hi ∧ (B.logs.getD k default).hi ≤ 200))
instance (B : Bank) : Decidable (GoodS B) := by unfold GoodS; infer_instance
structure BndS (B : Bank) : Prop where
  spit : ∀ k, 0 ≤ (B.spits.getD k default).sods ∧ (B.spits.getD k default).sods ≤ 30 ∧ 0 ≤ (B.spits.getD k default).lo ∧ (B.spits.getD k default).lo ≤ 6 ∧ 0 ≤ (B.spits.getD k default).hi ∧ (B.spits.getD k default).hi ≤ 6
  day : ∀ k, 0 ≤ (B.days.getD k default).lo ∧ (B.days.getD k default).lo ≤ 100 ∧ 0 ≤ (B.days.getD k default).hi ∧ (B.days.getD k default).hi ≤ 100
  log : ∀ k, 0 ≤ (B.logs.getD k default).day ∧ (B.logs.getD k default).day ≤ 5 ∧ 0 ≤ (B.logs.getD k default).lo ∧ (B.logs.getD k default).lo ≤ 200 ∧ 0 ≤ (B.logs.getD k default).hi ∧ (B.logs.getD k default).hi ≤ 200
theorem GoodS.bnd {B : Bank} (g : GoodS B) : BndS B := by
  obtain ⟨g1, g2, g3, g4, g5, g6⟩ := g
  refine ⟨fun k => ?_, fun k => ?_, fun k => ?_⟩
  · by_cases h : k < B.spits.length
    · have := g4 k h; omega
    · have : B.spits.getD k default = default := by simp [List.getD, List.getElem?_eq_none (by omega : B.spits.length ≤ k)]
      rw [this]; decide
  · by_cases h : k < B.days.length
    · have := g5 k h; omega
    · have : B.days.getD k default = default := by simp [List.getD, List.getElem?_eq_none (by omega : B.days.length ≤ k)]
      rw [this]; decide
  · by_cases h : k < B.logs.length
    · have := g6 k h; omega
    · have : B.logs.getD k default = default := by simp [List.getD, List.getElem?_eq_none (by omega : B.logs.length ≤ k)]
      rw [this]; decide
def cutL (c : T3) : List Spit → Nat → Int → Int
  | [], _, _ => 0
  | p :: ps, i, m => if min p.sods (m / c.at i) < p.sods then min p.sods (m / c.at i) else min p.sods (m / c.at i) + cutL c ps (i + 1) (m - min p.sods (m / c.at i) * c.at i)
def sodsOf (B : Bank) (c : T3) (m : Int) : Int := cutL c B.spits 0 m
def dec (m x : Int) : Nat → Int
  | 0 => m
  | j + 1 => dec m x j - x
theorem dec_eq (m x : Int) (j : Nat) : dec m x j = m - j * x := by
  induction j with
  | zero => simp [dec]
  | succ j ih => rw [dec, ih]; simp only [Int.natCast_add, Int.natCast_one, Int.add_mul]; omega
theorem min_i {a b : Int} (h : a ≤ b) : min a b = a := by omega
theorem min_j {a b : Int} (h : b ≤ a) : min a b = b := by omega
theorem div_is {m x : Int} {j : Nat} (hx : 0 < x) (h0 : 0 ≤ dec m x j) (h1 : dec m x j < x) : m / x = j := by
  rw [dec_eq] at h0 h1
  have e : m = x * j + (m - j * x) := by rw [Int.mul_comm x]; omega
  rw [e, Int.mul_add_ediv_left _ _ (by omega), Int.ediv_eq_zero_of_lt h0 h1]; omega
theorem div_ge {m x : Int} {j : Nat} (hx : 0 < x) (h0 : 0 ≤ dec m x j) : (j : Int) ≤ m / x := by
  rw [dec_eq] at h0
  exact (Int.le_ediv_iff_mul_le hx).2 (by omega)
theorem cut_stop {c : T3} {p : Spit} {ps : List Spit} {i : Nat} {m : Int} {j : Nat} (hx : 0 < c.at i) (h0 : 0 ≤ dec m (c.at i) j) (h1 : dec m (c.at i) j < c.at i) (hj : (j : Int) < p.sods) : cutL c (p :: ps) i m = j := by
  rw [cutL, div_is hx h0 h1, min_j (by omega), if_pos hj]
theorem cut_on {c : T3} {p : Spit} {ps : List Spit} {i : Nat} {m : Int} {j : Nat} (hx : 0 < c.at i) (h0 : 0 ≤ dec m (c.at i) j) (hj : (j : Int) = p.sods) : cutL c (p :: ps) i m = j + cutL c ps (i + 1) (dec m (c.at i) j) := by
  have := div_ge hx h0
  rw [cutL, min_i (by omega), if_neg (by omega), ← hj, dec_eq]
theorem drop_cons {α : Type} {l : List α} {k : Nat} [Inhabited α] (h : k < l.length) : l.drop k = l.getD k default :: l.drop (k + 1) := by
  rw [List.getD_eq_getElem?_getD, List.getElem?_eq_getElem h]; simp
def cutK (B : Bank) (c : T3) (k : Nat) (m : Int) : Int := cutL c (B.spits.drop k) k m
theorem cutK_0 {B : Bank} {c : T3} {m : Int} : cutK B c 0 m = sodsOf B c m := rfl
theorem cutK_end {B : Bank} {c : T3} {k : Nat} {m : Int} (h : B.spits.length ≤ k) : cutK B c k m = 0 := by
  unfold cutK; rw [List.drop_eq_nil_of_le h]; rfl
theorem cutK_stop {B : Bank} {c : T3} {k : Nat} {m : Int} {j : Nat} (hk : k < B.spits.length) (hx : 0 < c.at k) (h0 : 0 ≤ dec m (c.at k) j) (h1 : dec m (c.at k) j < c.at k) (hj : (j : Int) < (B.spits.getD k default).sods) : cutK B c k m = j := by
  unfold cutK; rw [drop_cons hk]; exact cut_stop hx h0 h1 hj
theorem cutK_on {B : Bank} {c : T3} {k : Nat} {m : Int} {j : Nat} (hk : k < B.spits.length) (hx : 0 < c.at k) (h0 : 0 ≤ dec m (c.at k) j) (hj : (j : Int) = (B.spits.getD k default).sods) : cutK B c k m = j + cutK B c (k + 1) (dec m (c.at k) j) := by
  unfold cutK; rw [drop_cons hk]; exact cut_on hx h0 hj
theorem cutK_div {B : Bank} {c : T3} {k : Nat} {m : Int} (hk : k < B.spits.length) : cutK B c k m = if min (B.spits.getD k default).sods (m / c.at k) < (B.spits.getD k default).sods then min (B.spits.getD k default).sods (m / c.at k) else min (B.spits.getD k default).sods (m / c.at k) + cutK B c (k + 1) (m - min (B.spits.getD k default).sods (m / c.at k) * c.at k) := by
  unfold cutK; rw [drop_cons hk, cutL]
def strS (B : Bank) (c : T3) (s : Int) : Nat → Int × Int
  | 0 => (0, s)
  | k + 1 => ((strS B c s k).1 + min (strS B c s k).2 (B.spits.getD k default).sods * c.at k, (strS B c s k).2 - min (strS B c s k).2 (B.spits.getD k default).sods)
def strokes (B : Bank) (c : T3) (s : Int) : Int := if 0 < (strS B c s B.spits.length).2 then 1048576 else (strS B c s B.spits.length).1
def cntTo (B : Bank) (c : T3) (d : Nat) (m : Span) : Nat → Span
  | 0 => m
  | k + 1 => if (B.logs.getD k default).day = d then ⟨max (cntTo B c d m k).lo (strokes B c (B.logs.getD k default).lo), min (cntTo B c d m k).hi (strokes B c ((B.logs.getD k default).hi + 1) - 1)⟩ else cntTo B c d m k
def nowF (B : Bank) (c : T3) : Nat → Span
  | 0 => ⟨0, 0⟩
  | d + 1 => cntTo B c d ⟨(nowF B c d).lo + (B.days.getD d default).lo, (nowF B c d).hi + (B.days.getD d default).hi⟩ B.logs.length
def someTo (B : Bank) (c : T3) (d : Nat) : Prop := ∀ k, k < d → (nowF B c (k + 1)).lo ≤ (nowF B c (k + 1)).hi
instance (B : Bank) (c : T3) (d : Nat) : Decidable (someTo B c d) := by unfold someTo; infer_instance
abbrev canC (B : Bank) (c : T3) : Prop := someTo B c B.days.length
def bk (B : Bank) (c : T3) : Nat → Span
  | 0 => nowF B c B.days.length
  | j + 1 => ⟨max (nowF B c (B.days.length - 1 - j)).lo ((bk B c j).lo - (B.days.getD (B.days.length - 1 - j) default).hi), min (nowF B c (B.days.length - 1 - j)).hi ((bk B c j).hi - (B.days.getD (B.days.length - 1 - j) default).lo)⟩
def lastF (B : Bank) (c : T3) (d : Nat) : Span := bk B c (B.days.length - 1 - d)
def fwdD (B : Bank) (c : T3) (d : Nat) : Nat → Span := fun i => if i < d then nowF B c (i + 1) else ⟨0, 0⟩
def bckD (B : Bank) (c : T3) (d : Nat) : Nat → Span := fun i => if i < B.days.length then (if d ≤ i then lastF B c i else nowF B c (i + 1)) else ⟨0, 0⟩
def upTo (B : Bank) (c : T3) : Nat → Nat
  | 0 => 0
  | d + 1 => if someTo B c d ∧ ¬ (nowF B c (d + 1)).lo ≤ (nowF B c (d + 1)).hi then d else upTo B c d
def logD (B : Bank) (c : T3) : Nat → Span := if canC B c then bckD B c 0 else fwdD B c (upTo B c B.days.length)
def set3 (t : T3) (k : Nat) (x : Int) : T3 := if k = 0 then ⟨x, t.b, t.c⟩ else if k = 1 then ⟨t.a, x, t.c⟩ else ⟨t.a, t.b, x⟩
def costsL : List Spit → Nat → T3 → List T3
  | [], _, c => [c]
  | p :: ps, i, c => (List.range (p.hi - p.lo + 1).toNat).flatMap fun j : Nat => costsL ps (i + 1) (set3 c i (p.lo + j))
def allC (B : Bank) : List T3 := costsL B.spits 0 ⟨0, 0, 0⟩
def canS (B : Bank) : Prop := ∃ c ∈ allC B, canC B c
instance (B : Bank) : Decidable (canS B) := by unfold canS; infer_instance
def goodC (B : Bank) : List T3 := (allC B).filter fun c => decide (canC B c)
def cutSp (B : Bank) (d : Nat) (c : T3) : Span := ⟨sodsOf B c (logD B c d).lo, sodsOf B c (logD B c d).hi⟩
def hullS : List Span → Span
  | [] => ⟨0, 0⟩
  | s :: l => l.foldl (fun a x => ⟨min a.lo x.lo, max a.hi x.hi⟩) s
def cutB (B : Bank) (d : Nat) : Span := hullS ((goodC B).map (cutSp B d))
end Sod2

namespace Sod2
open Go Go.G Foot4
def encI (x : Int) : List Value := [i64 x]
theorem encI_len (x : Int) : (encI x).length = 1 := rfl
def ofL (l : List Int) : T3 := ⟨l.getD 0 default, l.getD 1 default, l.getD 2 default⟩
theorem at_ofL {l : List Int} {k : Nat} (h : k < 3) : (ofL l).at k = l.getD k default := by
  obtain rfl | rfl | rfl : k = 0 ∨ k = 1 ∨ k = 2 := by omega
  all_goals rfl
structure MinMul (s m x : Int) : Prop where
  lo : 0 ≤ min s (m / x) * x
  hi : min s (m / x) * x ≤ m
theorem min_mul {s m x : Int} (hs : 0 ≤ s) (hm : 0 ≤ m) (hx : 0 < x) : MinMul s m x := by
  have h0 : 0 ≤ m / x := Int.ediv_nonneg hm (by omega)
  refine ⟨Int.mul_nonneg (by omega) (by omega), ?_⟩
  have h1 : min s (m / x) * x ≤ m / x * x := Int.mul_le_mul_of_nonneg_right (by omega) (by omega)
  have h2 : m / x * x ≤ m := Int.ediv_mul_le m (by omega)
  omega
theorem MinMul.bd {s m x : Int} (h : MinMul s m x) (hm : m ≤ 1000000) : -9223372036854775808 ≤ min s (m / x) * x ∧ min s (m / x) * x ≤ 9223372036854775807 := by
  have := h.lo
  have := h.hi
  omega
end Sod2

namespace Sod2
open Go Go.G Foot4
def InC (c : T3) : Prop := ∀ k, k < 3 → 0 ≤ c.at k ∧ c.at k ≤ 6
theorem mul_bd {a b A : Int} (ha : 0 ≤ a) (hA : a ≤ A) (hb : 0 ≤ b) (hB : b ≤ 6) : 0 ≤ a * b ∧ a * b ≤ A * 6 := by
  refine ⟨Int.mul_nonneg ha hb, ?_⟩
  have h1 : a * b ≤ A * b := Int.mul_le_mul_of_nonneg_right hA hb
  have h2 : A * b ≤ A * 6 := Int.mul_le_mul_of_nonneg_left hB (by omega)
  omega
theorem strS_bd {B : Bank} {c : T3} {s : Int} (hb : BndS B) (hc : InC c) (hs : 0 ≤ s) : ∀ k, k ≤ 3 → (0 ≤ (strS B c s k).1 ∧ (strS B c s k).1 ≤ 180 * k) ∧ 0 ≤ (strS B c s k).2 ∧ (strS B c s k).2 ≤ s
  | 0, _ => ⟨⟨Int.le_refl _, by show (0 : Int) ≤ _; omega⟩, hs, Int.le_refl _⟩
  | k + 1, h => by
    obtain ⟨⟨h1, h2⟩, h3, h4⟩ := strS_bd hb hc hs k (by omega)
    have h5 := hb.spit k
    have h6 := hc k (by omega)
    have h7 := mul_bd (a := min (strS B c s k).2 (B.spits.getD k default).sods) (A := 30) (by omega) (by omega) h6.1 h6.2
    simp only [strS]
    push_cast
    omega
theorem strokes_bd {B : Bank} {c : T3} {s : Int} (hg : GoodS B) (hc : InC c) (hs : 0 ≤ s) : 0 ≤ strokes B c s ∧ strokes B c s ≤ 1048576 := by
  have h3 := hg.1
  have := strS_bd hg.bnd hc hs B.spits.length (by omega)
  unfold strokes
  split <;> omega
@[reducible] def v3 (c : T3) : Value := .agg #[i64 c.a, i64 c.b, i64 c.c]
@[reducible] def vS (s : Span) : Value := .agg #[i64 s.lo, i64 s.hi]
def comS (x y : Span) : Span := ⟨max x.lo y.lo, min x.hi y.hi⟩
def SmS (s : Span) : Prop := -4000000 ≤ s.lo ∧ s.lo ≤ 4000000 ∧ -4000000 ≤ s.hi ∧ s.hi ≤ 4000000
def one (B : Bank) (c : T3) (l : LogS) (m : Span) : Span := comS m ⟨strokes B c l.lo, strokes B c (l.hi + 1) - 1⟩
theorem cntTo_y {B : Bank} {c : T3} {d : Nat} {m : Span} {k : Nat} (h : (B.logs.getD k default).day = d) : cntTo B c d m (k + 1) = one B c (B.logs.getD k default) (cntTo B c d m k) := by
  rw [cntTo, if_pos h]; rfl
theorem cntTo_n {B : Bank} {c : T3} {d : Nat} {m : Span} {k : Nat} (h : ¬ (B.logs.getD k default).day = d) : cntTo B c d m (k + 1) = cntTo B c d m k := by
  rw [cntTo, if_neg h]
def FwB (s : Span) (d : Nat) : Prop := 0 ≤ s.lo ∧ s.lo ≤ 1048576 + 100 * d ∧ -1 ≤ s.hi ∧ s.hi ≤ 100 * d
theorem cntTo_bd {B : Bank} {c : T3} {d e : Nat} {m : Span} (hg : GoodS B) (hc : InC c) (hm : FwB m e) (k : Nat) (h : k ≤ B.logs.length) : FwB (cntTo B c d m k) e := by
  induction k with
  | zero => exact hm
  | succ k ih =>
    have h1 := ih (by omega)
    have h2 := hg.bnd.log k
    by_cases hd : (B.logs.getD k default).day = d
    · rw [cntTo_y hd]
      have h3 := strokes_bd (c := c) hg hc (s := (B.logs.getD k default).lo) (by omega)
      have h4 := strokes_bd (c := c) hg hc (s := (B.logs.getD k default).hi + 1) (by omega)
      unfold FwB one comS at *
      simp only
      omega
    · rw [cntTo_n hd]; exact h1
theorem nowF_bd {B : Bank} {c : T3} (hg : GoodS B) (hc : InC c) : ∀ d, FwB (nowF B c d) d
  | 0 => by unfold FwB nowF; simp only; omega
  | d + 1 => by
    have h1 := nowF_bd hg hc d
    have h2 := hg.bnd.day d
    refine cntTo_bd hg hc ?_ _ (Nat.le_refl _)
    unfold FwB at *
    simp only
    push_cast
    omega
theorem FwB.sm {s : Span} {d : Nat} (h : FwB s d) (hd : d ≤ 10) : SmS s := by unfold FwB at h; unfold SmS; omega
theorem bk_bd {B : Bank} {c : T3} (hg : GoodS B) (hc : InC c) : ∀ j : Nat, j ≤ 6 → (-1 - 100 * (j : Int) ≤ (bk B c j).hi ∧ (bk B c j).hi ≤ 1000 ∧ 0 ≤ (bk B c j).lo ∧ (bk B c j).lo ≤ 2000000)
  | 0, _ => by
    have h1 := nowF_bd hg hc B.days.length
    have h2 := hg.2.1
    unfold FwB at h1
    rw [bk]; omega
  | j + 1, h => by
    have h1 := bk_bd hg hc j (by omega)
    have h2 := nowF_bd hg hc (B.days.length - 1 - j)
    have h3 := hg.bnd.day (B.days.length - 1 - j)
    have h4 := hg.2.1
    unfold FwB at h2
    rw [bk]
    simp only
    push_cast
    omega
end Sod2

namespace Sod2
open Go Go.G Foot4
@[reducible] def L13 (f : Nat → Span) (b : Bool) : List Value := [i64 (f 0).lo, i64 (f 0).hi, i64 (f 1).lo, i64 (f 1).hi, i64 (f 2).lo, i64 (f 2).hi, i64 (f 3).lo, i64 (f 3).hi, i64 (f 4).lo, i64 (f 4).hi, i64 (f 5).lo, i64 (f 5).hi, .bool b]
def updS (f : Nat → Span) (k : Nat) (s : Span) : Nat → Span := fun i => if i = k then s else f i
theorem six_cases {k : Nat} (h : k < 6) : k = 0 ∨ k = 1 ∨ k = 2 ∨ k = 3 ∨ k = 4 ∨ k = 5 := by omega
theorem L13_set {f : Nat → Span} {b : Bool} {k : Nat} {s : Span} (h : k < 6) : splice (L13 f b) (0 + k * 2) [i64 s.lo, i64 s.hi] = L13 (updS f k s) b := by
  rcases six_cases h with rfl | rfl | rfl | rfl | rfl | rfl <;> rfl
theorem L13_get {f : Nat → Span} {b : Bool} {k : Nat} (h : k < 6) : ((L13 f b).drop (0 + k * 2)).take 2 = [i64 (f k).lo, i64 (f k).hi] := by
  rcases six_cases h with rfl | rfl | rfl | rfl | rfl | rfl <;> rfl
theorem L13_ble {f : Nat → Span} {b : Bool} {k : Nat} {a c : Value} (h : k < 6) : Nat.ble (0 + k * 2 + [a, c].length) (L13 f b).length = true := by
  rcases six_cases h with rfl | rfl | rfl | rfl | rfl | rfl <;> rfl
def zF : Nat → Span := fun _ => ⟨0, 0⟩
theorem fwd_0 {B : Bank} {c : T3} : zF = fwdD B c 0 := by funext i; unfold zF fwdD; rw [if_neg (by omega)]
theorem fwd_s {B : Bank} {c : T3} {d : Nat} : updS (fwdD B c d) d (nowF B c (d + 1)) = fwdD B c (d + 1) := by
  funext i
  unfold updS fwdD
  by_cases h : i = d
  · subst h; rw [if_pos rfl, if_pos (by omega)]
  · rw [if_neg h]
    by_cases h2 : i < d
    · rw [if_pos h2, if_pos (by omega)]
    · rw [if_neg h2, if_neg (by omega)]
theorem bck_0 {B : Bank} {c : T3} (h : 1 ≤ B.days.length) : fwdD B c B.days.length = bckD B c (B.days.length - 1) := by
  funext i
  unfold fwdD bckD
  by_cases h1 : i < B.days.length
  · rw [if_pos h1, if_pos h1]
    by_cases h2 : B.days.length - 1 ≤ i
    · rw [if_pos h2]
      unfold lastF
      rw [show B.days.length - 1 - i = 0 from by omega, bk, show i + 1 = B.days.length from by omega]
    · rw [if_neg h2]
  · rw [if_neg h1, if_neg h1]
theorem last_s {B : Bank} {c : T3} {d : Nat} (h : d + 1 < B.days.length) : lastF B c d = comS (nowF B c (d + 1)) ⟨(lastF B c (d + 1)).lo - (B.days.getD (d + 1) default).hi, (lastF B c (d + 1)).hi - (B.days.getD (d + 1) default).lo⟩ := by
  unfold lastF
  rw [show B.days.length - 1 - d = (B.days.length - 1 - (d + 1)) + 1 from by omega, bk, show B.days.length - 1 - (B.days.length - 1 - (d + 1)) = d + 1 from by omega]
  rfl
theorem bck_s {B : Bank} {c : T3} {d : Nat} (h : d + 1 < B.days.length) : updS (bckD B c (d + 1)) d (comS (nowF B c (d + 1)) ⟨(lastF B c (d + 1)).lo - (B.days.getD (d + 1) default).hi, (lastF B c (d + 1)).hi - (B.days.getD (d + 1) default).lo⟩) = bckD B c d := by
  rw [← last_s h]
  funext i
  unfold updS bckD
  by_cases h1 : i = d
  · subst h1; rw [if_pos rfl, if_pos (by omega), if_pos (Nat.le_refl _)]
  · rw [if_neg h1]
    by_cases h2 : i < B.days.length
    · rw [if_pos h2, if_pos h2]
      by_cases h3 : d + 1 ≤ i
      · rw [if_pos h3, if_pos (by omega)]
      · rw [if_neg h3, if_neg (by omega)]
    · rw [if_neg h2, if_neg h2]
theorem bck_at {B : Bank} {c : T3} {d : Nat} (h : d + 1 < B.days.length) : bckD B c (d + 1) d = nowF B c (d + 1) := by
  unfold bckD; rw [if_pos (by omega), if_neg (by omega)]
theorem bck_at1 {B : Bank} {c : T3} {d : Nat} (h : d + 1 < B.days.length) : bckD B c (d + 1) (d + 1) = lastF B c (d + 1) := by
  unfold bckD; rw [if_pos h, if_pos (Nat.le_refl _)]
theorem some_0 {B : Bank} {c : T3} : someTo B c 0 := fun k hk => absurd hk (by omega)
theorem some_s {B : Bank} {c : T3} {d : Nat} (h : someTo B c d) (h2 : (nowF B c (d + 1)).lo ≤ (nowF B c (d + 1)).hi) : someTo B c (d + 1) := fun k hk => by
  by_cases e : k = d
  · subst e; exact h2
  · exact h k (by omega)
theorem upTo_is {B : Bank} {c : T3} {d : Nat} (h : someTo B c d) (h2 : ¬ (nowF B c (d + 1)).lo ≤ (nowF B c (d + 1)).hi) : ∀ n, d + 1 ≤ n → upTo B c n = d
  | 0, hn => by omega
  | n + 1, hn => by
    rw [upTo]
    by_cases e : n = d
    · subst e; rw [if_pos ⟨h, h2⟩]
    · rw [if_neg (fun x => h2 (x.1 d (by omega)))]
      exact upTo_is h h2 n (by omega)
theorem log_no {B : Bank} {c : T3} {d : Nat} (h : someTo B c d) (h2 : ¬ (nowF B c (d + 1)).lo ≤ (nowF B c (d + 1)).hi) (hd : d < B.days.length) : L13 (logD B c) (decide (canC B c)) = L13 (fwdD B c d) false := by
  have hn : ¬ canC B c := fun x => h2 (x d hd)
  rw [decide_eq_false hn]
  unfold logD
  rw [if_neg hn, upTo_is h h2 _ (by omega)]
theorem log_yes {B : Bank} {c : T3} (h : canC B c) : L13 (logD B c) (decide (canC B c)) = L13 (bckD B c 0) true := by
  rw [decide_eq_true h]
  unfold logD
  rw [if_pos h]
@[reducible] def vL (B : Bank) (c : T3) : Value := .agg (L13 (logD B c) (decide (canC B c))).toArray
def okS (B : Bank) : Value → Value → Prop := fun k v => ∀ c, k = v3 c → v = vL B c
theorem okS_mk {B : Bank} {c : T3} {v : Value} (e : v = vL B c) : okS B (v3 c) v := fun c' h => by
  have h2 : [i64 c.a, i64 c.b, i64 c.c] = [i64 c'.a, i64 c'.b, i64 c'.c] := congrArg Array.toList (Value.agg.inj h)
  simp only [List.cons.injEq, Value.int.injEq, true_and, and_true] at h2
  obtain ⟨x, y, z⟩ := h2
  cases c; cases c'
  simp only at x y z
  subst x; subst y; subst z
  exact e
end Sod2

namespace Sod2
open Go Go.G Foot4
theorem at_set {c : T3} {i k : Nat} {x : Int} (hi : i < 3) (hk : k < 3) : (set3 c i x).at k = if k = i then x else c.at k := by
  obtain rfl | rfl | rfl : i = 0 ∨ i = 1 ∨ i = 2 := by omega
  all_goals
    obtain rfl | rfl | rfl : k = 0 ∨ k = 1 ∨ k = 2 := by omega
    all_goals rfl
theorem t3_ext {a b : T3} (h : ∀ k, k < 3 → a.at k = b.at k) : a = b := by
  have h0 : a.a = b.a := h 0 (by omega)
  have h1 : a.b = b.b := h 1 (by omega)
  have h2 : a.c = b.c := h 2 (by omega)
  cases a; cases b
  simp only at h0 h1 h2
  subst h0; subst h1; subst h2; rfl
theorem set_set {c : T3} {i : Nat} {x y : Int} (hi : i < 3) : set3 (set3 c i x) i y = set3 c i y := by
  refine t3_ext fun k hk => ?_
  by_cases h : k = i
  · rw [at_set hi hk, if_pos h, at_set hi hk, if_pos h]
  · rw [at_set hi hk, if_neg h, at_set hi hk, if_neg h, at_set hi hk, if_neg h]
theorem set_cells {c : T3} {i : Nat} {x : Int} (hi : i < 3) : splice [i64 c.a, i64 c.b, i64 c.c] (0 + i * 1) [i64 x] = [i64 (set3 c i x).a, i64 (set3 c i x).b, i64 (set3 c i x).c] := by
  obtain rfl | rfl | rfl : i = 0 ∨ i = 1 ∨ i = 2 := by omega
  all_goals rfl
theorem set_ble {a b c d : Value} {i : Nat} (hi : i < 3) : Nat.ble (0 + i * 1 + [d].length) [a, b, c].length = true := by
  obtain rfl | rfl | rfl : i = 0 ∨ i = 1 ∨ i = 2 := by omega
  all_goals rfl
theorem mem_costs {c : T3} : ∀ (ps : List Spit) (i : Nat) (c0 : T3), i + ps.length ≤ 3 → (∀ p ∈ ps, p.lo ≤ p.hi) →
    (c ∈ costsL ps i c0 ↔ (∀ j, j < ps.length → (ps.getD j default).lo ≤ c.at (i + j) ∧ c.at (i + j) ≤ (ps.getD j default).hi) ∧ ∀ k, k < 3 → (k < i ∨ i + ps.length ≤ k) → c.at k = c0.at k)
  | [], i, c0, h, _ => by
    simp only [costsL, List.mem_singleton, List.length_nil, Nat.add_zero]
    constructor
    · rintro rfl; exact ⟨fun j hj => absurd hj (by omega), fun k _ _ => rfl⟩
    · intro ⟨_, h2⟩; exact t3_ext fun k hk => h2 k hk (by omega)
  | p :: ps, i, c0, h, hp => by
    rw [List.length_cons] at h
    have hpl := hp p (by simp)
    have ih := fun c1 => mem_costs (c := c) ps (i + 1) c1 (by omega) (fun q hq => hp q (List.mem_cons_of_mem _ hq))
    simp only [costsL, List.mem_flatMap, List.mem_range]
    constructor
    · rintro ⟨j, hj, hc⟩
      obtain ⟨h1, h2⟩ := (ih _).1 hc
      have hci : c.at i = p.lo + j := by rw [h2 i (by omega) (by omega), at_set (by omega) (by omega), if_pos rfl]
      refine ⟨fun m hm => ?_, fun k hk hk2 => ?_⟩
      · cases m with
        | zero => show p.lo ≤ c.at i ∧ c.at i ≤ p.hi; omega
        | succ m =>
          rw [List.length_cons] at hm
          have := h1 m (by omega)
          rw [show i + (m + 1) = i + 1 + m from by omega]; exact this
      · rw [List.length_cons] at hk2
        rw [h2 k hk (by omega), at_set (by omega) hk, if_neg (by omega)]
    · rintro ⟨h1, h2⟩
      have h0 := h1 0 (by simp)
      simp only [Nat.add_zero, List.getD_cons_zero] at h0
      refine ⟨(c.at i - p.lo).toNat, by omega, (ih _).2 ⟨fun m hm => ?_, fun k hk hk2 => ?_⟩⟩
      · have := h1 (m + 1) (by rw [List.length_cons]; omega)
        rw [show i + 1 + m = i + (m + 1) from by omega]; exact this
      · rw [at_set (by omega) hk]
        by_cases e : k = i
        · subst e; rw [if_pos rfl]; omega
        · rw [if_neg e]; exact h2 k hk (by rw [List.length_cons]; omega)
def InB (B : Bank) (c : T3) : Prop := (∀ k, k < B.spits.length → (B.spits.getD k default).lo ≤ c.at k ∧ c.at k ≤ (B.spits.getD k default).hi) ∧ ∀ k, k < 3 → B.spits.length ≤ k → c.at k = 0
theorem zero_at {k : Nat} : (⟨0, 0, 0⟩ : T3).at k = 0 := by unfold T3.at; split <;> (try split) <;> rfl
theorem spit_lo {B : Bank} (hg : GoodS B) : ∀ p ∈ B.spits, p.lo ≤ p.hi := fun p hp => by
  obtain ⟨k, hk, rfl⟩ := List.mem_iff_getElem.1 hp
  have := hg.2.2.2.1 k hk
  rw [List.getD_eq_getElem?_getD, List.getElem?_eq_getElem hk] at this
  exact this.2.1.2.1
theorem mem_all {B : Bank} (hg : GoodS B) {c : T3} : c ∈ allC B ↔ InB B c := by
  have h3 := hg.1
  unfold allC InB
  rw [mem_costs B.spits 0 ⟨0, 0, 0⟩ (by omega) (spit_lo hg)]
  simp only [Nat.zero_add, zero_at]
  constructor
  · intro ⟨h1, h2⟩; exact ⟨h1, fun k hk hk2 => h2 k hk (.inr hk2)⟩
  · intro ⟨h1, h2⟩; exact ⟨h1, fun k hk hk2 => h2 k hk (by omega)⟩
theorem InB.inC {B : Bank} (hg : GoodS B) {c : T3} (h : InB B c) : InC c := fun k hk => by
  by_cases hk2 : k < B.spits.length
  · have h1 := h.1 k hk2
    have h2 := hg.2.2.2.1 k hk2
    omega
  · rw [h.2 k hk (by omega)]; omega
theorem InB.pos {B : Bank} (hg : GoodS B) {c : T3} (h : InB B c) : ∀ k, k < B.spits.length → 1 ≤ c.at k := fun k hk => by
  have h1 := h.1 k hk
  have h2 := hg.2.2.2.1 k hk
  omega
def cntC (B : Bank) (i : Nat) : Nat := ((B.spits.getD i default).hi - (B.spits.getD i default).lo + 1).toNat
def nxC (B : Bank) (c : T3) (i k : Nat) : List T3 := costsL (B.spits.drop (i + 1)) (i + 1) (set3 c i ((B.spits.getD i default).lo + (k : Int)))
theorem nxC_eq {B : Bank} {c : T3} {i k : Nat} : nxC B c i k = costsL (B.spits.drop (i + 1)) (i + 1) (set3 c i ((B.spits.getD i default).lo + (k : Int))) := rfl
def preC (B : Bank) (c : T3) (i : Nat) : Nat → List T3
  | 0 => []
  | k + 1 => preC B c i k ++ nxC B c i k
theorem range_flat {α : Type} (f : Nat → List α) (g : Nat → List α) (h0 : g 0 = []) (hs : ∀ k, g (k + 1) = g k ++ f k) : ∀ n, (List.range n).flatMap f = g n
  | 0 => by rw [h0]; rfl
  | n + 1 => by rw [List.range_succ, List.flatMap_append, range_flat f g h0 hs n, hs]; simp
theorem costs_split {B : Bank} {c : T3} {i : Nat} (h : i < B.spits.length) : costsL (B.spits.drop i) i c = preC B c i (cntC B i) := by
  rw [drop_cons h]
  exact range_flat _ (preC B c i) rfl (fun k => rfl) _
theorem costs_end {B : Bank} {c : T3} {i : Nat} (h : B.spits.length ≤ i) : costsL (B.spits.drop i) i c = [c] := by
  rw [List.drop_eq_nil_of_le h]; rfl
def SubL (l xs : List T3) (i0 : Nat) : Prop := ∀ (j : Nat) (y : T3), l[j]? = some y → xs[i0 + j]? = some y
theorem SubL.left {a b xs : List T3} {i0 : Nat} (h : SubL (a ++ b) xs i0) : SubL a xs i0 := fun j y hj => h j y (by
  have : j < a.length := by
    by_cases hl : j < a.length
    · exact hl
    · rw [List.getElem?_eq_none (by omega)] at hj; cases hj
  rw [List.getElem?_append_left this]; exact hj)
theorem SubL.right {a b xs : List T3} {i0 : Nat} (h : SubL (a ++ b) xs i0) : SubL b xs (i0 + a.length) := fun j y hj => by
  have := h (a.length + j) y (by rw [List.getElem?_append_right (by omega)]; rw [show a.length + j - a.length = j from by omega]; exact hj)
  rw [show i0 + a.length + j = i0 + (a.length + j) from by omega]; exact this
theorem sub_mid {B : Bank} {c : T3} {i i0 k : Nat} {xs : List T3} : ∀ n, SubL (preC B c i n) xs i0 → k < n → SubL (nxC B c i k) xs (i0 + (preC B c i k).length)
  | 0, _, h => by omega
  | n + 1, h, hk => by
    by_cases e : k = n
    · subst e; exact h.right
    · exact sub_mid n h.left (by omega)
theorem pre_len {B : Bank} {c : T3} {i k : Nat} : (preC B c i (k + 1)).length = (preC B c i k).length + (nxC B c i k).length := by rw [preC, List.length_append]
theorem cnt_sub {B : Bank} {c : T3} {d : Nat} {m : Span} (k : Nat) : m.lo ≤ (cntTo B c d m k).lo ∧ (cntTo B c d m k).hi ≤ m.hi := by
  induction k with
  | zero => exact ⟨Int.le_refl _, Int.le_refl _⟩
  | succ k ih =>
    rw [cntTo]
    split
    · simp only; omega
    · exact ih
theorem now_sub {B : Bank} {c : T3} (d : Nat) : (nowF B c d).lo + (B.days.getD d default).lo ≤ (nowF B c (d + 1)).lo ∧ (nowF B c (d + 1)).hi ≤ (nowF B c d).hi + (B.days.getD d default).hi := by
  have := cnt_sub (B := B) (c := c) (d := d) (m := ⟨(nowF B c d).lo + (B.days.getD d default).lo, (nowF B c d).hi + (B.days.getD d default).hi⟩) B.logs.length
  exact this
theorem bk_ok {B : Bank} {c : T3} (hg : GoodS B) (hcan : canC B c) : ∀ j, j < B.days.length → (nowF B c (B.days.length - j)).lo ≤ (bk B c j).lo ∧ (bk B c j).lo ≤ (bk B c j).hi ∧ (bk B c j).hi ≤ (nowF B c (B.days.length - j)).hi
  | 0, h => by
    have h1 := hcan (B.days.length - 1) (by omega)
    rw [show B.days.length - 1 + 1 = B.days.length from by omega] at h1
    rw [bk, Nat.sub_zero]; omega
  | j + 1, h => by
    obtain ⟨h1, h2, h3⟩ := bk_ok hg hcan j (by omega)
    have h4 := now_sub (B := B) (c := c) (B.days.length - 1 - j)
    have h5 := hcan (B.days.length - 2 - j) (by omega)
    have h6 := hg.2.2.2.2.1 (B.days.length - 1 - j) (by omega)
    rw [show B.days.length - 1 - j + 1 = B.days.length - j from by omega] at h4
    rw [show B.days.length - 2 - j + 1 = B.days.length - 1 - j from by omega] at h5
    rw [bk, show B.days.length - (j + 1) = B.days.length - 1 - j from by omega]
    simp only
    omega
theorem log_bd {B : Bank} {c : T3} (hg : GoodS B) (hc : InC c) (hcan : canC B c) {d : Nat} (h : d < B.days.length) : 0 ≤ (logD B c d).lo ∧ (logD B c d).lo ≤ (logD B c d).hi ∧ (logD B c d).hi ≤ 1000 := by
  have e : logD B c d = bk B c (B.days.length - 1 - d) := by unfold logD; rw [if_pos hcan]; unfold bckD; rw [if_pos h, if_pos (Nat.zero_le _)]; rfl
  have h2 := hg.2.1
  have h1 := bk_ok hg hcan (B.days.length - 1 - d) (by omega)
  have h3 := bk_bd hg hc (B.days.length - 1 - d) (by omega)
  rw [e]; omega
theorem L13_lo {f : Nat → Span} {b : Bool} {k : Nat} (h : k < 6) : (L13 f b)[0 + k * 2 + 0]? = some (i64 (f k).lo) := by
  rcases six_cases h with rfl | rfl | rfl | rfl | rfl | rfl <;> rfl
theorem L13_hi {f : Nat → Span} {b : Bool} {k : Nat} (h : k < 6) : (L13 f b)[0 + k * 2 + 1]? = some (i64 (f k).hi) := by
  rcases six_cases h with rfl | rfl | rfl | rfl | rfl | rfl <;> rfl
def hullTo (l : List Span) : Nat → Span
  | 0 => l.getD 0 default
  | k + 1 => ⟨min (hullTo l k).lo (l.getD k default).lo, max (hullTo l k).hi (l.getD k default).hi⟩
def hullP (l : List Span) : Span := hullTo l l.length
theorem hullTo_in {l : List Span} : ∀ k j, j < k → (hullTo l k).lo ≤ (l.getD j default).lo ∧ (l.getD j default).hi ≤ (hullTo l k).hi
  | 0, _, h => by omega
  | k + 1, j, h => by
    rw [hullTo]; simp only
    by_cases e : j = k
    · subst e; omega
    · have := hullTo_in k j (by omega) (l := l)
      omega
theorem hull_in {l : List Span} {s : Span} (h : s ∈ l) : (hullP l).lo ≤ s.lo ∧ s.hi ≤ (hullP l).hi := by
  obtain ⟨k, hk, rfl⟩ := List.mem_iff_getElem.1 h
  have := hullTo_in l.length k hk (l := l)
  rw [List.getD_eq_getElem?_getD, List.getElem?_eq_getElem hk] at this
  exact this
theorem hullTo_bd {l : List Span} {a b : Int} (h : ∀ s ∈ l, a ≤ s.lo ∧ s.lo ≤ s.hi ∧ s.hi ≤ b) (hl : 0 < l.length) : ∀ k, k ≤ l.length → a ≤ (hullTo l k).lo ∧ (hullTo l k).lo ≤ (hullTo l k).hi ∧ (hullTo l k).hi ≤ b
  | 0, _ => by
    rw [hullTo, List.getD_eq_getElem?_getD, List.getElem?_eq_getElem hl]
    exact h _ (List.getElem_mem hl)
  | k + 1, hk => by
    have h1 := hullTo_bd h hl k (by omega)
    have h2 : a ≤ (l.getD k default).lo ∧ (l.getD k default).lo ≤ (l.getD k default).hi ∧ (l.getD k default).hi ≤ b := by
      rw [List.getD_eq_getElem?_getD, List.getElem?_eq_getElem (show k < l.length by omega)]
      exact h _ (List.getElem_mem (by omega))
    rw [hullTo]; simp only; omega
def cutTo (B : Bank) (d i : Nat) : List Span := (((allC B).take i).filter fun c => decide (canC B c)).map (cutSp B d)
def cutP (B : Bank) (d : Nat) : Span := hullP ((goodC B).map (cutSp B d))
theorem cutTo_y {B : Bank} {d i : Nat} {c : T3} (h : (allC B)[i]? = some c) (hc : canC B c) : cutTo B d i ++ [cutSp B d c] = cutTo B d (i + 1) := by
  unfold cutTo
  rw [List.take_add_one, h]
  simp [List.filter_append, hc]
theorem cutTo_n {B : Bank} {d i : Nat} {c : T3} (h : (allC B)[i]? = some c) (hc : ¬ canC B c) : cutTo B d i = cutTo B d (i + 1) := by
  unfold cutTo
  rw [List.take_add_one, h]
  simp [List.filter_append, hc]
theorem cutTo_all {B : Bank} {d : Nat} : cutTo B d (allC B).length = (goodC B).map (cutSp B d) := by unfold cutTo goodC; rw [List.take_length]
theorem costsL_len : ∀ (ps : List Spit) (i : Nat) (c : T3), (∀ p ∈ ps, p.hi - p.lo ≤ 2) → (costsL ps i c).length ≤ 3 ^ ps.length
  | [], _, _, _ => by simp [costsL]
  | p :: ps, i, c, h => by
    have h1 := h p (by simp)
    have h2 := flatMap_len (fun j : Nat => costsL ps (i + 1) (set3 c i (p.lo + (j : Int)))) (3 ^ ps.length) (List.range (p.hi - p.lo + 1).toNat) (fun j _ => costsL_len ps (i + 1) _ (fun q hq => h q (List.mem_cons_of_mem _ hq)))
    rw [List.length_range] at h2
    rw [costsL, List.length_cons, Nat.pow_succ, Nat.mul_comm]
    have h3 : (p.hi - p.lo + 1).toNat * 3 ^ ps.length ≤ 3 * 3 ^ ps.length := Nat.mul_le_mul_right _ (by omega)
    omega
theorem allC_len {B : Bank} (hg : GoodS B) : (allC B).length ≤ 27 := by
  have h3 := hg.1
  have h := costsL_len B.spits 0 ⟨0, 0, 0⟩ (fun p hp => by
    obtain ⟨k, hk, rfl⟩ := List.mem_iff_getElem.1 hp
    have := hg.2.2.2.1 k hk
    rw [List.getD_eq_getElem?_getD, List.getElem?_eq_getElem hk] at this
    exact this.2.2)
  have h4 : 3 ^ B.spits.length ≤ 3 ^ 3 := Nat.pow_le_pow_right (by decide) (by omega)
  unfold allC
  omega
theorem cutTo_len {B : Bank} (hg : GoodS B) (d i : Nat) : (cutTo B d i).length ≤ 27 := by
  unfold cutTo
  rw [List.length_map]
  have h1 := List.length_filter_le (fun c => decide (canC B c)) ((allC B).take i)
  have h2 := allC_len hg
  have h3 : ((allC B).take i).length ≤ (allC B).length := by rw [List.length_take]; omega
  omega
theorem goodC_pos {B : Bank} {d : Nat} (h : canS B) : 0 < ((goodC B).map (cutSp B d)).length := by
  obtain ⟨c, h1, h2⟩ := h
  rw [List.length_map]
  exact List.length_pos_of_mem (List.mem_filter.2 ⟨h1, by simpa using h2⟩)
end Sod2

namespace Foot4
open Go Go.G
def advF (p : T3) (d : Int) : Nat → Nat → Nat
  | 0, k => k
  | f + 1, k => if 0 ≤ p.at k ∧ p.at k ≤ d then advF p d f (k + 1) else k
def adv (p : T3) (d : Int) (k : Nat) : Nat := advF p d (3 - k) k
theorem adv_go {p : T3} {d : Int} {k : Nat} (h : k < 3 ∧ 0 ≤ p.at k ∧ p.at k ≤ d) : adv p d k = adv p d (k + 1) := by
  unfold adv
  rw [show 3 - k = (3 - (k + 1)) + 1 from by omega, advF, if_pos h.2]
theorem adv_stop {p : T3} {d : Int} {k : Nat} (h : ¬ (k < 3 ∧ 0 ≤ p.at k ∧ p.at k ≤ d)) : adv p d k = k := by
  unfold adv
  by_cases hk : k < 3
  · rw [show 3 - k = (3 - (k + 1)) + 1 from by omega, advF, if_neg (fun x => h ⟨hk, x⟩)]
  · rw [show 3 - k = 0 from by omega, advF]
theorem advF_le {p : T3} {d : Int} : ∀ f k, advF p d f k ≤ k + f
  | 0, k => Nat.le_refl k
  | f + 1, k => by
    have := advF_le (p := p) (d := d) f (k + 1)
    simp only [advF]
    split <;> omega
theorem adv_le {p : T3} {d : Int} {k : Nat} (h : k ≤ 3) : adv p d k ≤ 3 := by
  have := advF_le (p := p) (d := d) (3 - k) k
  unfold adv; omega
def wetS (sel : Int → Int → Int) (F : Work) (heap : Nat) (p : T3) : Nat → Int × Nat
  | 0 => (sel (F.heaps.getD heap default).lo (F.heaps.getD heap default).hi, 0)
  | d + 1 =>
    let s := wetS sel F heap p d
    let k := adv p d s.2
    if k = 3 then (s.1, 3) else (step s.1 (sel (F.rain.getD d default).lo (F.rain.getD d default).hi) (F.dr.at k), k)
def wetF (sel : Int → Int → Int) (F : Work) (heap : Nat) (p : T3) (d : Nat) : Int := (wetS sel F heap p d).1
theorem wetS_le (sel : Int → Int → Int) (F : Work) (heap : Nat) (p : T3) (d : Nat) : (wetS sel F heap p d).2 ≤ 3 := by
  induction d with
  | zero => simp [wetS]
  | succ d ih =>
    simp only [wetS]
    split
    · exact Nat.le_refl 3
    · exact adv_le ih
theorem adv_3 {p : T3} {d : Int} : adv p d 3 = 3 := adv_stop (by omega)
theorem wetS_3 {sel : Int → Int → Int} {F : Work} {heap : Nat} {p : T3} {d : Nat} (h : (wetS sel F heap p d).2 = 3) : ∀ e, d ≤ e → wetS sel F heap p e = wetS sel F heap p d := by
  intro e he
  induction e with
  | zero => obtain rfl : d = 0 := by omega
            rfl
  | succ e ih =>
    by_cases h1 : d = e + 1
    · subst h1; rfl
    · have := ih (by omega)
      simp only [wetS, this, h, adv_3, if_true]
      exact Prod.ext rfl h.symm
theorem wetS_next {sel : Int → Int → Int} {F : Work} {heap : Nat} {p : T3} {d k : Nat} (hk : adv p d (wetS sel F heap p d).2 = k) (h : k ≠ 3) : wetS sel F heap p (d + 1) = (step (wetF sel F heap p d) (sel (F.rain.getD d default).lo (F.rain.getD d default).hi) (F.dr.at k), k) := by
  simp only [wetS, hk, h, if_false, wetF]
theorem wetS_end {sel : Int → Int → Int} {F : Work} {heap : Nat} {p : T3} {d : Nat} (hk : adv p d (wetS sel F heap p d).2 = 3) : ∀ e, d < e → wetF sel F heap p e = wetF sel F heap p d := by
  intro e he
  have h1 : wetS sel F heap p (d + 1) = (wetF sel F heap p d, 3) := by simp only [wetS, hk, if_true, wetF]
  have := wetS_3 (d := d + 1) (by rw [h1]) e (by omega)
  show (wetS sel F heap p e).1 = _
  rw [this, h1]
structure Tr (P : Program) (name : String) where
  T : TypeId
  v : Value
  k : FuncId
  sel : Int → Int → Int
  hm : HasM P T name k
  hv : ∀ lo hi : Int, -1000 ≤ lo → lo ≤ 1000 → -1000 ≤ hi → hi ≤ 1000 → FnV P k [v, .agg #[i64 lo, i64 hi]] [] (i64 (sel lo hi))
  hs : ∀ lo hi, sel lo hi = lo ∨ sel lo hi = hi
abbrev Tr.i {P : Program} {name : String} (t : Tr P name) : Value := .iface t.T t.v
theorem wetS_bd {P : Program} {name : String} (t : Tr P name) {F : Work} (h : Bnd F) (heap : Nat) (p : T3) (d : Nat) : 0 ≤ wetF t.sel F heap p d ∧ wetF t.sel F heap p d ≤ 60 + 10 * d := by
  induction d with
  | zero =>
    have := h.heap heap
    rcases t.hs (F.heaps.getD heap default).lo (F.heaps.getD heap default).hi with e | e <;> simp only [wetF, wetS, e] <;> omega
  | succ d ih =>
    simp only [wetF, wetS]
    split
    · have := ih; unfold wetF at this; omega
    · have := h.rain d
      have hd := h.dr (adv p d (wetS t.sel F heap p d).2)
      unfold wetF at ih
      have hsel : 0 ≤ t.sel (F.rain.getD d default).lo (F.rain.getD d default).hi ∧ t.sel (F.rain.getD d default).lo (F.rain.getD d default).hi ≤ 10 := by
        rcases t.hs (F.rain.getD d default).lo (F.rain.getD d default).hi with e | e <;> rw [e] <;> omega
      have := step_bd ih.1 ih.2 hsel.1 hsel.2 hd.1
      show 0 ≤ step _ _ _ ∧ step _ _ _ ≤ _
      omega
def canF (sel : Int → Int → Int) (F : Work) (heap : Nat) (p : T3) (k : Nat) : Prop := p.at k < 0 ∨ wetF sel F heap p (p.at k).toNat ≤ F.lim.at k
instance (sel : Int → Int → Int) (F : Work) (heap : Nat) (p : T3) (k : Nat) : Decidable (canF sel F heap p k) := by unfold canF; infer_instance
def keptF (sel : Int → Int → Int) (F : Work) (heap : Nat) (p : T3) : Prop := canF sel F heap p 0 ∧ canF sel F heap p 1 ∧ canF sel F heap p 2
instance (sel : Int → Int → Int) (F : Work) (heap : Nat) (p : T3) : Decidable (keptF sel F heap p) := by unfold keptF; infer_instance
def capB : Value → Nat
  | .func _ _ cs => blk (cs.getD 0 undef)
  | _ => 0
theorem chk_ne {F : Work} {v : Bool} (h : ¬ GoodF F) : chk F v ≠ 0 := by unfold chk; rw [if_neg h]; decide
abbrev selW : Int → Int → Int := fun _ hi => hi
theorem range'_pre {s k m : Nat} (h : k ≤ m) : List.range' s k <+: List.range' s m := by
  refine ⟨List.range' (s + k) (m - k), ?_⟩
  have := List.range'_append (s := s) (m := k) (n := m - k) (step := 1)
  rw [Nat.one_mul] at this
  rw [this, show k + (m - k) = m from by omega]
theorem range_pre {k m : Nat} (h : k ≤ m) : List.range k <+: List.range m := by
  rw [List.range_eq_range', List.range_eq_range']; exact range'_pre h
theorem flatMap_pre {α β : Type} {l m : List α} (f : α → List β) (h : l <+: m) : l.flatMap f <+: m.flatMap f := by
  obtain ⟨t, rfl⟩ := h
  exact ⟨t.flatMap f, by simp⟩
theorem whole_pre {n a b c : Nat} (ha : a < b) (hb : b < c) (hc : c < n) : wholeC n a b (c + 1) <+: whole n := by
  have h1 : wholeC n a b (c + 1) <+: wholeB n a (b + 1) := by
    rw [← wholeB_step ha]
    unfold wholeC
    exact (List.prefix_append_right_inj _).2 (((range'_pre (by omega)).map _))
  have h2 : wholeB n a (b + 1) <+: wholeA n (a + 1) := by
    rw [← wholeA_step]
    unfold wholeB
    exact (List.prefix_append_right_inj _).2 (flatMap_pre _ (range'_pre (by omega)))
  have h3 : wholeA n (a + 1) <+: whole n := flatMap_pre _ (range_pre (by omega))
  exact (h1.trans h2).trans h3
theorem whole_at {n a b c : Nat} (ha : a < b) (hb : b < c) (hc : c < n) : (whole n)[(wholeC n a b c).length]? = some ⟨a, b, c⟩ := by
  obtain ⟨t, ht⟩ := whole_pre ha hb hc
  rw [← ht, wholeC_step hb]
  simp
theorem whole_lt {n a b c : Nat} (ha : a < b) (hb : b < c) (hc : c < n) : (wholeC n a b c).length + 1 ≤ (whole n).length :=
  (List.getElem?_eq_some_iff.1 (whole_at ha hb hc)).1
theorem wholeC_len1 {n a b c : Nat} (hb : b < c) : (wholeC n a b c).length + 1 = (wholeC n a b (c + 1)).length := by rw [wholeC_step hb]; simp
def encP (p : T3) : List Value := [.agg #[i64 p.a, i64 p.b, i64 p.c]]
def keptB (sel : Int → Int → Int) (F : Work) (heap : Nat) (p : T3) : Bool := decide (keptF sel F heap p)
def sureF (sel : Int → Int → Int) (F : Work) (heap : Nat) : List T3 := (whole F.rain.length).filter (keptB sel F heap)
def sureT (sel : Int → Int → Int) (F : Work) (heap i : Nat) : List T3 := ((whole F.rain.length).take i).filter (keptB sel F heap)
theorem sureT_yes {sel : Int → Int → Int} {F : Work} {heap i : Nat} {x : T3} (hx : (whole F.rain.length)[i]? = some x) (h : keptF sel F heap x) : sureT sel F heap i ++ [x] = sureT sel F heap (i + 1) := by
  unfold sureT
  rw [List.take_add_one, hx]
  simp [keptB, h]
theorem sureT_no {sel : Int → Int → Int} {F : Work} {heap i : Nat} {x : T3} (hx : (whole F.rain.length)[i]? = some x) (h : ¬ keptF sel F heap x) : sureT sel F heap i = sureT sel F heap (i + 1) := by
  unfold sureT
  rw [List.take_add_one, hx]
  simp [keptB, h]
theorem sureT_all {sel : Int → Int → Int} {F : Work} {heap : Nat} : sureT sel F heap (whole F.rain.length).length = sureF sel F heap := by
  unfold sureT sureF; rw [List.take_length]
def best1 {α : Type} (bt : α → α → Bool) (z : α) (xs : List α) : Nat → α
  | 0 => z
  | k + 1 => if k = 0 ∨ bt (xs.getD k z) (best1 bt z xs k) = true then xs.getD k z else best1 bt z xs k
theorem best1_yes {α : Type} {bt : α → α → Bool} {z : α} {xs : List α} {k : Nat} (h : k = 0 ∨ bt (xs.getD k z) (best1 bt z xs k) = true) : best1 bt z xs (k + 1) = xs.getD k z := if_pos h
theorem best1_no {α : Type} {bt : α → α → Bool} {z : α} {xs : List α} {k : Nat} (h0 : k ≠ 0) (h : ¬ bt (xs.getD k z) (best1 bt z xs k) = true) : best1 bt z xs (k + 1) = best1 bt z xs k := if_neg (fun x => x.elim h0 h)
theorem whole_mem {n : Nat} {p : T3} (h : p ∈ whole n) : ∃ a b c : Nat, p = ⟨a, b, c⟩ ∧ a < b ∧ b < c ∧ c < n := by
  unfold whole at h
  obtain ⟨a, ha, h⟩ := List.mem_flatMap.1 h
  unfold bs3 at h
  obtain ⟨b, hb, h⟩ := List.mem_flatMap.1 h
  unfold cs3 at h
  obtain ⟨c, hc, rfl⟩ := List.mem_map.1 h
  simp only [List.mem_range'_1] at hb hc
  exact ⟨a, b, c, rfl, by omega, by omega, by omega⟩
theorem whole_days {n : Nat} {p : T3} (h : p ∈ whole n) : ∀ k, k < 3 → 0 ≤ p.at k ∧ p.at k ≤ (n : Int) - 1 := by
  obtain ⟨a, b, c, rfl, h1, h2, h3⟩ := whole_mem h
  intro k hk
  obtain rfl | rfl | rfl : k = 0 ∨ k = 1 ∨ k = 2 := by omega
  · show (0 : Int) ≤ a ∧ (a : Int) ≤ n - 1
    omega
  · show (0 : Int) ≤ b ∧ (b : Int) ≤ n - 1
    omega
  · show (0 : Int) ≤ c ∧ (c : Int) ≤ n - 1
    omega
theorem whole_le {n : Nat} (hn : n ≤ 8) : (whole n).length ≤ 1000 := by
  have := wholeC_len (n := n) (a := n) (b := n) (c := n) hn (by omega) (by omega) (by omega)
  unfold wholeC wholeB at this
  simp only [List.length_append] at this
  show (wholeA n n).length ≤ 1000
  omega
theorem sureF_le {sel : Int → Int → Int} {F : Work} {heap : Nat} (h : F.rain.length ≤ 8) : (sureF sel F heap).length ≤ 1000 := by
  have h1 := List.length_filter_le (keptB sel F heap) (whole F.rain.length)
  have h2 := whole_le h
  unfold sureF; omega
theorem sureT_le {sel : Int → Int → Int} {F : Work} {heap i : Nat} (h : F.rain.length ≤ 8) : (sureT sel F heap i).length ≤ 1000 := by
  unfold sureT
  have h1 := List.length_filter_le (keptB sel F heap) ((whole F.rain.length).take i)
  have h2 := whole_le h
  have h3 := List.length_take_le' i (whole F.rain.length)
  omega
end Foot4

namespace Foot4
open Go Go.G
def best2 {α : Type} (bt : α → α → Bool) (z : α) (xs : List α) : Nat → α
  | 0 => xs.getD 0 z
  | k + 1 => if bt (xs.getD k z) (best2 bt z xs k) = true then xs.getD k z else best2 bt z xs k
theorem best2_eq {α : Type} {bt : α → α → Bool} {z : α} {xs : List α} (hr : ∀ x, bt x x = false) : ∀ k, best2 bt z xs (k + 1) = best1 bt z xs (k + 1)
  | 0 => by simp [best2, best1, hr]
  | k + 1 => by
    have ih := best2_eq (xs := xs) (z := z) hr k
    rw [best2, best1, ih]
    simp
def iv (z : Int) : Value := .int .i64 z
def withTo (B : List Int) (p : T3) : Nat → List Int
  | 0 => B
  | k + 1 => if 0 ≤ p.at k then (withTo B p k).set (p.at k).toNat ((withTo B p k).getD (p.at k).toNat 0 + 1) else withTo B p k
def with_ (B : List Int) (p : T3) : List Int := withTo B p 3
theorem withTo_len (B : List Int) (p : T3) : ∀ k, (withTo B p k).length = B.length
  | 0 => rfl
  | k + 1 => by
    simp only [withTo]
    split
    · simp [withTo_len B p k]
    · exact withTo_len B p k
theorem with_len (B : List Int) (p : T3) : (with_ B p).length = B.length := withTo_len B p 3
def Small (B : List Int) (m : Int) : Prop := ∀ i, 0 ≤ B.getD i 0 ∧ B.getD i 0 ≤ m
theorem withTo_small {B : List Int} {m : Int} (hm : 0 ≤ m) (h : Small B m) (p : T3) : ∀ k, Small (withTo B p k) (m + k)
  | 0 => by simpa [withTo] using h
  | k + 1 => by
    have ih := withTo_small hm h p k
    intro i
    simp only [withTo]
    split
    · have h1 := ih i
      have h2 := ih (p.at k).toNat
      by_cases e : (p.at k).toNat = i
      · subst e
        by_cases hl : (p.at k).toNat < (withTo B p k).length
        · simp only [List.getD_eq_getElem?_getD, List.getElem?_set_self hl, Option.getD_some] at h2 ⊢
          omega
        · rw [List.set_eq_of_length_le (by omega)]
          omega
      · have e3 : ((withTo B p k).set (p.at k).toNat ((withTo B p k).getD (p.at k).toNat 0 + 1)).getD i 0 = (withTo B p k).getD i 0 := by
          simp only [List.getD_eq_getElem?_getD]; rw [List.getElem?_set_ne e]
        rw [e3]; omega
    · have := ih i; omega
theorem with_small {B : List Int} {m : Int} (hm : 0 ≤ m) (h : Small B m) (p : T3) : Small (with_ B p) (m + 3) := withTo_small hm h p 3
theorem map_at {B : List Int} {m : Nat} (h : m < B.length) : (B.map iv)[0 + m * 1]? = some (i64 (B.getD m 0)) := by
  rw [Nat.zero_add, Nat.mul_one, List.getElem?_map, List.getD_eq_getElem?_getD, List.getElem?_eq_getElem h]
  rfl
theorem withTo_yes {B : List Int} {p : T3} {k : Nat} (h : 0 ≤ p.at k) : splice ((withTo B p k).map iv) (0 + (p.at k).toNat * 1) [i64 ((withTo B p k).getD (p.at k).toNat 0 + 1)] = (withTo B p (k + 1)).map iv := by
  rw [Nat.zero_add, Nat.mul_one]
  simp only [withTo, if_pos h]
  exact splice_map
theorem withTo_no {B : List Int} {p : T3} {k : Nat} (h : ¬ 0 ≤ p.at k) : (withTo B p k).map iv = (withTo B p (k + 1)).map iv := by
  simp only [withTo, if_neg h]
end Foot4

namespace Foot4
open Go Go.G
section
variable {F : Work} {l : List T3} {h i : Nat} {p : T3}
end
def ListOk (F : Work) (l : List T3) : Prop := (l.length : Int) = (F.heaps.length : Int) ∧ ∀ k, k < l.length → Days F.rain.length (l.getD k default)
instance (F : Work) (l : List T3) : Decidable (ListOk F l) := by unfold ListOk; infer_instance
end Foot4

namespace Foot4
open Go Go.G
structure Way where
  sods : Int
  plan : T3
  deriving DecidableEq, Inhabited
def encW (w : Way) : List Value := [i64 w.sods, i64 w.plan.a, i64 w.plan.b, i64 w.plan.c]
def more (x y : Way) : Bool := decide (y.sods < x.sods)
theorem more_no {p q : Way} (h : ¬ q.sods < p.sods) : ¬ more p q = true := fun x => h (of_decide_eq_true x)
def wayL (l : List Way) : Way := best1 more default l l.length
def sumTo (xs : List Int) : Nat → Int
  | 0 => 0
  | k + 1 => sumTo xs k + xs.getD k 0
theorem sumTo_bd {xs : List Int} (h : ∀ k, -10000 ≤ xs.getD k 0 ∧ xs.getD k 0 ≤ 10000) : ∀ k : Nat, -10000 * (k : Int) ≤ sumTo xs k ∧ sumTo xs k ≤ 10000 * k
  | 0 => by simp [sumTo]
  | k + 1 => by
    have := sumTo_bd h k
    have := h k
    simp only [sumTo]
    omega
theorem left_at {B : List Int} {hp : Int} {m : Nat} (h : m < B.length) : (i64 hp :: B.map iv)[0 + 1 + m * 1]? = some (i64 (B.getD m 0)) := by
  rw [show 0 + 1 + m * 1 = m + 1 from by omega, List.getElem?_cons_succ, List.getElem?_map, List.getD_eq_getElem?_getD, List.getElem?_eq_getElem h]
  rfl
end Foot4

namespace Foot4
open Go Go.G
def freeB (men : Int) (B : List Int) (p : T3) : Bool := ![p.a, p.b, p.c].any fun d => decide (men ≤ B.getD d.toNat 0)
def noneT : T3 := ⟨-1, -1, -1⟩
def waysW (F : Work) (men : Int) (h : Nat) (B : List Int) (rec : List Int → Int) (l : List T3) : List Way :=
  ⟨rec B, noneT⟩ :: (l.filter (freeB men B)).map fun p => ⟨(F.heaps.getD h default).sods + rec (with_ B p), p⟩
def bestW (F : Work) (men : Int) : Nat → List Int → Way
  | 0, _ => default
  | r + 1, B => wayL (waysW F men (F.heaps.length - (r + 1)) B (fun C => (bestW F men r C).sods) (sureF selW F (F.heaps.length - (r + 1))))
theorem best1_mem {α : Type} {bt : α → α → Bool} {z : α} {xs : List α} : ∀ k, 0 < k → k ≤ xs.length → best1 bt z xs k ∈ xs
  | 0, h, _ => absurd h (by omega)
  | k + 1, _, hk => by
    have hx : xs.getD k z ∈ xs := by
      rw [List.getD_eq_getElem?_getD, List.getElem?_eq_getElem (by omega)]
      exact List.getElem_mem _
    simp only [best1]
    split
    · exact hx
    · rename_i h
      exact best1_mem k (by omega) (by omega)
theorem wayL_mem {l : List Way} (h : 0 < l.length) : wayL l ∈ l := best1_mem _ h (Nat.le_refl _)
theorem bestW_bd {F : Work} (g : GoodF F) (men : Int) : ∀ r B, r ≤ F.heaps.length → 0 ≤ (bestW F men r B).sods ∧ (bestW F men r B).sods ≤ 500 * r
  | 0, _, _ => by simp [bestW, default, instInhabitedWay.default]
  | r + 1, B, hr => by
    have hm := wayL_mem (l := waysW F men (F.heaps.length - (r + 1)) B (fun C => (bestW F men r C).sods) (sureF selW F (F.heaps.length - (r + 1)))) (by simp [waysW])
    have hs := (g.2.2.2.2.2 (F.heaps.length - (r + 1)) (by omega)).2
    show 0 ≤ (wayL _).sods ∧ (wayL _).sods ≤ _
    rcases List.mem_cons.1 hm with e | hm'
    · rw [e]
      have := bestW_bd g men r B (by omega)
      simp only
      omega
    · obtain ⟨p, _, e⟩ := List.mem_map.1 hm'
      rw [← e]
      have := bestW_bd g men r (with_ B p) (by omega)
      simp only
      omega
end Foot4

namespace Foot4
open Go Go.G
@[reducible] def valWay (w : Way) : Value := .agg #[i64 w.sods, i64 w.plan.a, i64 w.plan.b, i64 w.plan.c]
@[reducible] def keyL (hp : Nat) (B : List Int) : Value := .agg (i64 hp :: B.map iv).toArray
def okW (F : Work) (men : Int) (kv v : Value) : Prop := ∀ hp r B, hp + r = F.heaps.length → kv = keyL hp B → v = valWay (bestW F men r B)
theorem map_iv_inj : ∀ {A B : List Int}, A.map iv = B.map iv → A = B
  | [], [], _ => rfl
  | [], _ :: _, h => by simp at h
  | _ :: _, [], h => by simp at h
  | a :: A, b :: B, h => by
    simp only [List.map_cons, List.cons.injEq, iv, Value.int.injEq, true_and] at h
    rw [h.1, map_iv_inj h.2]
theorem keyL_inj {hp hq : Nat} {A B : List Int} (h : keyL hp A = keyL hq B) : hp = hq ∧ A = B := by
  have h2 : i64 hp :: A.map iv = i64 hq :: B.map iv := congrArg Array.toList (Value.agg.inj h)
  simp only [List.cons.injEq, Value.int.injEq, true_and] at h2
  exact ⟨by omega, map_iv_inj h2.2⟩
theorem okW_mk {F : Work} {men : Int} {hp r : Nat} {B : List Int} {w : Way} (h : hp + r = F.heaps.length) (e : w = bestW F men r B) : okW F men (keyL hp B) (valWay w) := by
  intro hq q C h1 h2
  obtain ⟨rfl, rfl⟩ := keyL_inj h2
  obtain rfl : r = q := by omega
  rw [e]
abbrev Inner := Option Addr × Nat × Nat
def encO (x : Inner) : List Value := [.slice x.1 x.2.1 x.2.2]
def allRows (F : Work) (xs : List Inner) : Fact := fun V => ∀ h, h < xs.length → rowD (xs.getD h default).1 3 encT (sureF selW F h) V
def Rows (F : Work) (xs : List Inner) : Prop := xs.length ≤ F.heaps.length ∧ ∀ h, h < xs.length → (xs.getD h default).2.1 = (sureF selW F h).length
def waysT (F : Work) (men : Int) (h : Nat) (B : List Int) (rec : List Int → Int) (k : Nat) : List Way := waysW F men h B rec ((sureF selW F h).take k)
section
variable {F : Work} {men : Int} {h : Nat} {B : List Int} {rec : List Int → Int} {k : Nat} {p : T3}
theorem waysT_0 : waysT F men h B rec 0 = [⟨rec B, noneT⟩] := by simp [waysT, waysW]
theorem take_getD {α : Type} [Inhabited α] {l : List α} {k : Nat} (hk : k < l.length) : l.take (k + 1) = l.take k ++ [l.getD k default] := by
  rw [List.take_add_one]
  simp [hk]
theorem waysT_yes (hk : k < (sureF selW F h).length) (hp : (sureF selW F h).getD k default = p) (hf : ¬ ∃ j, j < [p.a, p.b, p.c].length ∧ men ≤ B.getD ([p.a, p.b, p.c].getD j default).toNat 0) :
    waysT F men h B rec k ++ [⟨(F.heaps.getD h default).sods + rec (with_ B p), p⟩] = waysT F men h B rec (k + 1) := by
  have h1 : freeB men B p = true := by
    simp only [freeB, List.any_cons, List.any_nil, Bool.or_false, Bool.not_eq_true', Bool.or_eq_false_iff, decide_eq_false_iff_not]
    exact ⟨fun x => hf ⟨0, by simp, x⟩, fun x => hf ⟨1, by simp, x⟩, fun x => hf ⟨2, by simp, x⟩⟩
  unfold waysT waysW
  rw [take_getD hk, hp]
  simp [h1]
theorem waysT_no (hk : k < (sureF selW F h).length) (hp : (sureF selW F h).getD k default = p) (hf : ∃ j, j < [p.a, p.b, p.c].length ∧ men ≤ B.getD ([p.a, p.b, p.c].getD j default).toNat 0) :
    waysT F men h B rec k = waysT F men h B rec (k + 1) := by
  have h1 : freeB men B p = false := by
    obtain ⟨j, hj, hx⟩ := hf
    simp only [List.length_cons, List.length_nil] at hj
    simp only [freeB, List.any_cons, List.any_nil, Bool.or_false, Bool.not_eq_false', Bool.or_eq_true, decide_eq_true_eq]
    obtain rfl | rfl | rfl : j = 0 ∨ j = 1 ∨ j = 2 := by omega
    · exact .inl hx
    · exact .inr (.inl hx)
    · exact .inr (.inr hx)
  unfold waysT waysW
  rw [take_getD hk, hp]
  simp [h1]
theorem waysT_all : waysT F men h B rec (sureF selW F h).length = waysW F men h B rec (sureF selW F h) := by
  unfold waysT; rw [List.take_length]
theorem waysT_le (hl : F.rain.length ≤ 8) : (waysT F men h B rec k).length ≤ 1001 := by
  have h1 := List.length_filter_le (freeB men B) ((sureF selW F h).take k)
  have h2 := List.length_take_le' k (sureF selW F h)
  have h3 := sureF_le (sel := selW) (F := F) (heap := h) hl
  unfold waysT waysW
  simp only [List.length_cons, List.length_map]
  omega
end
theorem bestW_eq {F : Work} {men : Int} {hp r : Nat} {B : List Int} (h : hp + (r + 1) = F.heaps.length) : wayL (waysW F men hp B (fun C => (bestW F men r C).sods) (sureF selW F hp)) = bestW F men (r + 1) B := by
  obtain rfl : hp = F.heaps.length - (r + 1) := by omega
  rfl
theorem encW_len (w : Way) : (encW w).length = 4 := rfl
theorem take8 {x : Value} {B : List Int} (h : B.length = 8) : ((x :: B.map iv).drop 1).take 8 = B.map iv := by
  simp [List.take_of_length_le, h]
theorem sure_day {sel : Int → Int → Int} {F : Work} {h k : Nat} (hn : F.rain.length ≤ 8) (hk : k < (sureF sel F h).length) : ∀ j, j < 3 → 0 ≤ ((sureF sel F h).getD k default).at j ∧ ((sureF sel F h).getD k default).at j ≤ 7 := by
  intro j hj
  have hm : (sureF sel F h).getD k default ∈ sureF sel F h := by
    have e : (sureF sel F h)[k]? = some ((sureF sel F h).getD k default) := by simp [hk]
    exact List.mem_of_getElem? e
  have := whole_days (List.mem_filter.1 hm).1 j hj
  omega
theorem row_of_box {b : Nat} {x y : Int} {V : View} (h : boxF b 3 [i64 x, i64 y] V) : rowD (some ⟨b, 0, none⟩) 1 (fun x : Int => [i64 x]) [x, y] V :=
  .inr ⟨b, 0, _, 3, (0, 0), rfl, h, fun i j hi hj => by
    obtain rfl : j = 0 := by omega
    simp only [List.length_cons, List.length_nil] at hi
    obtain rfl | rfl : i = 0 ∨ i = 1 := by omega
    · rfl
    · rfl⟩
end Foot4

namespace Foot4
open Go Go.G
abbrev KeyW := Nat × Nat × List Int
def domW (F : Work) (x : KeyW) : Prop := x.1 + x.2.1 = F.heaps.length ∧ x.2.2.length = 8 ∧ Small x.2.2 (3 * x.1)
@[reducible] def keyW (x : KeyW) : Value := keyL x.1 x.2.2
@[reducible] def ansW (F : Work) (men : Int) (x : KeyW) : Value := valWay (bestW F men x.2.1 x.2.2)
@[reducible] def zeros : List Int := [0, 0, 0, 0, 0, 0, 0, 0]
theorem small_zeros (m : Int) (h : 0 ≤ m) : Small zeros m := fun i => by
  match i with
  | 0 | 1 | 2 | 3 | 4 | 5 | 6 | 7 => exact ⟨Int.le_refl 0, h⟩
  | n + 8 => exact ⟨Int.le_refl 0, h⟩
def bestS (F : Work) (men : Int) : Int := (bestW F men F.heaps.length zeros).sods
def stW (F : Work) (men : Int) : Nat → List Int × List T3
  | 0 => (zeros, [])
  | k + 1 => (with_ (stW F men k).1 (bestW F men (F.heaps.length - k) (stW F men k).1).plan, (stW F men k).2 ++ [(bestW F men (F.heaps.length - k) (stW F men k).1).plan])
theorem stW_len (F : Work) (men : Int) : ∀ k, (stW F men k).1.length = 8 ∧ (stW F men k).2.length = k
  | 0 => ⟨rfl, rfl⟩
  | k + 1 => by simp [stW, with_len, stW_len F men k]
theorem stW_small (F : Work) (men : Int) : ∀ k : Nat, Small (stW F men k).1 (3 * k)
  | 0 => small_zeros _ (by omega)
  | k + 1 => by
    have := with_small (by omega) (stW_small F men k) (bestW F men (F.heaps.length - k) (stW F men k).1).plan
    intro i
    have := this i
    simp only [stW]
    omega
theorem bestW_plan {F : Work} (hn : F.rain.length ≤ 8) (men : Int) : ∀ r B, 0 < r → ∀ j, j < 3 → -1 ≤ (bestW F men r B).plan.at j ∧ (bestW F men r B).plan.at j ≤ 7
  | 0, _, h => absurd h (by omega)
  | r + 1, B, _ => by
    have hm := wayL_mem (l := waysW F men (F.heaps.length - (r + 1)) B (fun C => (bestW F men r C).sods) (sureF selW F (F.heaps.length - (r + 1)))) (by simp [waysW])
    intro j hj
    show -1 ≤ (wayL _).plan.at j ∧ (wayL _).plan.at j ≤ 7
    rcases List.mem_cons.1 hm with e | hm'
    · rw [e]
      obtain rfl | rfl | rfl : j = 0 ∨ j = 1 ∨ j = 2 := by omega
      all_goals (show (-1 : Int) ≤ -1 ∧ (-1 : Int) ≤ 7; omega)
    · obtain ⟨p, hp, e⟩ := List.mem_map.1 hm'
      rw [← e]
      have := whole_days (List.mem_filter.1 (List.mem_filter.1 hp).1).1 j hj
      show -1 ≤ p.at j ∧ p.at j ≤ 7
      omega
def bestP (F : Work) : Int × List T3 × Int := if GoodF F then (bestS F F.men, (stW F F.men F.heaps.length).2, 0) else (0, [], 1)
theorem bestP_ok {F : Work} (h : GoodF F) : bestP F = (bestS F F.men, (stW F F.men F.heaps.length).2, 0) := if_pos h
theorem bestP_bad {F : Work} (h : ¬ GoodF F) : bestP F = (0, [], 1) := if_neg h
def enough (F : Work) (n : Nat) : Prop := ¬ bestS F n < bestS F 3
instance (F : Work) (n : Nat) : Decidable (enough F n) := by unfold enough; infer_instance
theorem allRows_nil {F : Work} {V : View} : allRows F [] V := fun _ h => absurd h (by simp)
theorem allRows_add {F : Work} {xs : List Inner} {x : Inner} {V : View} (h : allRows F xs V) (hx : rowD x.1 3 encT (sureF selW F xs.length) V) : allRows F (xs ++ [x]) V := by
  intro k hk
  rw [List.length_append, List.length_singleton] at hk
  by_cases e : k = xs.length
  · subst e
    simpa [List.getD_eq_getElem?_getD] using hx
  · have : (xs ++ [x]).getD k default = xs.getD k default := by
      simp only [List.getD_eq_getElem?_getD]; rw [List.getElem?_append_left (by omega)]
    rw [this]; exact h k (by omega)
theorem Rows_add {F : Work} {xs : List Inner} {x : Inner} (h : Rows F xs) (hl : xs.length < F.heaps.length) (hx : x.2.1 = (sureF selW F xs.length).length) : Rows F (xs ++ [x]) := by
  refine ⟨by simp; omega, fun k hk => ?_⟩
  rw [List.length_append, List.length_singleton] at hk
  by_cases e : k = xs.length
  · subst e
    simpa [List.getD_eq_getElem?_getD] using hx
  · have : (xs ++ [x]).getD k default = xs.getD k default := by
      simp only [List.getD_eq_getElem?_getD]; rw [List.getElem?_append_left (by omega)]
    rw [this]; exact h.2 k (by omega)
theorem oneT (t : T3) : oneCells (encT t) = true := rfl
end Foot4

namespace Foot4
open Go Go.G
section
variable {F : Work} {l : List T3} {men : Int} {h i : Nat} {p : T3}
end
def Whole (p : T3) : Prop := 0 ≤ p.at 0 ∧ 0 ≤ p.at 1 ∧ 0 ≤ p.at 2
instance (p : T3) : Decidable (Whole p) := by unfold Whole; infer_instance
end Foot4

namespace Foot4
open Go Go.G
end Foot4

namespace Foot4
open Go Go.G
@[reducible] def sampleF (men : Int) : Work := ⟨[⟨0, 2⟩, ⟨1, 3⟩, ⟨0, 0⟩, ⟨0, 4⟩, ⟨0, 1⟩, ⟨0, 2⟩], men, ⟨12, 8, 4⟩, ⟨2, 3, 4⟩, [⟨8, 11, 100⟩, ⟨10, 10, 60⟩, ⟨30, 31, 40⟩]⟩
theorem smp_best : bestP (sampleF 2) = (160, [⟨0, 3, 5⟩, ⟨0, 3, 5⟩, ⟨-1, -1, -1⟩], 0) := by decide +kernel
end Foot4

namespace Foot4
open Go Go.G
def T3.put (t : T3) (k : Nat) (x : Int) : T3 := if k = 0 then ⟨x, t.b, t.c⟩ else if k = 1 then ⟨t.a, x, t.c⟩ else ⟨t.a, t.b, x⟩
@[reducible] def encU (x : Int) : List Value := [.int .u16 x]
def U16s (by_ : List Int) : Prop := ∀ x ∈ by_, 0 ≤ x ∧ x ≤ 65535
structure Tru where
  rain : List Int
  first : List Int
def wS (F : Work) (t : Tru) (heap : Nat) (p : T3) : Nat → Int × Nat
  | 0 => (t.first.getD heap 0, 0)
  | d + 1 =>
    let s := wS F t heap p d
    let k := if s.2 < 3 ∧ p.at s.2 = d then s.2 + 1 else s.2
    (if k < 3 then step s.1 (t.rain.getD d 0) (F.dr.at k) else s.1, k)
def wetT (F : Work) (t : Tru) (heap : Nat) (p : T3) (d : Nat) : Int := (wS F t heap p d).1
def keepsB (F : Work) (t : Tru) (heap : Nat) (p : T3) (i : Nat) : Prop := p.at i < 0 ∨ wetT F t heap p (p.at i).toNat ≤ F.lim.at i
instance (F : Work) (t : Tru) (heap : Nat) (p : T3) (i : Nat) : Decidable (keepsB F t heap p i) := by unfold keepsB; infer_instance
def keepsT (F : Work) (t : Tru) (heap : Nat) (p : T3) : Prop := ∀ i, i < 3 → keepsB F t heap p i
instance (F : Work) (t : Tru) (heap : Nat) (p : T3) : Decidable (keepsT F t heap p) := by unfold keepsT; infer_instance
end Foot4
namespace Foot4
open Go Go.G
section
variable {F : Work} {t : Tru} {heap : Nat} {p : T3} {k w : Nat} {n : Int}
end
end Foot4

namespace Sod2
open Go Go.G Foot4
def Pos (B : Bank) (c : T3) : Prop := ∀ k, k < B.spits.length → 1 ≤ c.at k
theorem div_facts {m x : Int} (hx : 1 ≤ x) (hm : 0 ≤ m) : 0 ≤ m / x ∧ m / x * x ≤ m ∧ ∀ s, s ≤ m / x ↔ s * x ≤ m :=
  ⟨Int.ediv_nonneg hm (by omega), Int.ediv_mul_le m (by omega), fun _ => Int.le_ediv_iff_mul_le (by omega)⟩
theorem cutK_nn {B : Bank} {c : T3} (hg : GoodS B) (hc : Pos B c) : ∀ (r k : Nat) (m : Int), k + r = B.spits.length → 0 ≤ m → 0 ≤ cutK B c k m ∧ cutK B c k m ≤ 30 * r
  | 0, k, m, h, hm => by rw [cutK_end (B := B) (c := c) (k := k) (m := m) (by omega)]; omega
  | r + 1, k, m, h, hm => by
    have hs := hg.2.2.2.1 k (by omega)
    obtain ⟨h1, h2, h3⟩ := div_facts (hc k (by omega)) hm
    rw [cutK_div (B := B) (c := c) (k := k) (m := m) (by omega)]
    split
    · push_cast; omega
    · have e : min (B.spits.getD k default).sods (m / c.at k) = (B.spits.getD k default).sods := by omega
      have h4 := (h3 (B.spits.getD k default).sods).1 (by omega)
      have h5 := cutK_nn hg hc r (k + 1) (m - (B.spits.getD k default).sods * c.at k) (by omega) (by omega)
      rw [e]; push_cast; omega
theorem sods_bd {B : Bank} {c : T3} (hg : GoodS B) (hc : Pos B c) {m : Int} (hm : 0 ≤ m) : 0 ≤ sodsOf B c m ∧ sodsOf B c m ≤ 90 := by
  have h3 := hg.1
  have := cutK_nn hg hc B.spits.length 0 m (by omega) hm
  rw [cutK_0] at this; omega
def resK (B : Bank) (c : T3) : Nat → Nat → Int → Int × Int
  | 0, _, s => (0, s)
  | r + 1, k, s => (min s (B.spits.getD k default).sods * c.at k + (resK B c r (k + 1) (s - min s (B.spits.getD k default).sods)).1, (resK B c r (k + 1) (s - min s (B.spits.getD k default).sods)).2)
theorem str_res {B : Bank} {c : T3} {s : Int} : ∀ (r k : Nat), k + r = B.spits.length → strS B c s B.spits.length = ((strS B c s k).1 + (resK B c r k (strS B c s k).2).1, (resK B c r k (strS B c s k).2).2)
  | 0, k, h => by
    have e : k = B.spits.length := by omega
    subst e
    simp [resK]
  | r + 1, k, h => by
    rw [str_res r (k + 1) (by omega), resK, strS]
    simp only [Int.add_assoc]
theorem res_0 {B : Bank} {c : T3} (hg : GoodS B) : ∀ (r k : Nat), k + r = B.spits.length → resK B c r k 0 = (0, 0)
  | 0, _, _ => rfl
  | r + 1, k, h => by
    have hs := hg.2.2.2.1 k (by omega)
    rw [resK, show min (0 : Int) (B.spits.getD k default).sods = 0 from by omega, Int.sub_zero, res_0 hg r (k + 1) (by omega)]
    simp
theorem res_iff {B : Bank} {c : T3} (hg : GoodS B) (hc : Pos B c) : ∀ (r k : Nat) (s m : Int), k + r = B.spits.length → 0 ≤ s → 0 ≤ m → (0 ≤ (resK B c r k s).2 ∧ 0 ≤ (resK B c r k s).1) ∧ (((resK B c r k s).2 = 0 ∧ (resK B c r k s).1 ≤ m) ↔ s ≤ cutK B c k m)
  | 0, k, s, m, h, hs, hm => by
    rw [cutK_end (B := B) (c := c) (k := k) (m := m) (by omega)]
    simp only [resK]
    exact ⟨⟨hs, Int.le_refl _⟩, ⟨fun h => by omega, fun h => ⟨by omega, hm⟩⟩⟩
  | r + 1, k, s, m, h, hs, hm => by
    have hsp := hg.2.2.2.1 k (by omega)
    have hx := hc k (by omega)
    obtain ⟨h1, h2, h3⟩ := div_facts hx hm
    have hu0 : 0 ≤ min s (B.spits.getD k default).sods := by omega
    have hux : 0 ≤ min s (B.spits.getD k default).sods * c.at k := Int.mul_nonneg hu0 (by omega)
    have hr0 := (res_iff hg hc r (k + 1) (s - min s (B.spits.getD k default).sods) 0 (by omega) (by omega) (by omega)).1
    simp only [resK]
    refine ⟨⟨hr0.1, by omega⟩, ?_⟩
    rw [cutK_div (B := B) (c := c) (k := k) (m := m) (by omega)]
    by_cases hv : min (B.spits.getD k default).sods (m / c.at k) < (B.spits.getD k default).sods
    · rw [if_pos hv, show min (B.spits.getD k default).sods (m / c.at k) = m / c.at k from by omega]
      by_cases hsl : s ≤ (B.spits.getD k default).sods
      · rw [show min s (B.spits.getD k default).sods = s from by omega, Int.sub_self, res_0 hg r (k + 1) (by omega), h3 s]
        simp
      · have e : min s (B.spits.getD k default).sods = (B.spits.getD k default).sods := by omega
        rw [e] at hr0 ⊢
        constructor
        · intro ⟨_, h5⟩
          have := (h3 (B.spits.getD k default).sods).2 (by omega)
          omega
        · intro h5; omega
    · have e : min (B.spits.getD k default).sods (m / c.at k) = (B.spits.getD k default).sods := by omega
      have h4 := (h3 (B.spits.getD k default).sods).1 (by omega)
      rw [if_neg hv, e]
      by_cases hsl : s ≤ (B.spits.getD k default).sods
      · rw [show min s (B.spits.getD k default).sods = s from by omega, Int.sub_self, res_0 hg r (k + 1) (by omega)]
        have h5 := cutK_nn hg hc r (k + 1) (m - (B.spits.getD k default).sods * c.at k) (by omega) (by omega)
        have h6 : s * c.at k ≤ (B.spits.getD k default).sods * c.at k := Int.mul_le_mul_of_nonneg_right hsl (by omega)
        simp only [true_and, Int.add_zero]
        exact ⟨fun _ => by omega, fun _ => by omega⟩
      · have e2 : min s (B.spits.getD k default).sods = (B.spits.getD k default).sods := by omega
        rw [e2]
        have ih := (res_iff hg hc r (k + 1) (s - (B.spits.getD k default).sods) (m - (B.spits.getD k default).sods * c.at k) (by omega) (by omega) (by omega)).2
        constructor
        · intro ⟨h5, h6⟩
          have := ih.1 ⟨h5, by omega⟩
          omega
        · intro h5
          have := ih.2 (by omega)
          exact ⟨this.1, by omega⟩
theorem strokes_iff {B : Bank} {c : T3} (hg : GoodS B) (hc : Pos B c) {s m : Int} (hs : 0 ≤ s) (hm : 0 ≤ m) (hm2 : m < 1048576) : strokes B c s ≤ m ↔ s ≤ sodsOf B c m := by
  have h1 := str_res (B := B) (c := c) (s := s) B.spits.length 0 (by omega)
  have h2 := res_iff hg hc B.spits.length 0 s m (by omega) hs hm
  rw [cutK_0] at h2
  rw [← h2.2]
  unfold strokes
  rw [h1]
  simp only [strS, Int.zero_add]
  split
  · exact ⟨fun h => by omega, fun h => by omega⟩
  · exact ⟨fun h => ⟨by omega, h⟩, fun h => h.2⟩
theorem sods_mono {B : Bank} {c : T3} (hg : GoodS B) (hc : Pos B c) {m m' : Int} (hm : 0 ≤ m) (h : m ≤ m') (h2 : m' < 1048576) : sodsOf B c m ≤ sodsOf B c m' := by
  have h3 := sods_bd hg hc hm
  have h4 := (strokes_iff hg hc h3.1 hm (by omega)).2 (Int.le_refl _)
  exact (strokes_iff hg hc h3.1 (by omega) h2).1 (by omega)
structure TruS (B : Bank) (c : T3) (n : Nat → Int) : Prop where
  zero : n 0 = 0
  day : ∀ d, d < B.days.length → (B.days.getD d default).lo ≤ n (d + 1) - n d ∧ n (d + 1) - n d ≤ (B.days.getD d default).hi
  log : ∀ k, k < B.logs.length → (B.logs.getD k default).lo ≤ sodsOf B c (n ((B.logs.getD k default).day.toNat + 1)) ∧ sodsOf B c (n ((B.logs.getD k default).day.toNat + 1)) ≤ (B.logs.getD k default).hi
theorem TruS.bd {B : Bank} {c : T3} {n : Nat → Int} (hg : GoodS B) (h : TruS B c n) : ∀ d, d ≤ B.days.length → 0 ≤ n d ∧ n d ≤ 100 * d
  | 0, _ => by rw [h.zero]; omega
  | d + 1, hd => by
    have h1 := h.bd hg d (by omega)
    have h2 := h.day d (by omega)
    have h3 := hg.2.2.2.2.1 d (by omega)
    push_cast; omega
theorem now_in {B : Bank} {c : T3} {n : Nat → Int} (hg : GoodS B) (hc : Pos B c) (h : TruS B c n) : ∀ d, d ≤ B.days.length → (nowF B c d).lo ≤ n d ∧ n d ≤ (nowF B c d).hi
  | 0, _ => by rw [h.zero, nowF]; exact ⟨Int.le_refl _, Int.le_refl _⟩
  | d + 1, hd => by
    have h1 := now_in hg hc h d (by omega)
    have h2 := h.day d (by omega)
    have hb := h.bd hg (d + 1) hd
    have h6 := hg.2.1
    rw [nowF]
    have key : ∀ k, k ≤ B.logs.length → (cntTo B c d ⟨(nowF B c d).lo + (B.days.getD d default).lo, (nowF B c d).hi + (B.days.getD d default).hi⟩ k).lo ≤ n (d + 1) ∧ n (d + 1) ≤ (cntTo B c d ⟨(nowF B c d).lo + (B.days.getD d default).lo, (nowF B c d).hi + (B.days.getD d default).hi⟩ k).hi := by
      intro k
      induction k with
      | zero => intro _; simp only [cntTo]; omega
      | succ k ih =>
        intro hk
        have h3 := ih (by omega)
        by_cases hday : (B.logs.getD k default).day = d
        · have h4 := h.log k (by omega)
          have h5 := hg.2.2.2.2.2 k (by omega)
          rw [hday, Int.toNat_natCast] at h4
          have h7 := (strokes_iff hg hc (m := n (d + 1)) h5.2.1 hb.1 (by omega)).2 h4.1
          have h8 : ¬ strokes B c ((B.logs.getD k default).hi + 1) ≤ n (d + 1) := fun x => by
            have := (strokes_iff hg hc (m := n (d + 1)) (by omega) hb.1 (by omega)).1 x
            omega
          rw [cntTo_y hday]
          simp only [one, comS]
          omega
        · rw [cntTo_n hday]; exact h3
    exact key _ (Nat.le_refl _)
theorem tru_can {B : Bank} {c : T3} {n : Nat → Int} (hg : GoodS B) (hc : Pos B c) (h : TruS B c n) : canC B c := fun k hk => by
  have := now_in hg hc h (k + 1) (by omega)
  omega
theorem bk_in {B : Bank} {c : T3} {n : Nat → Int} (hg : GoodS B) (hc : Pos B c) (h : TruS B c n) : ∀ j, j < B.days.length → (bk B c j).lo ≤ n (B.days.length - j) ∧ n (B.days.length - j) ≤ (bk B c j).hi
  | 0, hj => by rw [bk, Nat.sub_zero]; exact now_in hg hc h _ (Nat.le_refl _)
  | j + 1, hj => by
    have h1 := bk_in hg hc h j (by omega)
    have h2 := now_in hg hc h (B.days.length - 1 - j) (by omega)
    have h3 := h.day (B.days.length - 1 - j) (by omega)
    rw [show B.days.length - 1 - j + 1 = B.days.length - j from by omega] at h3
    rw [bk, show B.days.length - (j + 1) = B.days.length - 1 - j from by omega]
    simp only
    omega
theorem log_in {B : Bank} {c : T3} {n : Nat → Int} (hg : GoodS B) (hc : Pos B c) (h : TruS B c n) {d : Nat} (hd : d < B.days.length) : (logD B c d).lo ≤ n (d + 1) ∧ n (d + 1) ≤ (logD B c d).hi := by
  have e : logD B c d = bk B c (B.days.length - 1 - d) := by unfold logD; rw [if_pos (tru_can hg hc h)]; unfold bckD; rw [if_pos hd, if_pos (Nat.zero_le _)]; rfl
  have := bk_in hg hc h (B.days.length - 1 - d) (by omega)
  rw [e]
  rw [show B.days.length - (B.days.length - 1 - d) = d + 1 from by omega] at this
  exact this
theorem cutP_bd {B : Bank} (hg : GoodS B) (hcs : canS B) {d : Nat} (hd : d < B.days.length) : 0 ≤ (cutP B d).lo ∧ (cutP B d).lo ≤ (cutP B d).hi ∧ (cutP B d).hi ≤ 90 := by
  refine hullTo_bd (a := 0) (b := 90) (fun s hs => ?_) (goodC_pos (d := d) hcs) _ (Nat.le_refl _)
  obtain ⟨c, hc, rfl⟩ := List.mem_map.1 hs
  obtain ⟨h1, h2⟩ := List.mem_filter.1 hc
  have hin := (mem_all hg).1 h1
  have hcan : canC B c := by simpa using h2
  have hb := log_bd hg (hin.inC hg) hcan hd
  have h3 := sods_bd hg (hin.pos hg) (m := (logD B c d).lo) hb.1
  have h4 := sods_bd hg (hin.pos hg) (m := (logD B c d).hi) (by omega)
  exact ⟨h3.1, sods_mono hg (hin.pos hg) hb.1 hb.2.1 (by omega), h4.2⟩
theorem cut_in {B : Bank} {c : T3} {n : Nat → Int} (hg : GoodS B) (hin : InB B c) (h : TruS B c n) {d : Nat} (hd : d < B.days.length) : canS B ∧ (cutP B d).lo ≤ sodsOf B c (n (d + 1)) ∧ sodsOf B c (n (d + 1)) ≤ (cutP B d).hi := by
  have hc := hin.pos hg
  have hcan := tru_can hg hc h
  have hmem := (mem_all hg).2 hin
  have h1 := log_in hg hc h hd
  have hb := h.bd hg (d + 1) (by omega)
  have hb2 := log_bd hg (hin.inC hg) hcan hd
  have h6 := hg.2.1
  have h2 := hull_in (l := (goodC B).map (cutSp B d)) (s := cutSp B d c) (List.mem_map.2 ⟨c, List.mem_filter.2 ⟨hmem, by simpa using hcan⟩, rfl⟩)
  have h3 : sodsOf B c (logD B c d).lo ≤ sodsOf B c (n (d + 1)) := sods_mono hg hc hb2.1 h1.1 (by omega)
  have h4 : sodsOf B c (n (d + 1)) ≤ sodsOf B c (logD B c d).hi := sods_mono hg hc hb.1 h1.2 (by omega)
  unfold cutP
  simp only [cutSp] at h2
  exact ⟨⟨c, hmem, hcan⟩, by omega, by omega⟩
end Sod2

namespace Sod2
open Go Go.G Foot4
def drawT (bys : List Int) (k : Nat) (s : Span) : Int :=
  if (bys.length : Int) = 0 then s.lo else s.lo + (bys.getD (k % bys.length) 0 + 79 * k).tmod (s.hi - s.lo + 1)
theorem drawT_0 {bys : List Int} {k : Nat} {s : Span} (h : (bys.length : Int) = 0) : drawT bys k s = s.lo := if_pos h
theorem drawT_1 {bys : List Int} {k : Nat} {s : Span} (h : ¬ (bys.length : Int) = 0) : drawT bys k s = s.lo + (bys.getD (k % bys.length) 0 + 79 * k).tmod (s.hi - s.lo + 1) := if_neg h
def InD (f : Nat → Span → Int) : Prop := ∀ k s, s.lo ≤ s.hi → s.lo ≤ f k s ∧ f k s ≤ s.hi
theorem drawT_in {bys : List Int} (hu : U16s bys) : InD (drawT bys) := fun k s h => by
  unfold drawT
  split
  · omega
  · have h0 : 0 ≤ bys.getD (k % bys.length) 0 := by
      by_cases hl : k % bys.length < bys.length
      · have hm : bys.getD (k % bys.length) 0 ∈ bys := by simp [List.getD_eq_getElem?_getD, hl]
        exact (hu _ hm).1
      · simp [List.getD_eq_getElem?_getD, List.getElem?_eq_none (by omega : bys.length ≤ k % bys.length)]
    have h1 := Int.tmod_nonneg (s.hi - s.lo + 1) (show 0 ≤ bys.getD (k % bys.length) 0 + 79 * (k : Int) by omega)
    have h2 := Int.tmod_lt_of_pos (bys.getD (k % bys.length) 0 + 79 * (k : Int)) (show 0 < s.hi - s.lo + 1 by omega)
    omega
def spD (p : Spit) : Span := ⟨p.lo, p.hi⟩
def costTo (f : Nat → Span → Int) (k0 : Nat) (B : Bank) (k : Nat) : List Int := (List.range k).map fun j => f (k0 + j + 1) (spD (B.spits.getD j default))
theorem costTo_s {f : Nat → Span → Int} {k0 : Nat} {B : Bank} {k : Nat} : costTo f k0 B k ++ [f (k0 + k + 1) (spD (B.spits.getD k default))] = costTo f k0 B (k + 1) := by simp [costTo, List.range_succ]
theorem costTo_len {f : Nat → Span → Int} {k0 : Nat} {B : Bank} {k : Nat} : (costTo f k0 B k).length = k := by simp [costTo]
theorem costTo_at {f : Nat → Span → Int} {k0 : Nat} {B : Bank} {k j : Nat} (h : j < k) : (costTo f k0 B k).getD j default = f (k0 + j + 1) (spD (B.spits.getD j default)) := by simp [costTo, List.getD_eq_getElem?_getD, h]
abbrev costD (f : Nat → Span → Int) (k0 : Nat) (B : Bank) : List Int := costTo f k0 B B.spits.length
abbrev cD (f : Nat → Span → Int) (k0 : Nat) (B : Bank) : T3 := ofL (costD f k0 B)
def strD (f : Nat → Span → Int) (k0 : Nat) (B : Bank) : Nat → Int
  | 0 => 0
  | d + 1 => strD f k0 B d + f (k0 + B.spits.length + d + 1) (B.days.getD d default)
def daysTo (f : Nat → Span → Int) (k0 : Nat) (B : Bank) (k : Nat) : List Int := (List.range k).map fun d => strD f k0 B (d + 1)
theorem daysTo_s {f : Nat → Span → Int} {k0 : Nat} {B : Bank} {k : Nat} : daysTo f k0 B k ++ [strD f k0 B (k + 1)] = daysTo f k0 B (k + 1) := by simp [daysTo, List.range_succ]
theorem daysTo_len {f : Nat → Span → Int} {k0 : Nat} {B : Bank} {k : Nat} : (daysTo f k0 B k).length = k := by simp [daysTo]
theorem daysTo_at {f : Nat → Span → Int} {k0 : Nat} {B : Bank} {k j : Nat} (h : j < k) : (daysTo f k0 B k).getD j default = strD f k0 B (j + 1) := by simp [daysTo, List.getD_eq_getElem?_getD, h]
def logN (f : Nat → Span → Int) (k0 : Nat) (B : Bank) (l : LogS) : Int := sodsOf B (cD f k0 B) (strD f k0 B (l.day.toNat + 1))
def logX (f : Nat → Span → Int) (k0 : Nat) (B : Bank) (l : LogS) : LogS := ⟨l.day, max 0 (logN f k0 B l - 1), logN f k0 B l + 1⟩
def logsTo (f : Nat → Span → Int) (k0 : Nat) (B : Bank) (k : Nat) : List LogS := (List.range k).map fun j => logX f k0 B (B.logs.getD j default)
theorem logsTo_s {f : Nat → Span → Int} {k0 : Nat} {B : Bank} {k : Nat} : logsTo f k0 B k ++ [logX f k0 B (B.logs.getD k default)] = logsTo f k0 B (k + 1) := by simp [logsTo, List.range_succ]
theorem logsTo_len {f : Nat → Span → Int} {k0 : Nat} {B : Bank} {k : Nat} : (logsTo f k0 B k).length = k := by simp [logsTo]
theorem logsTo_at {f : Nat → Span → Int} {k0 : Nat} {B : Bank} {k j : Nat} (h : j < k) : (logsTo f k0 B k).getD j default = logX f k0 B (B.logs.getD j default) := by simp [logsTo, List.getD_eq_getElem?_getD, h]
@[reducible] def bankX (f : Nat → Span → Int) (k0 : Nat) (B : Bank) : Bank := ⟨B.spits, B.days, logsTo f k0 B B.logs.length⟩
section
variable {f : Nat → Span → Int} {k0 : Nat} {B : Bank} (hf : InD f) (hg : GoodS B)
include hf hg
theorem cost_in {j : Nat} (h : j < B.spits.length) : (B.spits.getD j default).lo ≤ f (k0 + j + 1) (spD (B.spits.getD j default)) ∧ f (k0 + j + 1) (spD (B.spits.getD j default)) ≤ (B.spits.getD j default).hi :=
  hf _ _ (hg.2.2.2.1 j h).2.1.2.1
theorem cost_16 {j : Nat} (h : j < B.spits.length) : 1 ≤ (costD f k0 B).getD j default ∧ (costD f k0 B).getD j default ≤ 6 := by
  rw [costTo_at h]
  have h1 := cost_in (k0 := k0) hf hg h
  have h2 := hg.2.2.2.1 j h
  omega
theorem cD_in : InB B (cD f k0 B) := by
  have h3 := hg.1
  refine ⟨fun k hk => ?_, fun k hk hk2 => ?_⟩
  · rw [at_ofL (by omega), costTo_at hk]
    exact cost_in hf hg hk
  · rw [at_ofL hk]
    have : (costD f k0 B).length ≤ k := by rw [costTo_len]; exact hk2
    rw [List.getD_eq_getElem?_getD, List.getElem?_eq_none this]; rfl
theorem str_day {d : Nat} (h : d < B.days.length) : (B.days.getD d default).lo ≤ strD f k0 B (d + 1) - strD f k0 B d ∧ strD f k0 B (d + 1) - strD f k0 B d ≤ (B.days.getD d default).hi := by
  have := hf (k0 + B.spits.length + d + 1) (B.days.getD d default) (hg.2.2.2.2.1 d h).2.1
  rw [strD]; omega
theorem str_bd : ∀ d, d ≤ B.days.length → 0 ≤ strD f k0 B d ∧ strD f k0 B d ≤ 100 * d
  | 0, _ => by rw [strD]; omega
  | d + 1, h => by
    have h1 := str_bd d (by omega)
    have h2 := str_day (k0 := k0) hf hg (d := d) (by omega)
    have h3 := hg.2.2.2.2.1 d (by omega)
    push_cast; omega
theorem logN_bd {k : Nat} (h : k < B.logs.length) : 0 ≤ logN f k0 B (B.logs.getD k default) ∧ logN f k0 B (B.logs.getD k default) ≤ 90 := by
  have h1 := hg.2.2.2.2.2 k h
  exact sods_bd hg ((cD_in (k0 := k0) hf hg).pos hg) (str_bd hf hg _ (by omega)).1
theorem good_X : GoodS (bankX f k0 B) := by
  have hg2 := hg
  obtain ⟨g1, g2, g3, g4, g5, g6⟩ := hg
  refine ⟨g1, g2, ?_, g4, g5, fun k hk => ?_⟩
  · show ((logsTo f k0 B B.logs.length).length : Int) ≤ 4
    rw [logsTo_len]; exact g3
  · have hk2 : k < B.logs.length := by
      have : (logsTo f k0 B B.logs.length).length = B.logs.length := logsTo_len
      show k < _
      have hk3 : k < (logsTo f k0 B B.logs.length).length := hk
      omega
    show (0 ≤ ((logsTo f k0 B B.logs.length).getD k default).day ∧ ((logsTo f k0 B B.logs.length).getD k default).day ≤ _) ∧ (0 ≤ ((logsTo f k0 B B.logs.length).getD k default).lo ∧ ((logsTo f k0 B B.logs.length).getD k default).lo ≤ ((logsTo f k0 B B.logs.length).getD k default).hi ∧ ((logsTo f k0 B B.logs.length).getD k default).hi ≤ 200)
    rw [logsTo_at hk2]
    have h1 := logN_bd (k0 := k0) hf hg2 hk2
    have h2 := g6 k hk2
    refine ⟨h2.1, ?_⟩
    simp only [logX]
    omega
theorem tru_X : TruS (bankX f k0 B) (cD f k0 B) (strD f k0 B) := by
  refine ⟨rfl, fun d hd => str_day hf hg hd, fun k hk => ?_⟩
  have hk2 : k < B.logs.length := by
    have : (logsTo f k0 B B.logs.length).length = B.logs.length := logsTo_len
    have hk3 : k < (logsTo f k0 B B.logs.length).length := hk
    omega
  show ((logsTo f k0 B B.logs.length).getD k default).lo ≤ sodsOf B (cD f k0 B) (strD f k0 B (((logsTo f k0 B B.logs.length).getD k default).day.toNat + 1)) ∧ sodsOf B (cD f k0 B) (strD f k0 B (((logsTo f k0 B B.logs.length).getD k default).day.toNat + 1)) ≤ ((logsTo f k0 B B.logs.length).getD k default).hi
  rw [logsTo_at hk2]
  have h1 := logN_bd (k0 := k0) hf hg hk2
  have e : sodsOf B (cD f k0 B) (strD f k0 B ((B.logs.getD k default).day.toNat + 1)) = logN f k0 B (B.logs.getD k default) := rfl
  simp only [logX]
  rw [e]
  omega
theorem sods_X : canS (bankX f k0 B) ∧ (cutP (bankX f k0 B) (B.days.length - 1)).lo ≤ sodsOf B (cD f k0 B) (strD f k0 B B.days.length) ∧ sodsOf B (cD f k0 B) (strD f k0 B B.days.length) ≤ (cutP (bankX f k0 B) (B.days.length - 1)).hi := by
  have h2 := hg.2.1
  have h := cut_in (d := B.days.length - 1) (good_X (k0 := k0) hf hg) (show InB (bankX f k0 B) (cD f k0 B) from cD_in (B := B) (k0 := k0) hf hg) (tru_X hf hg) (by show B.days.length - 1 < B.days.length; omega)
  rw [show B.days.length - 1 + 1 = B.days.length from by omega] at h
  exact h
end
end Sod2

namespace Foot4
open Go Go.G
end Foot4

namespace Foot4
open Go Go.G
end Foot4

namespace Foot4
open Go Go.G
end Foot4

namespace Foot4
open Go Go.G
def wholeB' (p : T3) : Prop := 0 ≤ p.a ∧ 0 ≤ p.b ∧ 0 ≤ p.c
instance (p : T3) : Decidable (wholeB' p) := by unfold wholeB'; infer_instance
def Right (F : Work) (men : Int) : Nat → List Int → List T3 → Prop
  | 0, _, Q => Q = []
  | r + 1, B, Q => ∃ p Q', Q = p :: Q' ∧ IsPlan F.rain.length p ∧ keptF selW F (F.heaps.length - (r + 1)) p ∧ (∀ j, j < 3 → 0 ≤ p.at j → B.getD (p.at j).toNat 0 < men) ∧ Right F men r (with_ B p) Q'
def bl (F : Work) (men : Int) : Nat → List Int → List T3
  | 0, _ => []
  | r + 1, B => (bestW F men (r + 1) B).plan :: bl F men r (with_ B (bestW F men (r + 1) B).plan)
theorem Right.len {F : Work} {men : Int} : ∀ {r : Nat} {B : List Int} {Q : List T3}, Right F men r B Q → Q.length = r
  | 0, _, _, h => by
    have h : _ = [] := h
    rw [h]; rfl
  | r + 1, _, _, ⟨p, Q', e, _, _, _, hr⟩ => by rw [e, List.length_cons, hr.len]
end Foot4

namespace Foot4
open Go Go.G
end Foot4

namespace Foot4
open Go Go.G
end Foot4

namespace Foot4
open Go Go.G
end Foot4

namespace Foot4
open Go Go.G
end Foot4

namespace Foot4
open Go Go.G
end Foot4

namespace Foot4
open Go Go.G
end Foot4

namespace Foot4
open Go Go.G
structure Ease (F F' : Work) : Prop where
  good : GoodF F'
  men : F'.men = F.men
  rl : F'.rain.length = F.rain.length
  hl : F'.heaps.length = F.heaps.length
  rain : ∀ k, (F'.rain.getD k default).hi ≤ (F.rain.getD k default).hi
  heap : ∀ k, (F'.heaps.getD k default).hi ≤ (F.heaps.getD k default).hi
  sods : ∀ k, (F'.heaps.getD k default).sods = (F.heaps.getD k default).sods
  lim : ∀ k, F.lim.at k ≤ F'.lim.at k
  dr : ∀ k, F.dr.at k ≤ F'.dr.at k
theorem Ease.wet {F F' : Work} (h : Ease F F') (heap : Nat) (p : T3) : ∀ d, worstTo F' heap p d ≤ worstTo F heap p d
  | 0 => h.heap heap
  | d + 1 => by
    have ih := h.wet heap p d
    have h1 := h.rain d
    have h2 := h.dr (Done p d).toNat
    simp only [worstTo]
    split
    · unfold step; omega
    · exact ih
end Foot4

namespace Foot4
open Go Go.G
@[reducible] def encB (x : Int) : List Value := [.int .i8 x]
def pick (rl : Nat) (bys : List Int) (h i : Nat) : Int := if 3 * h + i < bys.length then ((bys.getD (3 * h + i) 0).tmod (rl + 1) + rl + 1).tmod (rl + 1) - 1 else -1
end Foot4

namespace Foot4
open Go Go.G
end Foot4

namespace Sod2
open Go Go.G Foot4
end Sod2

namespace Go.Proofs.YtpndeonmmcaikaaGreat.CutW
open Go.G Burst8
open BurstW hiding adrAt v_bSp
set_option linter.unusedVariables false
set_option linter.unusedSimpArgs false
set_option linter.unusedSectionVars false
attribute [local irreducible] fw fwR fwC emptyT tabOf knownT canB boundsL
def bkC (b : Bank) (t1 t2 : Int) : Bank := ⟨b.blo, b.bhi, b.clo + t1, b.chi + t2⟩
def yB (B : Bog) (p : Nat) (t1 t2 : Int) : Bog := ⟨B.banks.set p (bkC (B.banks.getD p default) t1 t2), B.wlo, B.whi, B.rain, B.drain, []⟩
@[reducible] def oB (B : Bog) : Bog := ⟨B.banks, B.wlo, B.whi, B.rain, B.drain, []⟩
def tenI (n : Int) : Int := (n + 9).tdiv 10
theorem ten_le {a b : Int} (h0 : 0 ≤ a) (h : a ≤ b) : tenI a ≤ tenI b := by unfold tenI; rw [Int.tdiv_eq_ediv_of_nonneg (by omega), Int.tdiv_eq_ediv_of_nonneg (by omega)]; omega
theorem ten_bd {a : Int} (h0 : 0 ≤ a) (h : a ≤ 90) : 0 ≤ tenI a ∧ tenI a ≤ 9 := by unfold tenI; rw [Int.tdiv_eq_ediv_of_nonneg (by omega)]; omega
theorem set_at {α : Type} [Inhabited α] {l : List α} {p i : Nat} {x : α} (hp : p < l.length) : (l.set p x).getD i default = if i = p then x else l.getD i default := by
  by_cases e : i = p
  · subst e; rw [if_pos rfl]; simp [List.getD_eq_getElem?_getD, List.getElem?_set, hp]
  · rw [if_neg e]; simp [List.getD_eq_getElem?_getD, List.getElem?_set, Ne.symm e]
section
variable {B : Bog} {p : Nat} {t1 t2 : Int}
theorem good_o (hg : GoodB B) : GoodB (oB B) :=
  ⟨hg.nb, hg.w, hg.nr, hg.dr, (by show ((0 : Nat) : Int) ≤ 5; decide), hg.banks, hg.rain, fun k hk => absurd hk (by show ¬ k < 0; omega)⟩
theorem yB_at (hp : p < B.banks.length) (i : Nat) : (yB B p t1 t2).banks.getD i default = if i = p then bkC (B.banks.getD p default) t1 t2 else B.banks.getD i default := set_at hp
theorem yB_len : (yB B p t1 t2).banks.length = B.banks.length := List.length_set
theorem tr_yo (hg : GoodB B) (hp : p < B.banks.length) (h1 : 0 ≤ t1) {m : Nat} {k w : Nat → Int} (h : TrW (yB B p t1 t2) m k w) :
    TrW (oB B) m (fun i => if i = p then min (k i + t2) ((B.banks.getD p default).bhi - (B.banks.getD p default).clo) else k i) w := by
  refine ⟨h.w0, fun i hi => ?_, h.r, fun j hj => absurd hj (by show ¬ j < 0; omega)⟩
  have h2 := h.b i (by rw [yB_len]; exact hi)
  have h3 := hg.banks i hi
  rw [yB_at hp] at h2
  unfold BankOk at h3
  by_cases e : i = p
  · subst e
    rw [if_pos rfl] at h2 ⊢
    unfold bkC at h2
    dsimp only at h2 ⊢
    omega
  · rw [if_neg e] at h2 ⊢
    exact h2
theorem tr_oy (hp : p < B.banks.length) (h12 : t1 ≤ t2) {m : Nat} {k w : Nat → Int} (h : TrW (oB B) m k w) :
    TrW (yB B p t1 t2) m (fun i => if i = p then k i - t2 else k i) w := by
  refine ⟨h.w0, fun i hi => ?_, h.r, fun j hj => absurd hj (by show ¬ j < 0; omega)⟩
  rw [yB_len] at hi
  have h2 := h.b i hi
  rw [yB_at hp]
  by_cases e : i = p
  · subst e
    rw [if_pos rfl, if_pos rfl]
    unfold bkC
    dsimp only at h2 ⊢
    omega
  · rw [if_neg e, if_neg e]
    exact h2
section
variable (hg : GoodB B) (hy : GoodB (yB B p t1 t2)) (hp : p < B.banks.length) (h1 : 0 ≤ t1) (h12 : t1 ≤ t2) (hc : canB (yB B p t1 t2) (allS (yB B p t1 t2)) 0 false = true)
include hg hy hp h1 h12 hc
theorem can_o : canB (oB B) (allS (oB B)) 0 false = true := by
  obtain ⟨k, w, h⟩ := (can_way hy).1 hc
  exact tr_can (good_o hg) (tr_yo hg hp h1 h)
theorem margin_y {d : Nat} (hd : d ≤ B.rain.length) : (marginT (tB (yB B p t1 t2)) p d).lo = (marginT (tB (oB B)) p d).lo - t2 := by
  have hco := can_o hg hy hp h1 h12 hc
  have hgo := good_o hg
  have hb := hg.nb; have hr := hg.nr
  have a1 := known_le hgo hco (a := 1 + p) (b := 5 + d) (by omega) (by omega)
  have a2 := known_le hy hc (a := 1 + p) (b := 5 + d) (by omega) (by omega)
  apply Int.le_antisymm
  · obtain ⟨k, w, h, e⟩ := margin_mid hgo hco (i := p) (d := d) hp hd (v := (marginT (tB (oB B)) p d).lo) (Int.le_refl _) a1
    have := (tr_margin hy (tr_oy hp h12 h) (i := p) (d := d) (by rw [yB_len]; exact hp) hd).1
    rw [if_pos rfl] at this
    omega
  · obtain ⟨k, w, h, e⟩ := margin_mid hy hc (i := p) (d := d) (by rw [yB_len]; exact hp) hd (v := (marginT (tB (yB B p t1 t2)) p d).lo) (Int.le_refl _) a2
    have := (tr_margin hgo (tr_yo hg hp h1 h) (i := p) (d := d) hp hd).1
    rw [if_pos rfl] at this
    omega
theorem worst_y : worstT (tB (yB B p t1 t2)) p B.rain.length = worstT (tB (oB B)) p B.rain.length - t2 := by
  have hm : ∀ d, d ≤ B.rain.length → _ := fun d hd => margin_y hg hy hp h1 h12 hc (d := d) hd
  obtain ⟨i, hi, ei⟩ := worst_at (tB (yB B p t1 t2)) p B.rain.length
  obtain ⟨j, hj, ej⟩ := worst_at (tB (oB B)) p B.rain.length
  have e1 := worst_le (T := tB (yB B p t1 t2)) (k := p) hj
  have e2 := worst_le (T := tB (oB B)) (k := p) hi
  have m1 := hm i hi
  have m2 := hm j hj
  omega
end
end
def mnT (X : Bog) (p : Nat) : Nat → Int
  | 0 => 1
  | d + 1 => min (mnT X p d) (marginT (tB X) p d).lo
theorem mnT_0 (X : Bog) (p : Nat) : mnT X p 0 = 1 := rfl
theorem mnT_s (X : Bog) (p d : Nat) : mnT X p (d + 1) = min (mnT X p d) (marginT (tB X) p d).lo := rfl
theorem mnT_iff {X : Bog} {p : Nat} : ∀ n, mnT X p n < 0 ↔ ∃ d, d < n ∧ (marginT (tB X) p d).lo < 0
  | 0 => by
    rw [mnT_0]
    constructor
    · intro h; omega
    · rintro ⟨d, h, _⟩; omega
  | n + 1 => by
    have ih := mnT_iff (X := X) (p := p) n
    rw [mnT_s]
    constructor
    · intro h
      by_cases h2 : mnT X p n < 0
      · obtain ⟨d, h, e⟩ := ih.1 h2
        exact ⟨d, by omega, e⟩
      · exact ⟨n, by omega, by omega⟩
    · rintro ⟨d, h, e⟩
      by_cases hd : d = n
      · subst hd; omega
      · have := ih.2 ⟨d, by omega, e⟩; omega
theorem mnT_worst {X : Bog} {p n : Nat} : mnT X p (n + 1) < 0 ↔ worstT (tB X) p n < 0 := by
  rw [mnT_iff]
  obtain ⟨i, hi, ei⟩ := worst_at (tB X) p n
  constructor
  · rintro ⟨d, hd, e⟩
    have := worst_le (T := tB X) (k := p) (show d ≤ n by omega)
    omega
  · intro h
    exact ⟨i, by omega, by omega⟩
theorem bit_of {q : Nat → Bool} {n i : Nat} (hi : i < n) : (mvTo q n >>> i) &&& 1 = if q i then 1 else 0 := by
  have h := mvTo_bit q n i
  rw [decide_eq_true hi, Bool.true_and] at h
  unfold Nat.testBit at h
  rw [Nat.and_comm] at h
  have h2 : (mvTo q n >>> i) &&& 1 = (mvTo q n >>> i) % 2 := Nat.and_one_is_mod _
  rw [h2] at h ⊢
  cases hq : q i
  · rw [hq] at h
    have : ¬ ((mvTo q n >>> i) % 2 ≠ 0) := by simpa using h
    simp; omega
  · rw [hq] at h
    have : (mvTo q n >>> i) % 2 ≠ 0 := by simpa using h
    simp; omega
theorem mv_sm {q : Nat → Bool} {n : Nat} (h : n ≤ 4) : mvTo q n < 2 ^ 62 := Nat.lt_of_lt_of_le (mvTo_lt q n) (Nat.pow_le_pow_right (by decide) (by omega))
theorem mv_sh {q : Nat → Bool} {n i : Nat} (h : n ≤ 4) : mvTo q n >>> i < 2 ^ 62 := Nat.lt_of_le_of_lt (Nat.shiftRight_le _ _) (mv_sm h)
def spC (b : Bank) : Foot4.Span := ⟨b.clo, b.chi⟩
def spK (b : Bank) : Foot4.Span := ⟨b.blo, b.bhi⟩
def spS (s : Burst8.Span) : Foot4.Span := ⟨s.lo, s.hi⟩
def kT (f : Nat → Foot4.Span → Int) (k0 : Nat) (B : Bog) (p : Nat) (ts : Int) (i : Nat) : Int :=
  f (k0 + 2 * i + 1 + 1) (spK (B.banks.getD i default)) - (if i = p then f (k0 + 2 * i + 1) (spC (B.banks.getD i default)) + ts else f (k0 + 2 * i + 1) (spC (B.banks.getD i default)))
def wT (f : Nat → Foot4.Span → Int) (k0 : Nat) (B : Bog) : Nat → Int
  | 0 => f (k0 + 2 * B.banks.length + 1) ⟨B.wlo, B.whi⟩
  | d + 1 => wT f k0 B d + (f (k0 + 2 * B.banks.length + 1 + d + 1) (spS (B.rain.getD d default)) - B.drain)
def ksTo (f : Nat → Foot4.Span → Int) (k0 : Nat) (B : Bog) (p : Nat) (ts : Int) (n : Nat) : List Int := (List.range n).map (kT f k0 B p ts)
theorem ksTo_s {f : Nat → Foot4.Span → Int} {k0 : Nat} {B : Bog} {p : Nat} {ts : Int} {n : Nat} : ksTo f k0 B p ts n ++ [kT f k0 B p ts n] = ksTo f k0 B p ts (n + 1) := by simp [ksTo, List.range_succ]
theorem ksTo_len {f : Nat → Foot4.Span → Int} {k0 : Nat} {B : Bog} {p : Nat} {ts : Int} {n : Nat} : (ksTo f k0 B p ts n).length = n := by simp [ksTo]
theorem ksTo_at {f : Nat → Foot4.Span → Int} {k0 : Nat} {B : Bog} {p : Nat} {ts : Int} {n i : Nat} (h : i < n) : (ksTo f k0 B p ts n).getD i default = kT f k0 B p ts i := by simp [ksTo, List.getD_eq_getElem?_getD, h]
section
variable {f : Nat → Foot4.Span → Int} {k0 : Nat} {B : Bog} {p : Nat} {t1 t2 ts : Int} (hf : Sod2.InD f) (hg : GoodB B) (hp : p < B.banks.length) (h1 : t1 ≤ ts) (h2 : ts ≤ t2)
include hf hg hp h1 h2
theorem tru_y : TrW (yB B p t1 t2) (allS (yB B p t1 t2)) (kT f k0 B p ts) (wT f k0 B) := by
  refine ⟨?_, fun i hi => ?_, fun d hd => ?_, fun j hj => absurd hj (by show ¬ j < 0; omega)⟩
  · exact hf _ ⟨B.wlo, B.whi⟩ hg.w.2.1
  · rw [yB_len] at hi
    have h3 := hg.banks i hi
    unfold BankOk at h3
    rw [yB_at hp]
    have a1 := hf (k0 + 2 * i + 1) (spC (B.banks.getD i default)) (by show (B.banks.getD i default).clo ≤ (B.banks.getD i default).chi; omega)
    have a2 := hf (k0 + 2 * i + 1 + 1) (spK (B.banks.getD i default)) (by show (B.banks.getD i default).blo ≤ (B.banks.getD i default).bhi; omega)
    unfold kT
    have b1 : (spC (B.banks.getD i default)).lo = (B.banks.getD i default).clo := rfl
    have b2 : (spC (B.banks.getD i default)).hi = (B.banks.getD i default).chi := rfl
    have b3 : (spK (B.banks.getD i default)).lo = (B.banks.getD i default).blo := rfl
    have b4 : (spK (B.banks.getD i default)).hi = (B.banks.getD i default).bhi := rfl
    by_cases e : i = p
    · subst e
      rw [if_pos rfl, if_pos rfl]
      unfold bkC
      dsimp only
      omega
    · rw [if_neg e, if_neg e]
      omega
  · have h3 := hg.rain d hd
    unfold RainOk at h3
    have a1 := hf (k0 + 2 * B.banks.length + 1 + d + 1) (spS (B.rain.getD d default)) (by show (B.rain.getD d default).lo ≤ (B.rain.getD d default).hi; omega)
    have b1 : (spS (B.rain.getD d default)).lo = (B.rain.getD d default).lo := rfl
    have b2 : (spS (B.rain.getD d default)).hi = (B.rain.getD d default).hi := rfl
    show (B.rain.getD d default).lo - B.drain ≤ wT f k0 B (d + 1) - wT f k0 B d ∧ wT f k0 B (d + 1) - wT f k0 B d ≤ (B.rain.getD d default).hi - B.drain
    have e : wT f k0 B (d + 1) = wT f k0 B d + (f (k0 + 2 * B.banks.length + 1 + d + 1) (spS (B.rain.getD d default)) - B.drain) := rfl
    omega
end
section
variable {X : Bog} (hx : GoodB X) {k w : Nat → Int} (h : TrW X (allS X) k w)
include hx h
theorem step_b {i d : Nat} (hi : i < X.banks.length) (hd : d ≤ X.rain.length) (hu : (d : Int) ≤ lastB X) : ¬ k i < w d := by
  have := (calmF_iff.1 (tr_until hx h hd hu)).2 i hi
  omega
end
theorem first_cases {X : Bog} (hx : GoodB X) (hc : canB X (allS X) 0 false = true) :
    ((firstB X (X.rain.length : Int)).2 = 0 ∧ (0 ≤ (firstB X (X.rain.length : Int)).1 ∧ (firstB X (X.rain.length : Int)).1 < (X.banks.length : Int)) ∧ mnT X (firstB X (X.rain.length : Int)).1.toNat (X.rain.length + 1) < 0) ∨ ((firstB X (X.rain.length : Int)).2 = 4 ∧ ∀ i, i < X.banks.length → 0 ≤ mnT X i (X.rain.length + 1)) := by
  have hn := hx.nb
  have hd : isD X (X.rain.length : Int) = true := decide_eq_true (by omega)
  by_cases h : (firstT (tB X) X.banks.length X.rain.length).2 < 0
  · left
    obtain ⟨g1, g2, _⟩ := leastN_spec (fun k => worstT (tB X) k X.rain.length) X.banks.length (by omega)
    have hs : firstB X (X.rain.length : Int) = (((firstT (tB X) X.banks.length X.rain.length).1 : Int), 0) := by unfold firstB; rw [Int.toNat_natCast, ansE_0 (chkB_0 hx hd hc) h]
    have g2' : worstT (tB X) (firstT (tB X) X.banks.length X.rain.length).1 X.rain.length = (firstT (tB X) X.banks.length X.rain.length).2 := g2
    have g1' : (firstT (tB X) X.banks.length X.rain.length).1 < X.banks.length := g1
    rw [hs]
    refine ⟨rfl, ⟨by dsimp only; omega, by dsimp only; omega⟩, ?_⟩
    dsimp only
    rw [Int.toNat_natCast, mnT_worst]
    omega
  · right
    have hs : firstB X (X.rain.length : Int) = (0, 4) := by unfold firstB; rw [Int.toNat_natCast, ansE_4 (chkB_0 hx hd hc) h]
    rw [hs]
    refine ⟨rfl, fun i hi => ?_⟩
    have g := (safe_iff (T := tB X) (nb := X.banks.length) (d := X.rain.length) (by omega)).1 (by omega) i hi
    by_cases e : mnT X i (X.rain.length + 1) < 0
    · obtain ⟨d, h1, h2⟩ := (mnT_iff _).1 e
      have := g d (by omega)
      omega
    · omega
theorem until_law {X : Bog} (hx : GoodB X) (hc : canB X (allS X) 0 false = true) : ((untilB X).2 = 0 ∧ (untilB X).1 = lastB X) ∨ (untilB X).2 = 4 := by
  rcases until_cases hx hc with h | h
  · exact .inl ⟨h.1, h.2.1⟩
  · exact .inr h.1
theorem cut_law {B : Bog} {p : Nat} {t1 t2 : Int} (hg : GoodB B) (hy : GoodB (yB B p t1 t2)) (hp : p < B.banks.length) (h1 : 0 ≤ t1) (h12 : t1 ≤ t2) (hc : canB (yB B p t1 t2) (allS (yB B p t1 t2)) 0 false = true) :
    ((spareB (oB B) p).2 = 4 ∧ mnT (yB B p t1 t2) p (B.rain.length + 1) < 0) ∨ ((spareB (oB B) p).2 = 0 ∧ (mnT (yB B p t1 t2) p (B.rain.length + 1) < 0 ↔ t2 > (spareB (oB B) p).1)) := by
  have hco := can_o hg hy hp h1 h12 hc
  have hw := worst_y hg hy hp h1 h12 hc
  have hv : isK (oB B) p = true := decide_eq_true (by show 0 ≤ (p : Int) ∧ (p : Int) ≤ (B.banks.length : Int) - 1; omega)
  have hm := mnT_worst (X := yB B p t1 t2) (p := p) (n := B.rain.length)
  by_cases h : 0 ≤ worstT (tB (oB B)) p B.rain.length
  · right
    have hs : spareB (oB B) p = (worstT (tB (oB B)) p B.rain.length, 0) := by
      unfold spareB
      rw [Int.toNat_natCast, ansE_0 (chkB_0 (good_o hg) hv hco) h]
    rw [hs]
    refine ⟨rfl, ?_⟩
    rw [hm, hw]
    dsimp only
    omega
  · left
    have hs : spareB (oB B) p = (0, 4) := by
      unfold spareB
      rw [Int.toNat_natCast, ansE_4 (chkB_0 (good_o hg) hv hco) h]
    rw [hs]
    refine ⟨rfl, ?_⟩
    rw [hm, hw]
    omega
theorem bit_decD {q : Nat → Bool} {n k : Nat} (hk : k < n) : decide (((mvTo q n >>> k &&& 1 : Nat) : Int) = 1) = q k := by
  rw [bit_of hk]; cases q k <;> rfl
theorem bit_decZ {q : Nat → Bool} {n k : Nat} (hk : k < n) : decide (((mvTo q n >>> k &&& 1 : Nat) : Int) = 0) = !q k := by
  rw [bit_of hk]; cases q k <;> rfl
theorem some_1 {X : Bog} {d n k : Nat} (hk : k < n) : decide (((mvTo (someB X d) n >>> k &&& 1 : Nat) : Int) = 1) = decide ((marginT (tB X) k d).lo < 0) := bit_decD hk
theorem sure_1 {X : Bog} {d n k : Nat} (hk : k < n) : decide (((mvTo (sureB X d) n >>> k &&& 1 : Nat) : Int) = 1) = decide ((marginT (tB X) k d).hi < 0) := bit_decD hk
theorem some_0 {X : Bog} {d n k : Nat} (hk : k < n) : decide (((mvTo (someB X d) n >>> k &&& 1 : Nat) : Int) = 0) = decide (0 ≤ (marginT (tB X) k d).lo) := by
  rw [bit_decZ hk]
  unfold someB
  by_cases h : (marginT (tB X) k d).lo < 0
  · rw [decide_eq_true h, decide_eq_false (by omega)]; rfl
  · rw [decide_eq_false h, decide_eq_true (by omega)]; rfl
theorem bank_set2 {xs : List Bank} {sp : List Value} {i : Nat} {t1 t2 : Int} (hi : i < xs.length) : ((xs.flatMap encB ++ sp).set (i * 4 + 2) (i64 ((xs.getD i default).clo + t1))).set (i * 4 + 3) (i64 ((xs.getD i default).chi + t2)) = (xs.set i (bkC (xs.getD i default) t1 t2)).flatMap encB ++ sp := by
  rw [flat_set (y := ⟨(xs.getD i default).blo, (xs.getD i default).bhi, (xs.getD i default).clo + t1, (xs.getD i default).chi⟩) encB_len xs i 2 hi (by decide) rfl]
  rw [flat_set (y := bkC (xs.getD i default) t1 t2) encB_len _ i 3 (by rw [List.length_set]; exact hi) (by decide) (by rw [set_at hi, if_pos rfl]; rfl)]
  rw [List.set_set]
theorem y_cells (B : Bog) (p : Nat) (t1 t2 : Int) (yo ro : Option Addr) (yc rc : Nat) : [.slice yo B.banks.length yc, i64 B.wlo, i64 B.whi, .slice ro B.rain.length rc, i64 B.drain, .slice none 0 0] = cellsB (yB B p t1 t2) yo ro none yc rc 0 := by
  show _ = [Value.slice yo (B.banks.set p _).length yc, _, _, _, _, _]
  rw [List.length_set]; rfl
theorem y_banks (B : Bog) (p : Nat) (t1 t2 : Int) : (yB B p t1 t2).banks = B.banks.set p (bkC (B.banks.getD p default) t1 t2) := rfl
theorem y_rest (B : Bog) (p : Nat) (t1 t2 : Int) : (yB B p t1 t2).rain = B.rain ∧ (yB B p t1 t2).signs = [] := ⟨rfl, rfl⟩
theorem y_lens (B : Bog) (p : Nat) (t1 t2 : Int) : (yB B p t1 t2).banks.length = B.banks.length ∧ (yB B p t1 t2).rain.length = B.rain.length ∧ (yB B p t1 t2).signs.length = 0 := ⟨List.length_set, rfl, rfl⟩
theorem day_law {B : Bog} {p : Nat} {t1 t2 : Int} {k w : Nat → Int} (hy : GoodB (yB B p t1 t2)) (h : TrW (yB B p t1 t2) (allS (yB B p t1 t2)) k w) {i d : Nat} (hi : i < B.banks.length) (hd : d ≤ B.rain.length) :
    (marginT (tB (yB B p t1 t2)) i d).lo ≤ k i - w d ∧ k i - w d ≤ (marginT (tB (yB B p t1 t2)) i d).hi ∧ ((untilB (yB B p t1 t2)).2 = 0 → (d : Int) ≤ (untilB (yB B p t1 t2)).1 → w d ≤ k i) := by
  have hi' : i < (yB B p t1 t2).banks.length := by rw [yB_len]; exact hi
  have h1 := tr_margin hy h (i := i) (d := d) hi' hd
  refine ⟨h1.1, h1.2, fun g0 g1 => ?_⟩
  rcases until_law hy (tr_can hy h) with ⟨_, e⟩ | e
  · have := step_b hy h (i := i) (d := d) hi' hd (by omega)
    omega
  · omega
theorem wT_p {f : Nat → Foot4.Span → Int} {k0 : Nat} {B : Bog} {d : Nat} (h : 0 < d) : wT f k0 B (d - 1) + (f (k0 + 2 * B.banks.length + 1 + (d - 1) + 1) (spS (B.rain.getD (d - 1) default)) - B.drain) = wT f k0 B d := by
  obtain ⟨e, rfl⟩ : ∃ e, d = e + 1 := ⟨d - 1, by omega⟩
  rfl
end Go.Proofs.YtpndeonmmcaikaaGreat.CutW

namespace Go.Proofs.YtpndeonmmcaikaaGreat.SodW
open Go.G Foot4 Sod2
set_option maxRecDepth 1000000
attribute [local irreducible] G.ParO G.Fin
variable (B : Bank) (po so lo : Option Addr) (pc sc lc : Nat)
set_option maxHeartbeats 4000000 in
theorem in_v (a b c : Int) : FnV Tryz.prog 60 [i64 a, i64 b, i64 c] [] (.bool (decide (b ≤ a ∧ a ≤ c))) := by
 refine FnV.intro Tryz.call60 Tryz.func60 rfl Tryz.ntmps60 rfl ?_; intro W M Rf; refine r_seq (r_region ?_); refine q_as rfl rfl rfl rfl rfl ?_; refine o_nil (r_then (r_seq (r_region ?_))); refine q_mv rfl rfl rfl rfl rfl ?_; refine q_mv rfl rfl rfl rfl rfl ?_; refine o_test rfl rfl rfl (v_leq rfl rfl rfl) (fun h9 => ?_) (fun h9 => ?_)
 all_goals
  refine q_mv rfl rfl rfl rfl rfl ?_
  first | refine o_gn rfl rfl rfl rfl ?_ | refine o_g _ rfl rfl rfl rfl (v_move rfl rfl) ?_
  first | refine o_gn rfl rfl rfl rfl ?_ | refine o_g _ rfl rfl rfl rfl (v_move rfl rfl) ?_
  first | refine o_gn rfl rfl rfl rfl ?_ | refine o_gtest rfl rfl rfl rfl (v_leq rfl rfl rfl) (fun h13 => ?_) (fun h13 => ?_)
  all_goals
   first | refine o_q _ rfl rfl rfl (v_pick_t rfl rfl rfl) ?_ | refine o_q _ rfl rfl rfl (v_pick_f rfl rfl rfl) ?_
   refine q_as rfl rfl rfl rfl rfl ?_; refine o_nil (r_then ?_); refine r_ret ?_
   first | exact r_retv2 (Rd.tmp rfl rfl) (congrArg Value.bool (decide_eq_true (by omega)).symm) SelMC.sel SubRC.sub | exact r_retv2 (Rd.tmp rfl rfl) (congrArg Value.bool (decide_eq_false (by omega)).symm) SelMC.sel SubRC.sub
set_option maxHeartbeats 4000000 in
theorem span_v (lo hi a b : Int) : FnV Tryz.prog 61 [.agg #[i64 lo, i64 hi], i64 a, i64 b] [] (.bool (decide (a ≤ lo ∧ lo ≤ hi ∧ hi ≤ b))) := by
 refine FnV.intro Tryz.call61 Tryz.func61 rfl Tryz.ntmps61 rfl ?_; intro W M Rf; refine r_seq (r_region ?_); refine o_boxA rfl rfl rfl rfl rfl (fun b3 => ?_); refine q_as rfl rfl rfl rfl rfl ?_; refine o_nil (r_then (r_seq (r_region ?_))); refine q_mv rfl rfl rfl rfl rfl ?_; refine o_q _ rfl rfl rfl (v_fieldAddr rfl Tryz.underlying43 inf3 rfl rfl rfl rfl) ?_; refine o_q _ rfl rfl rfl (v_ld1 rfl Tryz.underlying3 rfl rfl rfl) ?_; refine o_test rfl rfl rfl (v_leq rfl rfl rfl) (fun h10 => ?_) (fun h10 => ?_)
 all_goals
  refine q_mv rfl rfl rfl rfl rfl ?_
  first | refine o_gn rfl rfl rfl rfl ?_ | refine o_g _ rfl rfl rfl rfl (v_fieldAddr rfl Tryz.underlying43 inf3 rfl rfl rfl rfl) ?_
  first | refine o_gn rfl rfl rfl rfl ?_ | refine o_g _ rfl rfl rfl rfl (v_ld1 rfl Tryz.underlying3 rfl rfl rfl) ?_
  first | refine o_gn rfl rfl rfl rfl ?_ | refine o_g _ rfl rfl rfl rfl (v_fieldAddr rfl Tryz.underlying43 inf3 rfl rfl rfl rfl) ?_
  first | refine o_gn rfl rfl rfl rfl ?_ | refine o_g _ rfl rfl rfl rfl (v_ld1 rfl Tryz.underlying3 rfl rfl rfl) ?_
  first | refine o_gn rfl rfl rfl rfl ?_ | refine o_gtest rfl rfl rfl rfl (v_leq rfl rfl rfl) (fun h16 => ?_) (fun h16 => ?_)
  all_goals
   first | refine o_q _ rfl rfl rfl (v_pick_t rfl rfl rfl) ?_ | refine o_q _ rfl rfl rfl (v_pick_f rfl rfl rfl) ?_
   refine q_mv rfl rfl rfl rfl rfl ?_
   first | refine o_gn rfl rfl rfl rfl ?_ | refine o_g _ rfl rfl rfl rfl (v_fieldAddr rfl Tryz.underlying43 inf3 rfl rfl rfl rfl) ?_
   first | refine o_gn rfl rfl rfl rfl ?_ | refine o_g _ rfl rfl rfl rfl (v_ld1 rfl Tryz.underlying3 rfl rfl rfl) ?_
   first | refine o_gn rfl rfl rfl rfl ?_ | refine o_g _ rfl rfl rfl rfl (v_move rfl rfl) ?_
   first | refine o_gn rfl rfl rfl rfl ?_ | refine o_gtest rfl rfl rfl rfl (v_leq rfl rfl rfl) (fun h22 => ?_) (fun h22 => ?_)
   all_goals
    first | refine o_q _ rfl rfl rfl (v_pick_t rfl rfl rfl) ?_ | refine o_q _ rfl rfl rfl (v_pick_f rfl rfl rfl) ?_
    refine q_as rfl rfl rfl rfl rfl ?_; refine o_nil (r_then ?_); refine r_ret ?_
    first | exact r_retv2 (Rd.tmp rfl rfl) (congrArg Value.bool (decide_eq_true (by omega)).symm) SelMC.sel SubRC.sub | exact r_retv2 (Rd.tmp rfl rfl) (congrArg Value.bool (decide_eq_false (by omega)).symm) SelMC.sel SubRC.sub
set_option maxHeartbeats 4000000 in
theorem Day_v (x : Int) (hl1 : B.spits.length ≤ 40) (hl2 : B.days.length ≤ 40) (hl3 : B.logs.length ≤ 40) : FnV Tryz.prog 62 [valS B po pc so sc lo lc, i64 x] [rowD po 3 encSp B.spits, rowD so 2 encS B.days, rowD lo 3 encLg B.logs] (.bool (decide (0 ≤ x ∧ x ≤ (B.days.length : Int) - 1))) := by
 refine FnV.intro Tryz.call62 Tryz.func62 rfl Tryz.ntmps62 rfl ?_; intro W M Rf; refine r_seq (r_region ?_); refine o_boxA rfl rfl rfl rfl rfl (fun b2 => ?_); refine q_as rfl rfl rfl rfl rfl ?_; refine o_nil (r_then (r_seq (r_region ?_))); refine q_mv rfl rfl rfl rfl rfl ?_; refine o_q _ rfl rfl rfl (v_fieldAddr rfl Tryz.underlying62 inf59 rfl rfl rfl rfl) ?_; refine o_q _ rfl rfl rfl (v_ld1 rfl Tryz.underlying59 rfl rfl rfl) ?_; refine o_q _ rfl rfl rfl (v_len rfl rfl Tryz.underlying59 rfl) ?_; refine o_q _ rfl rfl rfl (v_sub rfl rfl rfl (by omega)) ?_; refine o_q _ rfl rfl rfl (OpQ.fn (in_v _ _ _) rfl rfl SubRC.sub) ?_; refine q_as rfl rfl rfl rfl rfl ?_; refine o_nil (r_then ?_); refine r_ret ?_; exact r_retv2 (Rd.tmp rfl rfl) rfl SelMC.sel SubRC.sub
set_option maxHeartbeats 4000000 in
theorem Count_v (a b : Int) : FnV Tryz.prog 63 [.agg #[i64 a, i64 b]] [] (.bool (decide (0 ≤ a ∧ a ≤ b ∧ b ≤ 200))) := by
 refine FnV.intro Tryz.call63 Tryz.func63 rfl Tryz.ntmps63 rfl ?_; intro W M Rf; refine r_seq (r_region ?_); refine o_boxA rfl rfl rfl rfl rfl (fun b1 => ?_); refine q_as rfl rfl rfl rfl rfl ?_; refine o_nil (r_then (r_seq (r_region ?_))); refine o_q _ rfl rfl rfl (v_ldW rfl Tryz.underlying43 rfl inf43 rfl rfl) ?_; refine o_q _ rfl rfl rfl (OpQ.fn (span_v _ _ _ _) rfl rfl SubRC.sub) ?_; refine q_as rfl rfl rfl rfl rfl ?_; refine o_nil (r_then ?_); refine r_ret ?_; exact r_retv2 (Rd.tmp rfl rfl) rfl SelMC.sel SubRC.sub
theorem all_step {p : Nat → Prop} {k : Nat} (h : ∀ j, j < k → p j) (hk : p k) : ∀ j, j < k + 1 → p j := fun j hj => by
  by_cases e : j = k
  · subst e; exact hk
  · exact h j (by omega)
set_option maxHeartbeats 4000000 in
theorem Sod_v (hl1 : B.spits.length ≤ 40) (hl2 : B.days.length ≤ 40) (hl3 : B.logs.length ≤ 40) : FnV Tryz.prog 16 [valS B po pc so sc lo lc] [rowD po 3 encSp B.spits, rowD so 2 encS B.days, rowD lo 3 encLg B.logs] (.bool (decide (GoodS B))) := by
 refine FnV.intro Tryz.call16 Tryz.func16 rfl Tryz.ntmps16 rfl ?_; intro W M Rf; refine r_seq (r_region ?_); refine o_boxA rfl rfl rfl rfl rfl (fun b1 => ?_); refine q_as rfl rfl rfl rfl rfl ?_; refine o_nil (r_then (r_seq ?_)); refine r_seq (r_region ?_); refine o_q _ rfl rfl rfl (v_fieldAddr rfl Tryz.underlying62 inf58 rfl rfl rfl rfl) ?_; refine o_q _ rfl rfl rfl (v_ld1 rfl Tryz.underlying58 rfl rfl rfl) ?_; refine o_q _ rfl rfl rfl (v_len rfl rfl Tryz.underlying58 rfl) ?_; refine o_test rfl rfl rfl (OpQ.fn (in_v _ _ _) rfl rfl SubRC.sub) (fun h10 => ?_) (fun h10 => ?_)
 all_goals
  refine o_q _ rfl rfl rfl (v_not rfl rfl) ?_; refine q_mv rfl rfl rfl rfl rfl ?_
  first | refine o_gn rfl rfl rfl rfl ?_ | refine o_g _ rfl rfl rfl rfl (v_fieldAddr rfl Tryz.underlying62 inf59 rfl rfl rfl rfl) ?_
  first | refine o_gn rfl rfl rfl rfl ?_ | refine o_g _ rfl rfl rfl rfl (v_ld1 rfl Tryz.underlying59 rfl rfl rfl) ?_
  first | refine o_gn rfl rfl rfl rfl ?_ | refine o_g _ rfl rfl rfl rfl (v_len rfl rfl Tryz.underlying59 rfl) ?_
  first | refine o_gn rfl rfl rfl rfl ?_ | refine o_gtest rfl rfl rfl rfl (OpQ.fn (in_v _ _ _) rfl rfl SubRC.sub) (fun h16 => ?_) (fun h16 => ?_)
  all_goals
   first | refine o_gn rfl rfl rfl rfl ?_ | refine o_g _ rfl rfl rfl rfl (v_not rfl rfl) ?_
   first | refine o_q _ rfl rfl rfl (v_pick_t rfl rfl rfl) ?_ | refine o_q _ rfl rfl rfl (v_pick_f rfl rfl rfl) ?_
   refine q_mv rfl rfl rfl rfl rfl ?_
   first | refine o_gn rfl rfl rfl rfl ?_ | refine o_g _ rfl rfl rfl rfl (v_fieldAddr rfl Tryz.underlying62 inf60 rfl rfl rfl rfl) ?_
   first | refine o_gn rfl rfl rfl rfl ?_ | refine o_g _ rfl rfl rfl rfl (v_ld1 rfl Tryz.underlying60 rfl rfl rfl) ?_
   first | refine o_gn rfl rfl rfl rfl ?_ | refine o_g _ rfl rfl rfl rfl (v_len rfl rfl Tryz.underlying60 rfl) ?_
   first | refine o_gn rfl rfl rfl rfl ?_ | refine o_gtest rfl rfl rfl rfl (v_gtr rfl rfl rfl) (fun h23 => ?_) (fun h23 => ?_)
   all_goals
    first | refine o_q _ rfl rfl rfl (v_pick_t rfl rfl rfl) ?_ | refine o_q _ rfl rfl rfl (v_pick_f rfl rfl rfl) ?_
    refine o_nil (r_then ?_); refine r_cond rfl (fun hc24 => ?_) (fun hc24 => ?_)
    ·
     first
     | (exfalso; revert hc24; decide)
     |
      skip
      refine r_seq (r_region ?_); refine q_as rfl rfl rfl rfl rfl ?_; refine o_nil (r_then ?_); refine r_ret ?_; (with_reducible refine r_then_ret ?_); exact r_retv2 (Rd.tmp rfl rfl) (congrArg Value.bool (decide_eq_false (by intro g; obtain ⟨g1, g2, g3, g4, g5, g6⟩ := g; first | omega | (have g9 := g4 k1 (by omega); omega) | (have g9 := g5 k2 (by omega); omega) | (have g9 := g6 k3 (by omega); omega))).symm) SelMC.sel SubRC.sub
    ·
     first
     | (exfalso; revert hc24; decide)
     |
      skip
      refine r_skip (r_then ?_); refine r_seq ?_; refine r_seq (r_region ?_); refine q_as rfl rfl rfl rfl rfl ?_; refine o_nil (r_then ?_); refine r_block ?_; refine r_loop (ι := Nat) (fun k1 => k1 ≤ B.spits.length ∧ ∀ j, j < k1 → (1 ≤ (B.spits.getD j default).sods ∧ (B.spits.getD j default).sods ≤ 30) ∧ (1 ≤ (B.spits.getD j default).lo ∧ (B.spits.getD j default).lo ≤ (B.spits.getD j default).hi ∧ (B.spits.getD j default).hi ≤ 6) ∧ (B.spits.getD j default).hi - (B.spits.getD j default).lo ≤ 2) (fun k1 => [(1, pt b1 0), (3, i64 k1)]) (fun k1 => bx b1 62 (cellsS B po pc so sc lo lc) :: M) (fun k1 => [rowD po 3 encSp B.spits, rowD so 2 encS B.days, rowD lo 3 encLg B.logs] ++ Rf) (fun k1 => B.spits.length - k1) 0 ?_ ?_ ?_
      ·
       exact r_here (by repeat (first | exact FSub.nil | refine FSub.cons rfl ?_)) SelMC.sel SubRC.sub
      ·
       exact ⟨by omega, fun j hj => absurd hj (by omega)⟩
      ·
       rintro k1 hI0; refine r_seq ?_; refine r_seq (r_region ?_); refine q_mv rfl rfl rfl rfl rfl ?_; refine o_q _ rfl rfl rfl (v_fieldAddr rfl Tryz.underlying62 inf58 rfl rfl rfl rfl) ?_; refine o_q _ rfl rfl rfl (v_ld1 rfl Tryz.underlying58 rfl rfl rfl) ?_; refine o_q _ rfl rfl rfl (v_len rfl rfl Tryz.underlying58 rfl) ?_; refine o_q _ rfl rfl rfl (v_lss rfl rfl rfl) ?_; refine o_nil (r_then ?_); refine r_condd rfl (fun hc29 => ?_) (fun hc29 => ?_)
       ·
        refine r_skip (r_then ?_); refine r_seq (r_block ?_); refine r_seq (r_region ?_); refine o_q _ rfl rfl rfl (v_fieldAddr rfl Tryz.underlying62 inf58 rfl rfl rfl rfl) ?_; refine o_q _ rfl rfl rfl (v_ld1 rfl Tryz.underlying58 rfl rfl rfl) ?_; refine q_mv rfl rfl rfl rfl rfl ?_; refine o_q _ rfl rfl rfl (v_indexAddrSn rfl Tryz.underlying58 inf135 rfl rfl rfl (by omega) rfl) ?_; refine o_q _ rfl rfl rfl (v_loadEN rfl Tryz.underlying135 rfl inf135 rfl (by omega) rfl rfl rfl) ?_; refine o_alloc rfl inf135 rfl rfl rfl rfl rfl (fun b4 => ?_); refine o_st rfl inf135 rfl rfl rfl rfl rfl rfl rfl rfl ?_; refine o_nil (r_then (r_seq ?_)); refine Imp.box_to b4 [i64 (B.spits.getD k1 default).sods, i64 (B.spits.getD k1 default).lo, i64 (B.spits.getD k1 default).hi] rfl ?_; refine r_region ?_; refine o_q _ rfl rfl rfl (v_fieldAddr rfl Tryz.underlying135 inf3 rfl rfl rfl rfl) ?_; refine o_q _ rfl rfl rfl (v_ld1 rfl Tryz.underlying3 rfl rfl rfl) ?_; refine o_test rfl rfl rfl (OpQ.fn (in_v _ _ _) rfl rfl SubRC.sub) (fun h39 => ?_) (fun h39 => ?_)
        all_goals
         refine o_q _ rfl rfl rfl (v_not rfl rfl) ?_; refine q_mv rfl rfl rfl rfl rfl ?_
         first | refine o_gn rfl rfl rfl rfl ?_ | refine o_g _ rfl rfl rfl rfl (v_fieldAddr rfl Tryz.underlying135 inf43 rfl rfl rfl rfl) ?_
         first | refine o_gn rfl rfl rfl rfl ?_ | refine o_g _ rfl rfl rfl rfl (v_ldN rfl Tryz.underlying43 rfl inf43 rfl rfl rfl) ?_
         first | refine o_gn rfl rfl rfl rfl ?_ | refine o_gtest rfl rfl rfl rfl (OpQ.fn (span_v _ _ _ _) rfl rfl SubRC.sub) (fun h44 => ?_) (fun h44 => ?_)
         all_goals
          first | refine o_gn rfl rfl rfl rfl ?_ | refine o_g _ rfl rfl rfl rfl (v_not rfl rfl) ?_
          first | refine o_q _ rfl rfl rfl (v_pick_t rfl rfl rfl) ?_ | refine o_q _ rfl rfl rfl (v_pick_f rfl rfl rfl) ?_
          refine q_mv rfl rfl rfl rfl rfl ?_
          first | refine o_gn rfl rfl rfl rfl ?_ | refine o_g _ rfl rfl rfl rfl (v_fieldAddr rfl Tryz.underlying135 inf43 rfl rfl rfl rfl) ?_
          first | refine o_gn rfl rfl rfl rfl ?_ | refine o_g _ rfl rfl rfl rfl (v_fieldAddr rfl Tryz.underlying43 inf3 rfl rfl rfl rfl) ?_
          first | refine o_gn rfl rfl rfl rfl ?_ | refine o_g _ rfl rfl rfl rfl (v_ld1 rfl Tryz.underlying3 rfl rfl rfl) ?_
          first | refine o_gn rfl rfl rfl rfl ?_ | refine o_g _ rfl rfl rfl rfl (v_fieldAddr rfl Tryz.underlying135 inf43 rfl rfl rfl rfl) ?_
          first | refine o_gn rfl rfl rfl rfl ?_ | refine o_g _ rfl rfl rfl rfl (v_fieldAddr rfl Tryz.underlying43 inf3 rfl rfl rfl rfl) ?_
          first | refine o_gn rfl rfl rfl rfl ?_ | refine o_g _ rfl rfl rfl rfl (v_ld1 rfl Tryz.underlying3 rfl rfl rfl) ?_
          first | refine o_gn rfl rfl rfl rfl ?_ | refine o_g _ rfl rfl rfl rfl (v_sub rfl rfl rfl (by omega)) ?_
          first | refine o_gn rfl rfl rfl rfl ?_ | refine o_gtest rfl rfl rfl rfl (v_gtr rfl rfl rfl) (fun h55 => ?_) (fun h55 => ?_)
          all_goals
           first | refine o_q _ rfl rfl rfl (v_pick_t rfl rfl rfl) ?_ | refine o_q _ rfl rfl rfl (v_pick_f rfl rfl rfl) ?_
           refine o_nil (r_then ?_); refine r_cond rfl (fun hc56 => ?_) (fun hc56 => ?_)
           ·
            first
            | (exfalso; revert hc56; decide)
            |
             skip
             refine r_seq (r_region ?_); refine q_as rfl rfl rfl rfl rfl ?_; refine o_nil (r_then ?_); refine r_ret ?_; (with_reducible refine r_in_ret ?_; refine r_then_ret ?_; refine r_then_ret ?_; refine r_in_ret ?_; refine r_then_ret ?_); exact r_retv2 (Rd.tmp rfl rfl) (congrArg Value.bool (decide_eq_false (by intro g; obtain ⟨g1, g2, g3, g4, g5, g6⟩ := g; first | omega | (have g9 := g4 k1 (by omega); omega) | (have g9 := g5 k2 (by omega); omega) | (have g9 := g6 k3 (by omega); omega))).symm) SelMC.sel SubRC.sub
           ·
            first
            | (exfalso; revert hc56; decide)
            |
             skip
             refine r_skip ?_; refine r_in_normal ?_; refine r_then ?_; refine r_region ?_; refine q_mv rfl rfl rfl rfl rfl ?_; refine o_q _ rfl rfl rfl (v_add rfl rfl rfl (by omega)) ?_; refine q_as rfl rfl rfl rfl rfl ?_; refine o_nil (r_then ?_); refine r_next (k1 + 1) ?_ ?_ ?_
             ·
              exact r_here (by repeat (first | exact FSub.nil | refine FSub.cons rfl ?_)) SelMC.sel SubRC.sub
             ·
              exact ⟨by omega, all_step hI0.2 ⟨by omega, by omega, by omega⟩⟩
             ·
              omega
       ·
        refine r_exit ?_; refine r_then_exit ?_; refine r_then_exit ?_; refine r_in_here ?_; refine r_then (r_seq ?_); refine r_seq (r_region ?_); refine q_as rfl rfl rfl rfl rfl ?_; refine o_nil (r_then ?_); refine r_block ?_; refine r_loop (ι := Nat) (fun k2 => k2 ≤ B.days.length ∧ ∀ j, j < k2 → 0 ≤ (B.days.getD j default).lo ∧ (B.days.getD j default).lo ≤ (B.days.getD j default).hi ∧ (B.days.getD j default).hi ≤ 100) (fun k2 => [(1, pt b1 0), (5, i64 k2)]) (fun k2 => bx b1 62 (cellsS B po pc so sc lo lc) :: M) (fun k2 => [rowD po 3 encSp B.spits, rowD so 2 encS B.days, rowD lo 3 encLg B.logs] ++ Rf) (fun k2 => B.days.length - k2) 0 ?_ ?_ ?_
        ·
         exact r_here (by repeat (first | exact FSub.nil | refine FSub.cons rfl ?_)) SelMC.sel SubRC.sub
        ·
         exact ⟨by omega, fun j hj => absurd hj (by omega)⟩
        ·
         rintro k2 hI1; refine r_seq ?_; refine r_seq (r_region ?_); refine q_mv rfl rfl rfl rfl rfl ?_; refine o_q _ rfl rfl rfl (v_fieldAddr rfl Tryz.underlying62 inf59 rfl rfl rfl rfl) ?_; refine o_q _ rfl rfl rfl (v_ld1 rfl Tryz.underlying59 rfl rfl rfl) ?_; refine o_q _ rfl rfl rfl (v_len rfl rfl Tryz.underlying59 rfl) ?_; refine o_q _ rfl rfl rfl (v_lss rfl rfl rfl) ?_; refine o_nil (r_then ?_); refine r_condd rfl (fun hc61 => ?_) (fun hc61 => ?_)
         ·
          refine r_skip (r_then ?_); refine r_seq (r_block ?_); refine r_seq (r_region ?_); refine o_q _ rfl rfl rfl (v_fieldAddr rfl Tryz.underlying62 inf59 rfl rfl rfl rfl) ?_; refine o_q _ rfl rfl rfl (v_ld1 rfl Tryz.underlying59 rfl rfl rfl) ?_; refine q_mv rfl rfl rfl rfl rfl ?_; refine o_q _ rfl rfl rfl (v_indexAddrSn rfl Tryz.underlying59 inf43 rfl rfl rfl (by omega) rfl) ?_; refine o_q _ rfl rfl rfl (v_loadEN rfl Tryz.underlying43 rfl inf43 rfl (by omega) rfl rfl rfl) ?_; refine o_test rfl rfl rfl (OpQ.fn (span_v _ _ _ _) rfl rfl SubRC.sub) (fun h69 => ?_) (fun h69 => ?_)
          all_goals
           refine o_q _ rfl rfl rfl (v_not rfl rfl) ?_; refine o_nil (r_then ?_); refine r_cond rfl (fun hc70 => ?_) (fun hc70 => ?_)
           ·
            first
            | (exfalso; revert hc70; decide)
            |
             skip
             refine r_seq (r_region ?_); refine q_as rfl rfl rfl rfl rfl ?_; refine o_nil (r_then ?_); refine r_ret ?_; (with_reducible refine r_in_ret ?_; refine r_then_ret ?_; refine r_then_ret ?_; refine r_in_ret ?_; refine r_then_ret ?_); exact r_retv2 (Rd.tmp rfl rfl) (congrArg Value.bool (decide_eq_false (by intro g; obtain ⟨g1, g2, g3, g4, g5, g6⟩ := g; first | omega | (have g9 := g4 k1 (by omega); omega) | (have g9 := g5 k2 (by omega); omega) | (have g9 := g6 k3 (by omega); omega))).symm) SelMC.sel SubRC.sub
           ·
            first
            | (exfalso; revert hc70; decide)
            |
             skip
             refine r_skip ?_; refine r_in_normal ?_; refine r_then ?_; refine r_region ?_; refine q_mv rfl rfl rfl rfl rfl ?_; refine o_q _ rfl rfl rfl (v_add rfl rfl rfl (by omega)) ?_; refine q_as rfl rfl rfl rfl rfl ?_; refine o_nil (r_then ?_); refine r_next (k2 + 1) ?_ ?_ ?_
             ·
              exact r_here (by repeat (first | exact FSub.nil | refine FSub.cons rfl ?_)) SelMC.sel SubRC.sub
             ·
              exact ⟨by omega, all_step hI1.2 (by omega)⟩
             ·
              omega
         ·
          refine r_exit ?_; refine r_then_exit ?_; refine r_then_exit ?_; refine r_in_here ?_; refine r_then (r_seq ?_); refine r_seq (r_region ?_); refine q_as rfl rfl rfl rfl rfl ?_; refine o_nil (r_then ?_); refine r_block ?_; refine r_loop (ι := Nat) (fun k3 => k3 ≤ B.logs.length ∧ ∀ j, j < k3 → (0 ≤ (B.logs.getD j default).day ∧ (B.logs.getD j default).day ≤ (B.days.length : Int) - 1) ∧ (0 ≤ (B.logs.getD j default).lo ∧ (B.logs.getD j default).lo ≤ (B.logs.getD j default).hi ∧ (B.logs.getD j default).hi ≤ 200)) (fun k3 => [(1, pt b1 0), (6, i64 k3)]) (fun k3 => bx b1 62 (cellsS B po pc so sc lo lc) :: M) (fun k3 => [rowD po 3 encSp B.spits, rowD so 2 encS B.days, rowD lo 3 encLg B.logs] ++ Rf) (fun k3 => B.logs.length - k3) 0 ?_ ?_ ?_
          ·
           exact r_here (by repeat (first | exact FSub.nil | refine FSub.cons rfl ?_)) SelMC.sel SubRC.sub
          ·
           exact ⟨by omega, fun j hj => absurd hj (by omega)⟩
          ·
           rintro k3 hI2; refine r_seq ?_; refine r_seq (r_region ?_); refine q_mv rfl rfl rfl rfl rfl ?_; refine o_q _ rfl rfl rfl (v_fieldAddr rfl Tryz.underlying62 inf60 rfl rfl rfl rfl) ?_; refine o_q _ rfl rfl rfl (v_ld1 rfl Tryz.underlying60 rfl rfl rfl) ?_; refine o_q _ rfl rfl rfl (v_len rfl rfl Tryz.underlying60 rfl) ?_; refine o_q _ rfl rfl rfl (v_lss rfl rfl rfl) ?_; refine o_nil (r_then ?_); refine r_condd rfl (fun hc75 => ?_) (fun hc75 => ?_)
           ·
            refine r_skip (r_then ?_); refine r_seq (r_block ?_); refine r_seq ?_; refine r_region_q mixed (by kernel_rfl) ?_; refine q_q _ rfl rfl rfl (v_ldW rfl Tryz.underlying62 rfl inf62 rfl rfl) ?_; refine q_q _ rfl rfl rfl (v_fieldAddr rfl Tryz.underlying62 inf60 rfl rfl rfl rfl) ?_; refine q_q _ rfl rfl rfl (v_ld1 rfl Tryz.underlying60 rfl rfl rfl) ?_; refine q_q _ rfl rfl rfl (v_move rfl rfl) ?_; refine q_q _ rfl rfl rfl (v_indexAddrSn rfl Tryz.underlying60 inf138 rfl rfl rfl (by omega) rfl) ?_; refine q_q _ rfl rfl rfl (v_fieldAddr rfl Tryz.underlying138 inf3 rfl rfl rfl rfl) ?_; refine q_q _ rfl rfl rfl (v_loadE1 rfl Tryz.underlying3 rfl rfl (by omega) rfl rfl) ?_; refine q_test rfl rfl rfl (OpQ.fn (Day_v B po so lo pc sc lc _ hl1 hl2 hl3) rfl rfl SubRC.sub) (fun h85 => ?_) (fun h85 => ?_)
            all_goals
             refine q_q _ rfl rfl rfl (v_not rfl rfl) ?_; refine q_q _ rfl rfl rfl (v_move rfl rfl) ?_
             first | refine q_gn rfl rfl rfl rfl ?_ | refine q_g _ rfl rfl rfl rfl (v_fieldAddr rfl Tryz.underlying62 inf60 rfl rfl rfl rfl) ?_
             first | refine q_gn rfl rfl rfl rfl ?_ | refine q_g _ rfl rfl rfl rfl (v_ld1 rfl Tryz.underlying60 rfl rfl rfl) ?_
             first | refine q_gn rfl rfl rfl rfl ?_ | refine q_g _ rfl rfl rfl rfl (v_move rfl rfl) ?_
             first | refine q_gn rfl rfl rfl rfl ?_ | refine q_g _ rfl rfl rfl rfl (v_indexAddrSn rfl Tryz.underlying60 inf138 rfl rfl rfl (by omega) rfl) ?_
             first | refine q_gn rfl rfl rfl rfl ?_ | refine q_g _ rfl rfl rfl rfl (v_fieldAddr rfl Tryz.underlying138 inf43 rfl rfl rfl rfl) ?_
             first | refine q_gn rfl rfl rfl rfl ?_ | refine q_g _ rfl rfl rfl rfl (v_loadEN rfl Tryz.underlying43 rfl inf43 rfl (by omega) rfl rfl rfl) ?_
             first | refine q_gn rfl rfl rfl rfl ?_ | refine q_gtest rfl rfl rfl rfl (OpQ.fn (Count_v _ _) rfl rfl SubRC.sub) (fun h94 => ?_) (fun h94 => ?_)
             all_goals
              first | refine q_gn rfl rfl rfl rfl ?_ | refine q_g _ rfl rfl rfl rfl (v_not rfl rfl) ?_
              first | refine q_q _ rfl rfl rfl (v_pick_t rfl rfl rfl) ?_ | refine q_q _ rfl rfl rfl (v_pick_f rfl rfl rfl) ?_
              refine q_nil ?_; refine r_then ?_; refine r_cond rfl (fun hc96 => ?_) (fun hc96 => ?_)
              ·
               first
               | (exfalso; revert hc96; decide)
               |
                skip
                refine r_seq (r_region ?_); refine q_as rfl rfl rfl rfl rfl ?_; refine o_nil (r_then ?_); refine r_ret ?_; (with_reducible refine r_in_ret ?_; refine r_then_ret ?_; refine r_then_ret ?_; refine r_in_ret ?_; refine r_then_ret ?_); exact r_retv2 (Rd.tmp rfl rfl) (congrArg Value.bool (decide_eq_false (by intro g; obtain ⟨g1, g2, g3, g4, g5, g6⟩ := g; first | omega | (have g9 := g4 k1 (by omega); omega) | (have g9 := g5 k2 (by omega); omega) | (have g9 := g6 k3 (by omega); omega))).symm) SelMC.sel SubRC.sub
              ·
               first
               | (exfalso; revert hc96; decide)
               |
                skip
                refine r_skip ?_; refine r_in_normal ?_; refine r_then ?_; refine r_region ?_; refine q_mv rfl rfl rfl rfl rfl ?_; refine o_q _ rfl rfl rfl (v_add rfl rfl rfl (by omega)) ?_; refine q_as rfl rfl rfl rfl rfl ?_; refine o_nil (r_then ?_); refine r_next (k3 + 1) ?_ ?_ ?_
                ·
                 exact r_here (by repeat (first | exact FSub.nil | refine FSub.cons rfl ?_)) SelMC.sel SubRC.sub
                ·
                 exact ⟨by omega, all_step hI2.2 ⟨by omega, by omega⟩⟩
                ·
                 omega
           ·
            refine r_exit ?_; refine r_then_exit ?_; refine r_then_exit ?_; refine r_in_here ?_; refine r_then (r_seq (r_region ?_)); refine q_as rfl rfl rfl rfl rfl ?_; refine o_nil (r_then ?_); refine r_ret ?_; exact r_retv2 (Rd.tmp rfl rfl) (congrArg Value.bool (decide_eq_true (by exact ⟨by omega, by omega, by omega, fun j hj => hI0.2 j (by omega), fun j hj => hI1.2 j (by omega), fun j hj => hI2.2 j (by omega)⟩)).symm) SelMC.sel SubRC.sub
set_option maxHeartbeats 4000000 in
theorem Sods_v (cs : List Int) (ca : Option Addr) (cc : Nat) (n : Int) (hg : GoodS B) (hcl : cs.length = B.spits.length) (hcb : ∀ k, k < cs.length → 1 ≤ cs.getD k default ∧ cs.getD k default ≤ 6) (hn : 0 ≤ n ∧ n ≤ 1000000) : FnV Tryz.prog 69 [valS B po pc so sc lo lc, .slice ca cs.length cc, i64 n] [rowD po 3 encSp B.spits, rowD so 2 encS B.days, rowD lo 3 encLg B.logs, rowD ca 1 encI cs] (i64 (sodsOf B (ofL cs) n)) := by
 refine FnV.intro Tryz.call69 Tryz.func69 rfl Tryz.ntmps69 rfl ?_; intro W M Rf; refine r_seq (r_region ?_); refine o_boxA rfl rfl rfl rfl rfl (fun b3 => ?_); refine q_as rfl rfl rfl rfl rfl ?_; refine o_nil (r_then (r_seq (r_region ?_))); refine q_as rfl rfl rfl rfl rfl ?_; refine o_nil (r_then (r_seq ?_)); refine r_seq (r_region ?_); refine q_as rfl rfl rfl rfl rfl ?_; refine o_nil (r_then ?_); refine r_block ?_; refine r_loop (ι := Nat × Int × Int) (fun gh => gh.1 ≤ B.spits.length ∧ 0 ≤ gh.2.1 ∧ gh.2.1 ≤ 30 * gh.1 ∧ 0 ≤ gh.2.2 ∧ gh.2.2 ≤ n ∧ sodsOf B (ofL cs) n = gh.2.1 + cutK B (ofL cs) gh.1 gh.2.2) (fun gh => [(1, .slice ca cs.length cc), (2, i64 gh.2.2), (3, pt b3 0), (7, i64 gh.2.1), (8, i64 gh.1)]) (fun gh => bx b3 62 (cellsS B po pc so sc lo lc) :: M) (fun gh => [rowD po 3 encSp B.spits, rowD so 2 encS B.days, rowD lo 3 encLg B.logs, rowD ca 1 encI cs] ++ Rf) (fun gh => B.spits.length - gh.1) (0, 0, n) ?_ ?_ ?_
 ·
  exact r_here (by repeat (first | exact FSub.nil | refine FSub.cons rfl ?_)) SelMC.sel SubRC.sub
 ·
  exact ⟨Nat.zero_le _, Int.le_refl _, Int.le_refl _, hn.1, Int.le_refl _, by show sodsOf _ _ _ = 0 + cutK _ _ 0 n; rw [cutK_0]; omega⟩
 ·
  rintro ⟨k, x, m⟩ hI0; dsimp only at hI0; dsimp only; refine r_seq ?_; refine r_seq (r_region ?_); refine q_mv rfl rfl rfl rfl rfl ?_; refine q_mv rfl rfl rfl rfl rfl ?_; refine o_q _ rfl rfl rfl (v_len rfl rfl Tryz.underlying39 rfl) ?_; refine o_q _ rfl rfl rfl (v_lss rfl rfl rfl) ?_; refine o_nil (r_then ?_); refine r_condd rfl (fun hc13 => ?_) (fun hc13 => ?_)
  ·
   refine r_skip (r_then ?_); refine r_seq (r_block ?_); refine r_seq ?_; have h3 := hg.1; have hck := hcb k (by omega); have hsp := hg.2.2.2.1 k (by omega); have hq : m.tdiv (cs.getD k default) = m / (cs.getD k default) := Int.tdiv_eq_ediv_of_nonneg (by omega); have hd0 : 0 ≤ m / (cs.getD k default) := Int.ediv_nonneg (by omega) (by omega); have hd1 : m / (cs.getD k default) ≤ m := Int.ediv_le_self _ (by omega); have hqb : -9223372036854775808 ≤ m.tdiv (cs.getD k default) ∧ m.tdiv (cs.getD k default) ≤ 9223372036854775807 := by omega
   have hm1 := min_mul (s := (B.spits.getD k default).sods) (m := m) (x := (cs.getD k default)) (by omega) (by omega) (by omega); have hmb := hm1.bd (by omega); have hm2 := hm1.lo; have hm3 := hm1.hi; refine r_region_q mixed (by kernel_rfl) ?_; refine q_q _ rfl rfl rfl (v_fieldAddr rfl Tryz.underlying62 inf58 rfl rfl rfl rfl) ?_; refine q_q _ rfl rfl rfl (v_ld1 rfl Tryz.underlying58 rfl rfl rfl) ?_; refine q_q _ rfl rfl rfl (v_move rfl rfl) ?_; refine q_q _ rfl rfl rfl (v_indexAddrSn rfl Tryz.underlying58 inf135 rfl rfl rfl (by omega) rfl) ?_; refine q_q _ rfl rfl rfl (v_fieldAddr rfl Tryz.underlying135 inf3 rfl rfl rfl rfl) ?_; refine q_q _ rfl rfl rfl (v_loadE1 rfl Tryz.underlying3 rfl rfl (by omega) rfl rfl) ?_; (iterate 3 refine q_q _ rfl rfl rfl (v_move rfl rfl) ?_); refine q_q _ rfl rfl rfl (v_indexAddrSn rfl Tryz.underlying39 inf3 rfl rfl rfl (by omega) rfl) ?_; refine q_q _ rfl rfl rfl (v_loadE1 rfl Tryz.underlying3 rfl rfl (by omega) rfl rfl) ?_; refine q_q _ rfl rfl rfl (v_cast (v := i64 (m / (cs.getD k default))) (v_quo rfl rfl rfl (by omega) hqb) (congrArg (Value.int .i64) hq)) ?_; refine q_q _ rfl rfl rfl (v_min2 rfl rfl rfl) ?_; refine q_q _ rfl rfl rfl (v_assign rfl rfl) ?_; refine q_nil ?_; refine r_then (r_seq ?_); refine r_region_q mixed (by kernel_rfl) ?_; refine q_q _ rfl rfl rfl (v_move rfl rfl) ?_; refine q_q _ rfl rfl rfl (v_move rfl rfl) ?_; refine q_q _ rfl rfl rfl (v_add rfl rfl rfl (by omega)) ?_; (iterate 4 refine q_q _ rfl rfl rfl (v_move rfl rfl) ?_); refine q_q _ rfl rfl rfl (v_indexAddrSn rfl Tryz.underlying39 inf3 rfl rfl rfl (by omega) rfl) ?_; refine q_q _ rfl rfl rfl (v_loadE1 rfl Tryz.underlying3 rfl rfl (by omega) rfl rfl) ?_; refine q_q _ rfl rfl rfl (v_cast (v := i64 (min (B.spits.getD k default).sods (m / (cs.getD k default)) * (cs.getD k default))) (v_mul rfl rfl rfl hmb) rfl) ?_; refine q_q _ rfl rfl rfl (v_sub rfl rfl rfl (by omega)) ?_; refine q_q _ rfl rfl rfl (v_assign rfl rfl) ?_; refine q_q _ rfl rfl rfl (v_assign rfl rfl) ?_; refine q_nil ?_; refine r_then (r_seq ?_); have hdv := cutK_div (B := B) (c := ofL cs) (k := k) (m := m) (by omega); rw [at_ofL (by omega)] at hdv; refine r_region ?_; refine q_mv rfl rfl rfl rfl rfl ?_; refine o_q _ rfl rfl rfl (v_fieldAddr rfl Tryz.underlying62 inf58 rfl rfl rfl rfl) ?_; refine o_q _ rfl rfl rfl (v_ld1 rfl Tryz.underlying58 rfl rfl rfl) ?_; refine q_mv rfl rfl rfl rfl rfl ?_; refine o_q _ rfl rfl rfl (v_indexAddrSn rfl Tryz.underlying58 inf135 rfl rfl rfl (by omega) rfl) ?_; refine o_q _ rfl rfl rfl (v_fieldAddr rfl Tryz.underlying135 inf3 rfl rfl rfl rfl) ?_; refine o_q _ rfl rfl rfl (v_loadE1 rfl Tryz.underlying3 rfl rfl (by omega) rfl rfl) ?_; refine o_q _ rfl rfl rfl (v_lss rfl rfl rfl) ?_; refine o_nil ?_
   refine r_then ?_; refine r_condd rfl (fun hc47 => ?_) (fun hc47 => ?_)
   ·
    refine r_seq (r_region ?_); refine q_mv rfl rfl rfl rfl rfl ?_; refine q_as rfl rfl rfl rfl rfl ?_; refine o_nil (r_then ?_); refine r_ret ?_; (with_reducible refine r_in_ret ?_; refine r_then_ret ?_; refine r_then_ret ?_; refine r_in_ret ?_; refine r_then_ret ?_)
    (rw [if_pos (by assumption)] at hdv; exact r_retv2 (Rd.tmp rfl rfl) (congrArg (Value.int .i64) (by omega)) SelMC.sel SubRC.sub)
   ·
    refine r_skip ?_; refine r_in_normal ?_; refine r_then ?_; refine r_region ?_; refine q_mv rfl rfl rfl rfl rfl ?_; refine o_q _ rfl rfl rfl (v_add rfl rfl rfl (by omega)) ?_; refine q_as rfl rfl rfl rfl rfl ?_; refine o_nil (r_then ?_); exact r_next ((k + 1, x + min (B.spits.getD k default).sods (m / (cs.getD k default)), m - min (B.spits.getD k default).sods (m / (cs.getD k default)) * (cs.getD k default))) (by exact r_here (by repeat (first | exact FSub.nil | refine FSub.cons rfl ?_)) SelMC.sel SubRC.sub) (by dsimp only; rw [if_neg (by assumption)] at hdv; exact ⟨by omega, by omega, by push_cast; omega, by omega, by omega, by omega⟩) (by show _ - (_ + 1) < _ - _; omega)
  ·
   refine r_exit ?_; refine r_then_exit ?_; refine r_then_exit ?_; refine r_in_here ?_; refine r_then (r_seq (r_region ?_)); refine q_mv rfl rfl rfl rfl rfl ?_; refine q_as rfl rfl rfl rfl rfl ?_; refine o_nil (r_then ?_); refine r_ret ?_
   (have hk9 : k = cs.length := (by omega); subst hk9; rw [cutK_end (B := B) (c := ofL cs) (k := cs.length) (m := m) (by omega)] at hI0; exact r_retv2 (Rd.tmp rfl rfl) (congrArg (Value.int .i64) (by omega)) SelMC.sel SubRC.sub)
end Go.Proofs.YtpndeonmmcaikaaGreat.SodW

namespace Go.Proofs.YtpndeonmmcaikaaGreat.FootW
open Go.G Foot4
set_option maxRecDepth 1000000
attribute [local irreducible] G.ParO G.Fin
end Go.Proofs.YtpndeonmmcaikaaGreat.FootW

namespace Go.Proofs.YtpndeonmmcaikaaGreat.FootW
open Go.G Foot4
set_option maxRecDepth 1000000
attribute [local irreducible] G.ParO G.Fin
end Go.Proofs.YtpndeonmmcaikaaGreat.FootW

namespace Go.Proofs.YtpndeonmmcaikaaGreat.FootW
open Go.G Foot4
set_option maxRecDepth 1000000
attribute [local irreducible] G.ParO G.Fin
end Go.Proofs.YtpndeonmmcaikaaGreat.FootW

namespace Go.Proofs.YtpndeonmmcaikaaGreat.FootW
open Go.G Foot4
set_option maxRecDepth 1000000
attribute [local irreducible] G.ParO G.Fin
end Go.Proofs.YtpndeonmmcaikaaGreat.FootW

namespace Go.Proofs.YtpndeonmmcaikaaGreat.FootW
open Go.G Foot4
set_option maxRecDepth 1000000
attribute [local irreducible] G.ParO G.Fin
set_option maxHeartbeats 4000000 in
theorem within_v (a b c : Int) : FnV Tryz.prog 178 [i64 a, i64 b, i64 c] [] (.bool (decide (b ≤ a ∧ a ≤ c))) := by
 refine FnV.intro Tryz.call178 Tryz.func178 rfl Tryz.ntmps178 rfl ?_; intro W M Rf; refine r_seq (r_region ?_); refine q_as rfl rfl rfl rfl rfl ?_; refine o_nil (r_then (r_seq (r_region ?_))); refine q_mv rfl rfl rfl rfl rfl ?_; refine q_mv rfl rfl rfl rfl rfl ?_; refine o_test rfl rfl rfl (v_leq rfl rfl rfl) (fun h9 => ?_) (fun h9 => ?_)
 all_goals
  refine q_mv rfl rfl rfl rfl rfl ?_
  first | refine o_gn rfl rfl rfl rfl ?_ | refine o_g _ rfl rfl rfl rfl (v_move rfl rfl) ?_
  first | refine o_gn rfl rfl rfl rfl ?_ | refine o_g _ rfl rfl rfl rfl (v_move rfl rfl) ?_
  first | refine o_gn rfl rfl rfl rfl ?_ | refine o_gtest rfl rfl rfl rfl (v_leq rfl rfl rfl) (fun h13 => ?_) (fun h13 => ?_)
  all_goals
   first | refine o_q _ rfl rfl rfl (v_pick_t rfl rfl rfl) ?_ | refine o_q _ rfl rfl rfl (v_pick_f rfl rfl rfl) ?_
   refine q_as rfl rfl rfl rfl rfl ?_; refine o_nil (r_then ?_); refine r_ret ?_
   first | exact r_retv2 (Rd.tmp rfl rfl) (congrArg Value.bool (decide_eq_true (by omega)).symm) SelMC.sel SubRC.sub | exact r_retv2 (Rd.tmp rfl rfl) (congrArg Value.bool (decide_eq_false (by omega)).symm) SelMC.sel SubRC.sub
set_option maxHeartbeats 4000000 in
theorem isSpan_v (lo hi a b : Int) : FnV Tryz.prog 180 [.agg #[i64 lo, i64 hi], i64 a, i64 b] [] (.bool (decide (a ≤ lo ∧ lo ≤ hi ∧ hi ≤ b))) := by
 refine FnV.intro Tryz.call180 Tryz.func180 rfl Tryz.ntmps180 rfl ?_; intro W M Rf; refine r_seq (r_region ?_); refine o_boxA rfl rfl rfl rfl rfl (fun b3 => ?_); refine q_as rfl rfl rfl rfl rfl ?_; refine o_nil (r_then (r_seq (r_region ?_))); refine q_mv rfl rfl rfl rfl rfl ?_; refine o_q _ rfl rfl rfl (v_fieldAddr rfl Tryz.underlying43 inf3 rfl rfl rfl rfl) ?_; refine o_q _ rfl rfl rfl (v_ld1 rfl Tryz.underlying3 rfl rfl rfl) ?_; refine o_test rfl rfl rfl (v_leq rfl rfl rfl) (fun h10 => ?_) (fun h10 => ?_)
 all_goals
  refine q_mv rfl rfl rfl rfl rfl ?_
  first | refine o_gn rfl rfl rfl rfl ?_ | refine o_g _ rfl rfl rfl rfl (v_fieldAddr rfl Tryz.underlying43 inf3 rfl rfl rfl rfl) ?_
  first | refine o_gn rfl rfl rfl rfl ?_ | refine o_g _ rfl rfl rfl rfl (v_ld1 rfl Tryz.underlying3 rfl rfl rfl) ?_
  first | refine o_gn rfl rfl rfl rfl ?_ | refine o_g _ rfl rfl rfl rfl (v_fieldAddr rfl Tryz.underlying43 inf3 rfl rfl rfl rfl) ?_
  first | refine o_gn rfl rfl rfl rfl ?_ | refine o_g _ rfl rfl rfl rfl (v_ld1 rfl Tryz.underlying3 rfl rfl rfl) ?_
  first | refine o_gn rfl rfl rfl rfl ?_ | refine o_gtest rfl rfl rfl rfl (v_leq rfl rfl rfl) (fun h16 => ?_) (fun h16 => ?_)
  all_goals
   first | refine o_q _ rfl rfl rfl (v_pick_t rfl rfl rfl) ?_ | refine o_q _ rfl rfl rfl (v_pick_f rfl rfl rfl) ?_
   refine q_mv rfl rfl rfl rfl rfl ?_
   first | refine o_gn rfl rfl rfl rfl ?_ | refine o_g _ rfl rfl rfl rfl (v_fieldAddr rfl Tryz.underlying43 inf3 rfl rfl rfl rfl) ?_
   first | refine o_gn rfl rfl rfl rfl ?_ | refine o_g _ rfl rfl rfl rfl (v_ld1 rfl Tryz.underlying3 rfl rfl rfl) ?_
   first | refine o_gn rfl rfl rfl rfl ?_ | refine o_g _ rfl rfl rfl rfl (v_move rfl rfl) ?_
   first | refine o_gn rfl rfl rfl rfl ?_ | refine o_gtest rfl rfl rfl rfl (v_leq rfl rfl rfl) (fun h22 => ?_) (fun h22 => ?_)
   all_goals
    first | refine o_q _ rfl rfl rfl (v_pick_t rfl rfl rfl) ?_ | refine o_q _ rfl rfl rfl (v_pick_f rfl rfl rfl) ?_
    refine q_as rfl rfl rfl rfl rfl ?_; refine o_nil (r_then ?_); refine r_ret ?_
    first | exact r_retv2 (Rd.tmp rfl rfl) (congrArg Value.bool (decide_eq_true (by omega)).symm) SelMC.sel SubRC.sub | exact r_retv2 (Rd.tmp rfl rfl) (congrArg Value.bool (decide_eq_false (by omega)).symm) SelMC.sel SubRC.sub
set_option maxHeartbeats 4000000 in
theorem open1_v (s : Span) : FnV Tryz.prog 179 [.agg #[i64 s.lo, i64 s.hi]] [] (.bool (decide (¬ SpanOk s 10))) := by
 refine FnV.intro Tryz.call179 Tryz.func179 rfl Tryz.ntmps179 rfl ?_; intro W M Rf; refine r_seq (r_region ?_); refine o_boxA rfl rfl rfl rfl rfl (fun b1 => ?_); refine q_as rfl rfl rfl rfl rfl ?_; refine o_nil (r_then (r_seq (r_region ?_))); refine o_q _ rfl rfl rfl (v_ldW rfl Tryz.underlying43 rfl inf43 rfl rfl) ?_; refine o_test rfl rfl rfl (OpQ.fn (isSpan_v _ _ _ _) rfl rfl SubRC.sub) (fun h4 => ?_) (fun h4 => ?_)
 all_goals
  refine o_q _ rfl rfl rfl (v_not rfl rfl) ?_; refine q_as rfl rfl rfl rfl rfl ?_; refine o_nil (r_then ?_); refine r_ret ?_; exact r_retv2 (Rd.tmp rfl rfl) (congrArg Value.bool (by simp [SpanOk, *])) SelMC.sel SubRC.sub
set_option maxHeartbeats 4000000 in
theorem spans_r (p : Span → Prop) [DecidablePred p] (xs : List Span) (oa : Option Addr) (c : Nat) (fv : FuncId) (caps : List Value) (Rs : List Fact) (hl : xs.length ≤ 1000) (hf : ∀ k, k < xs.length → FnV Tryz.prog fv (.agg #[i64 (xs.getD k default).lo, i64 (xs.getD k default).hi] :: caps) Rs (.bool (decide (p (xs.getD k default))))) : FnR Tryz.prog 159 [.slice oa xs.length c, .func (.func fv) #[] caps.toArray] (rowD oa 2 (encS) xs :: Rs) (fun v => (v = i64 (-1) ∧ ∀ j, j < xs.length → ¬ p (xs.getD j default)) ∨ ∃ k : Nat, v = i64 k ∧ k < xs.length ∧ p (xs.getD k default)) (fun _ => []) := by
 refine FnR.intro Tryz.call159 Tryz.func159 rfl Tryz.ntmps159 rfl ?_; intro W M Rf; refine r_seq (r_region ?_); refine q_as rfl rfl rfl rfl rfl ?_; refine o_nil (r_then (r_seq ?_)); refine r_seq (r_region ?_); refine q_mv rfl rfl rfl rfl rfl ?_; refine o_q _ rfl rfl rfl (v_len rfl rfl Tryz.underlying59 rfl) ?_; refine q_mv rfl rfl rfl rfl rfl ?_; refine o_nil (r_then ?_); refine r_block ?_; refine r_loop (ι := Nat) (fun k => k ≤ xs.length ∧ ∀ j, j < k → ¬ p (xs.getD j default)) (fun k => [(0, .slice oa xs.length c), (1, .func (.func fv) #[] caps.toArray), (7, i64 xs.length), (8, i64 k)]) (fun k => M) (fun k => (rowD oa 2 (encS) xs :: Rs) ++ Rf) (fun k => xs.length - k) 0 ?_ ?_ ?_
 ·
  exact r_here (by repeat (first | exact FSub.nil | refine FSub.cons rfl ?_)) SelMC.sel SubRC.sub
 ·
  exact ⟨by omega, fun j hj => absurd hj (by omega)⟩
 ·
  rintro k hI0; refine r_seq (r_region ?_); refine o_q _ rfl rfl rfl (v_lss rfl rfl rfl) ?_; refine o_nil (r_then (r_seq ?_)); refine r_condd rfl (fun hc9 => ?_) (fun hc9 => ?_)
  ·
   refine r_skip (r_then ?_); refine r_seq (r_block ?_); refine r_seq (r_region ?_); refine q_mv rfl rfl rfl rfl rfl ?_; refine q_as rfl rfl rfl rfl rfl ?_; refine o_nil (r_then (r_seq (r_region ?_))); (iterate 3 refine q_mv rfl rfl rfl rfl rfl ?_); refine o_q _ rfl rfl rfl (v_indexAddrSn rfl Tryz.underlying59 inf43 rfl rfl rfl (by omega) rfl) ?_; refine o_q _ rfl rfl rfl (v_loadEN rfl Tryz.underlying43 rfl inf43 rfl (by omega) rfl rfl rfl) ?_; refine o_test rfl rfl rfl (OpQ.call (hf k (by omega)) rfl [] caps rfl rfl rfl SubRC.sub) (fun h16 => ?_) (fun h16 => ?_)
   all_goals
    refine o_nil (r_then ?_); refine r_cond rfl (fun hc16 => ?_) (fun hc16 => ?_)
    ·
     first
     | (exfalso; revert hc16; decide)
     |
      skip
      refine r_seq (r_region ?_); refine q_mv rfl rfl rfl rfl rfl ?_; refine q_as rfl rfl rfl rfl rfl ?_; refine o_nil (r_then ?_); refine r_ret ?_; (with_reducible refine r_in_ret ?_; refine r_then_ret ?_; refine r_then_ret ?_; refine r_in_ret ?_; refine r_then_ret ?_); exact r_retr (Rd.tmp rfl rfl) (Or.inr ⟨k, rfl, by omega, by assumption⟩) SelMC.sel SubRC.sub
    ·
     first
     | (exfalso; revert hc16; decide)
     |
      skip
      refine r_skip ?_; refine r_in_normal ?_; refine r_then ?_; refine r_region ?_; refine o_q _ rfl rfl rfl (v_add rfl rfl rfl (by omega)) ?_; refine q_mv rfl rfl rfl rfl rfl ?_; refine o_nil (r_then ?_); refine r_next (k + 1) ?_ ?_ ?_
      ·
       exact r_here (by repeat (first | exact FSub.nil | refine FSub.cons rfl ?_)) SelMC.sel SubRC.sub
      ·
       exact ⟨by omega, Foot4.all_step hI0.2 (by assumption)⟩
      ·
       omega
  ·
   refine r_exit ?_; refine r_then_exit ?_; refine r_then_exit ?_; refine r_in_here ?_; refine r_then (r_seq (r_region ?_)); refine q_as rfl rfl rfl rfl rfl ?_; refine o_nil (r_then ?_); refine r_ret ?_; exact r_retr (Rd.tmp rfl rfl) (Or.inl ⟨rfl, fun j hj => hI0.2 j (by omega)⟩) SelMC.sel SubRC.sub
set_option maxHeartbeats 4000000 in
theorem spans_c (p : Span → Prop) [DecidablePred p] (xs : List Span) (oa : Option Addr) (c : Nat) (fv : FuncId) (caps : List Value) (Rs : List Fact) (hl : xs.length ≤ 1000) (hf : ∀ k, k < xs.length → FnV Tryz.prog fv (.agg #[i64 (xs.getD k default).lo, i64 (xs.getD k default).hi] :: caps) Rs (.bool (decide (p (xs.getD k default))))) : FnV Tryz.prog 125 [.slice oa xs.length c, .func (.func fv) #[] caps.toArray] (rowD oa 2 (encS) xs :: Rs) (.bool (decide (∃ k, k < xs.length ∧ p (xs.getD k default)))) := by
 refine FnV.intro Tryz.call125 Tryz.func125 rfl Tryz.ntmps125 rfl ?_; intro W M Rf; refine r_seq (r_region ?_); refine q_as rfl rfl rfl rfl rfl ?_; refine o_nil (r_then (r_seq (r_region ?_))); refine q_mv rfl rfl rfl rfl rfl ?_; refine q_mv rfl rfl rfl rfl rfl ?_; refine o_fn (spans_r p xs oa c fv caps Rs hl hf) rfl rfl rfl rfl rfl SubRC.sub (fun v7 hv7 => ?_); obtain ⟨rfl, hn⟩ | ⟨k, rfl, hk, hp⟩ := hv7
 all_goals
  refine o_q _ rfl rfl rfl (v_geq rfl rfl rfl) ?_; refine q_as rfl rfl rfl rfl rfl ?_; refine o_nil (r_then ?_); refine r_ret ?_
  first
  | exact r_retv2 (Rd.tmp rfl rfl) (congrArg Value.bool ((decide_eq_false (by omega)).trans (decide_eq_false (fun ⟨k, hk, hp⟩ => hn k hk hp)).symm)) SelMC.sel SubRC.sub
  | exact r_retv2 (Rd.tmp rfl rfl) (congrArg Value.bool ((decide_eq_true (by omega)).trans (decide_eq_true ⟨k, hk, hp⟩).symm)) SelMC.sel SubRC.sub
set_option maxHeartbeats 4000000 in
theorem ints_r (p : Int → Prop) [DecidablePred p] (xs : List Int) (oa : Option Addr) (c : Nat) (fv : FuncId) (caps : List Value) (Rs : List Fact) (hl : xs.length ≤ 1000) (hf : ∀ k, k < xs.length → FnV Tryz.prog fv (i64 (xs.getD k default) :: caps) Rs (.bool (decide (p (xs.getD k default))))) : FnR Tryz.prog 201 [.slice oa xs.length c, .func (.func fv) #[] caps.toArray] (rowD oa 1 (fun n : Int => [i64 n]) xs :: Rs) (fun v => (v = i64 (-1) ∧ ∀ j, j < xs.length → ¬ p (xs.getD j default)) ∨ ∃ k : Nat, v = i64 k ∧ k < xs.length ∧ p (xs.getD k default)) (fun _ => []) := by
 refine FnR.intro Tryz.call201 Tryz.func201 rfl Tryz.ntmps201 rfl ?_; intro W M Rf; refine r_seq (r_region ?_); refine q_as rfl rfl rfl rfl rfl ?_; refine o_nil (r_then (r_seq ?_)); refine r_seq (r_region ?_); refine q_mv rfl rfl rfl rfl rfl ?_; refine o_q _ rfl rfl rfl (v_len rfl rfl Tryz.underlying39 rfl) ?_; refine q_mv rfl rfl rfl rfl rfl ?_; refine o_nil (r_then ?_); refine r_block ?_; refine r_loop (ι := Nat) (fun k => k ≤ xs.length ∧ ∀ j, j < k → ¬ p (xs.getD j default)) (fun k => [(0, .slice oa xs.length c), (1, .func (.func fv) #[] caps.toArray), (7, i64 xs.length), (8, i64 k)]) (fun k => M) (fun k => (rowD oa 1 (fun n : Int => [i64 n]) xs :: Rs) ++ Rf) (fun k => xs.length - k) 0 ?_ ?_ ?_
 ·
  exact r_here (by repeat (first | exact FSub.nil | refine FSub.cons rfl ?_)) SelMC.sel SubRC.sub
 ·
  exact ⟨by omega, fun j hj => absurd hj (by omega)⟩
 ·
  rintro k hI0; refine r_seq (r_region ?_); refine o_q _ rfl rfl rfl (v_lss rfl rfl rfl) ?_; refine o_nil (r_then (r_seq ?_)); refine r_condd rfl (fun hc9 => ?_) (fun hc9 => ?_)
  ·
   refine r_skip (r_then ?_); refine r_seq (r_block ?_); refine r_seq (r_region ?_); refine q_mv rfl rfl rfl rfl rfl ?_; refine q_as rfl rfl rfl rfl rfl ?_; refine o_nil (r_then (r_seq (r_region ?_))); (iterate 3 refine q_mv rfl rfl rfl rfl rfl ?_); refine o_q _ rfl rfl rfl (v_indexAddrSn rfl Tryz.underlying39 inf3 rfl rfl rfl (by omega) rfl) ?_; refine o_q _ rfl rfl rfl (v_loadE1 rfl Tryz.underlying3 rfl rfl (by omega) rfl rfl) ?_; refine o_test rfl rfl rfl (OpQ.call (hf k (by omega)) rfl [] caps rfl rfl rfl SubRC.sub) (fun h16 => ?_) (fun h16 => ?_)
   all_goals
    refine o_nil (r_then ?_); refine r_cond rfl (fun hc16 => ?_) (fun hc16 => ?_)
    ·
     first
     | (exfalso; revert hc16; decide)
     |
      skip
      refine r_seq (r_region ?_); refine q_mv rfl rfl rfl rfl rfl ?_; refine q_as rfl rfl rfl rfl rfl ?_; refine o_nil (r_then ?_); refine r_ret ?_; (with_reducible refine r_in_ret ?_; refine r_then_ret ?_; refine r_then_ret ?_; refine r_in_ret ?_; refine r_then_ret ?_); exact r_retr (Rd.tmp rfl rfl) (Or.inr ⟨k, rfl, by omega, by assumption⟩) SelMC.sel SubRC.sub
    ·
     first
     | (exfalso; revert hc16; decide)
     |
      skip
      refine r_skip ?_; refine r_in_normal ?_; refine r_then ?_; refine r_region ?_; refine o_q _ rfl rfl rfl (v_add rfl rfl rfl (by omega)) ?_; refine q_mv rfl rfl rfl rfl rfl ?_; refine o_nil (r_then ?_); refine r_next (k + 1) ?_ ?_ ?_
      ·
       exact r_here (by repeat (first | exact FSub.nil | refine FSub.cons rfl ?_)) SelMC.sel SubRC.sub
      ·
       exact ⟨by omega, Foot4.all_step hI0.2 (by assumption)⟩
      ·
       omega
  ·
   refine r_exit ?_; refine r_then_exit ?_; refine r_then_exit ?_; refine r_in_here ?_; refine r_then (r_seq (r_region ?_)); refine q_as rfl rfl rfl rfl rfl ?_; refine o_nil (r_then ?_); refine r_ret ?_; exact r_retr (Rd.tmp rfl rfl) (Or.inl ⟨rfl, fun j hj => hI0.2 j (by omega)⟩) SelMC.sel SubRC.sub
set_option maxHeartbeats 4000000 in
theorem ints_c (p : Int → Prop) [DecidablePred p] (xs : List Int) (oa : Option Addr) (c : Nat) (fv : FuncId) (caps : List Value) (Rs : List Fact) (hl : xs.length ≤ 1000) (hf : ∀ k, k < xs.length → FnV Tryz.prog fv (i64 (xs.getD k default) :: caps) Rs (.bool (decide (p (xs.getD k default))))) : FnV Tryz.prog 183 [.slice oa xs.length c, .func (.func fv) #[] caps.toArray] (rowD oa 1 (fun n : Int => [i64 n]) xs :: Rs) (.bool (decide (∃ k, k < xs.length ∧ p (xs.getD k default)))) := by
 refine FnV.intro Tryz.call183 Tryz.func183 rfl Tryz.ntmps183 rfl ?_; intro W M Rf; refine r_seq (r_region ?_); refine q_as rfl rfl rfl rfl rfl ?_; refine o_nil (r_then (r_seq (r_region ?_))); refine q_mv rfl rfl rfl rfl rfl ?_; refine q_mv rfl rfl rfl rfl rfl ?_; refine o_fn (ints_r p xs oa c fv caps Rs hl hf) rfl rfl rfl rfl rfl SubRC.sub (fun v7 hv7 => ?_); obtain ⟨rfl, hn⟩ | ⟨k, rfl, hk, hp⟩ := hv7
 all_goals
  refine o_q _ rfl rfl rfl (v_geq rfl rfl rfl) ?_; refine q_as rfl rfl rfl rfl rfl ?_; refine o_nil (r_then ?_); refine r_ret ?_
  first
  | exact r_retv2 (Rd.tmp rfl rfl) (congrArg Value.bool ((decide_eq_false (by omega)).trans (decide_eq_false (fun ⟨k, hk, hp⟩ => hn k hk hp)).symm)) SelMC.sel SubRC.sub
  | exact r_retv2 (Rd.tmp rfl rfl) (congrArg Value.bool ((decide_eq_true (by omega)).trans (decide_eq_true ⟨k, hk, hp⟩).symm)) SelMC.sel SubRC.sub
end Go.Proofs.YtpndeonmmcaikaaGreat.FootW

namespace Go.G
variable {P : Program} {W : World} {n : Nat} {D : List Deferred} {L : Tm} {M : List Res} {R : List Fact} {Q : Exit → Act → World → Prop} {o : Oper}
def NoP (Q : Exit → Act → World → Prop) : Exit → Act → World → Prop := fun e a w => match e with | .normal => Q .normal a w | _ => False
theorem r_nop (h : Imp W n D L M R (Q .normal)) : Imp W n D L M R (NoP Q .normal) := h
def addE (fl : List Nat) (o : Oper) : Oper := { o with after := o.after ++ (fl.map fun i => (⟨i, .phase⟩ : Edge)).toArray }
def floatL (fl : List Nat) (m : Nat) (l : List Oper) : List Oper := l.take m ++ (l.drop m).map (addE fl)
theorem floatL_at (fl : List Nat) (m : Nat) (l : List Oper) (j : Nat) : (floatL fl m l)[j]? = (l[j]?).map fun o => if j < m then o else addE fl o := by
  unfold floatL
  by_cases h : j < m
  · by_cases hl : j < l.length
    · rw [List.getElem?_append_left (by rw [List.length_take]; omega), List.getElem?_take, if_pos h]
      simp [h]
    · rw [List.getElem?_eq_none (by rw [List.length_append, List.length_take, List.length_map, List.length_drop]; omega), List.getElem?_eq_none (by omega)]; rfl
  · by_cases hm : m ≤ l.length
    · rw [List.getElem?_append_right (by rw [List.length_take]; omega), List.length_take, Nat.min_eq_left hm, List.getElem?_map, List.getElem?_drop, show m + (j - m) = j from by omega]
      simp [h]
    · rw [List.getElem?_eq_none (by rw [List.length_append, List.length_take, List.length_map, List.length_drop]; omega), List.getElem?_eq_none (by omega)]; rfl
theorem floatL_len (fl : List Nat) (m : Nat) (l : List Oper) : (floatL fl m l).length = l.length := by
  unfold floatL
  rw [List.length_append, List.length_take, List.length_map, List.length_drop]; omega
section
variable {fl : List Nat} {m : Nat} {l : List Oper}
theorem float_ready {listed : Array Bool} (hi : ∀ i ∈ fl, listed.getD i false = true) {j : Nat} : j ∈ Region.ready .any (floatL fl m l).toArray listed ↔ j ∈ Region.ready .any l.toArray listed := by
  rw [mem_ready, mem_ready]
  constructor
  · rintro ⟨h0, o, ho, h⟩
    rw [List.getElem?_toArray, floatL_at] at ho
    cases hl : l[j]? with
    | none => rw [hl] at ho; cases ho
    | some p =>
      rw [hl] at ho
      simp only [Option.map_some, Option.some.injEq] at ho
      refine ⟨h0, p, by simpa using hl, fun e he hb => h e ?_ hb⟩
      subst ho
      split
      · exact he
      · unfold addE; exact Array.mem_append_left _ he
  · rintro ⟨h0, o, ho, h⟩
    have ho : l[j]? = some o := by simpa using ho
    refine ⟨h0, if j < m then o else addE fl o, by rw [List.getElem?_toArray, floatL_at, ho]; rfl, fun e he hb => ?_⟩
    split at he
    · exact h e he hb
    · unfold addE at he
      rcases Array.mem_append.1 he with he | he
      · exact h e he hb
      · simp only [List.mem_toArray, List.mem_map] at he
        obtain ⟨i, hi', rfl⟩ := he
        exact hi i hi'
theorem float_yielded (tmps : Array Value) : yielded (floatL fl m l).toArray tmps = yielded l.toArray tmps := by
  funext j
  unfold yielded
  rw [List.getElem?_toArray, floatL_at, List.getElem?_toArray]
  cases l[j]? with
  | none => rfl
  | some o =>
    by_cases h : j < m
    · simp only [Option.map_some, if_pos h]
    · simp only [Option.map_some, if_neg h]; rfl
theorem float_op {j : Nat} {K : Act → World → Prop} {a : Act} {w : World} (h : wpOp P (floatL fl m l).toArray Q j K a w) : wpOp P l.toArray Q j K a w := by
  unfold wpOp at *
  rw [List.getElem?_toArray, floatL_at, float_yielded] at h
  rw [List.getElem?_toArray]
  cases hl : l[j]? with
  | none => rw [hl] at h; exact h
  | some o =>
    rw [hl] at h
    simp only [Option.map_some] at h ⊢
    split at h
    · exact h
    · exact h
theorem float_any : ∀ (fuel : Nat) (listed : Array Bool) (a : Act) (w : World), (∀ i ∈ fl, listed.getD i false = true) → wpAny P .any (floatL fl m l).toArray Q fuel listed a w → wpAny P .any l.toArray Q fuel listed a w
  | 0, listed, a, w, hi, h => by
    refine ⟨?_, h.2⟩
    cases hr : Region.ready .any l.toArray listed with
    | nil => rfl
    | cons x xs =>
      have : x ∈ Region.ready .any (floatL fl m l).toArray listed := (float_ready hi).2 (by rw [hr]; simp)
      rw [h.1] at this; cases this
  | fuel + 1, listed, a, w, hi, h => by
    refine ⟨fun hr => h.1 ?_, fun j hj => float_op (wpOp_mono (fun a' w' h' => float_any fuel _ a' w' (fun i hi' => getD_set_true (hi i hi')) h') (h.2 j ((float_ready hi).2 hj)))⟩
    cases hr' : Region.ready .any (floatL fl m l).toArray listed with
    | nil => rfl
    | cons x xs =>
      have : x ∈ Region.ready .any l.toArray listed := (float_ready hi).1 (by rw [hr']; simp)
      rw [hr] at this; cases this
end
theorem frame_at {free tail : List Oper} {ss : List Spc} (hpb : parB free tail = true) (hl : ss.length = free.length) (hfr : ∀ o ∈ free, look L (o.dst.getD 1000000) = none) (hL : LateOK (free ++ tail).toArray ss) (hab : ∀ (i : Nat) (s : Spc) (c : List PanicEntry), ss[i]? = some s → s.ab = some c → Imp W n D L M R (Q (.panic c)))
    (hstep : ∀ i o s, free[i]? = some o → ss[i]? = some s → Step1 P W n M R (free ++ tail).toArray ss i o s (detL (free.take i) (ss.take i) L))
    {listed : Array Bool} {a : Act} {w : World} (hJ : J W n D L M R (free ++ tail).toArray free ss listed a w) {i : Nat} {o : Oper} (ho : free[i]? = some o) (hp : ∀ e ∈ o.after, Region.binds .any e = true → listed.getD e.on false = true) :
    ∃ a' g, FSat n (detL (free.take i) (ss.take i) L) a' ∧ execOp a.eval o = execOp a'.eval o ∧ (∀ i o s, free[i]? = some o → ss[i]? = some s → listed.getD i false = true → s.val (g i) ∧ (∀ d, o.dst = some d → a.tmps[d]? = some (g i))) ∧ St W (resOf ss listed g free.length ++ M) (fctOf ss listed g free.length ++ R) w := by
  simp only [parB, Bool.and_eq_true] at hpb
  obtain ⟨⟨⟨⟨hns, hfree⟩, hnd0⟩, hback⟩, htail⟩ := hpb
  have hnd := injB_sound hnd0
  have hmN : free.length ≤ (free ++ tail).length := by simp
  have hmask : ∀ listed', Closed (free ++ tail).toArray listed' → ∀ i o, free.length ≤ i → (free ++ tail).toArray[i]? = some o → (∀ e ∈ o.after, Region.binds .any e = true → listed'.getD e.on false = true) → ∀ j, j < i → listed'.getD j false = true := by
    intro listed' hc i o hi ho hp j hj
    have hlt : i < (free ++ tail).length := by simpa using (Array.getElem?_eq_some_iff.1 ho).1
    have h1 := List.all_eq_true.1 htail i (List.mem_range.2 hlt)
    simp only [Bool.or_eq_true] at h1
    rcases h1 with h1 | h1
    · have : i < free.length := by simpa using h1
      omega
    · have h2 := List.all_eq_true.1 h1 j (List.mem_range.2 hj)
      exact (masks_sound hc (free ++ tail) [] (fun j => by simp) (fun i hi => by simp at hi)).1 i o (Nat.zero_le _) ho hp j h2
  have hbk : ∀ i o, (free ++ tail).toArray[i]? = some o → ∀ e ∈ o.after, Region.binds .any e = true → e.on < i := by
    intro i o ho e he hbi
    have hlt : i < (free ++ tail).length := by simpa using (Array.getElem?_eq_some_iff.1 ho).1
    have := List.all_eq_true.1 hback i (List.mem_range.2 hlt)
    rw [show (free ++ tail)[i]? = some o from by simpa using ho] at this
    have := Array.all_eq_true_iff_forall_mem.1 this e he
    simpa [hbi] using this
  have him : i < free.length := (List.getElem?_eq_some_iff.1 ho).1
  have hoi : (free ++ tail).toArray[i]? = some o := by
    rw [List.getElem?_toArray, List.getElem?_append_left him]; exact ho
  have hsi : i < ss.length := by omega
  have hs : ss[i]? = some ss[i] := List.getElem?_eq_getElem hsi
  have st := hstep i o ss[i] ho hs
  obtain ⟨fops, fgd⟩ := freeB_spec hfree ho
  obtain ⟨a', f1, f2, f3⟩ := mk_frame (n := n) (free.take i) (ss.take i) hJ.frame (fun j p sj e1 e2 => by
    have hji : j < i := by have := (List.getElem?_eq_some_iff.1 e1).1; simp at this; omega
    rw [List.getElem?_take, if_pos hji] at e1 e2
    exact (hstep j p sj e1 e2).lt) (hnd.take i)
  obtain ⟨g, hg, hS⟩ := hJ.vals
  have hag : ∀ t, (∀ j p, free[j]? = some p → p.dst.getD 1000000 = t → j < i → listed.getD j false = true) → a'.tmps[t]? = a.tmps[t]? := by
    intro t ht
    by_cases hex2 : ∃ (j : Nat) (p : Oper) (s : Spc) (v : Value), (free.take i)[j]? = some p ∧ (ss.take i)[j]? = some s ∧ s.det = some v ∧ p.dst.getD 1000000 = t
    · obtain ⟨j, p, s, v, e1, e2, e3, e4⟩ := hex2
      have hji : j < i := by have := (List.getElem?_eq_some_iff.1 e1).1; simp at this; omega
      have e1' : free[j]? = some p := by rw [List.getElem?_take, if_pos hji] at e1; exact e1
      have e2' : ss[j]? = some s := by rw [List.getElem?_take, if_pos hji] at e2; exact e2
      have hlj := ht j p e1' e4 hji
      obtain ⟨k1, k2⟩ := hg j p s e1' e2' hlj
      have hgv : g j = v := by simpa [Spc.val, e3] using k1
      obtain ⟨dj, hdj⟩ : ∃ d, p.dst = some d := by
        have := (hstep j p s e1' e2').lt
        cases hod : p.dst with
        | none => rw [hod, e3] at this; simp at this
        | some d => exact ⟨d, rfl⟩
      rw [← e4, f3 j p s v e1 e2 e3, show p.dst.getD 1000000 = dj from by simp [hdj], k2 dj hdj, hgv]
    · exact f2 t (fun j p s v e1 e2 e3 e4 => hex2 ⟨j, p, s, v, e1, e2, e3, e4⟩)
  have hev : ∀ x ∈ o.op.operands, a.eval x = a'.eval x := by
    intro x hx
    cases x with
    | tmp t =>
      have := hag t (fun j p e1 e2 _ => by
        obtain ⟨e, he, hbi, hon⟩ := depOn_spec (fops j p e1 (by
          rw [e2]; unfold tmpsOf
          exact List.mem_filterMap.2 ⟨.tmp t, by simpa using hx, rfl⟩))
        have := hp e he hbi
        rwa [hon] at this)
      simp [Act.eval, this]
    | const v => rfl
    | global v => rfl
    | func v => rfl
  have hex3 : execOp a.eval o = execOp a'.eval o := execOp_congr o (Region.noSelect_spec hns i o · · hoi) hev
  exact ⟨a', g, f1, hex3, hg, hS⟩
def FlOK (P : Program) (n : Nat) (L : Tm) (free : List Oper) (ss : List Spc) : List Nat → Prop
  | [] => True
  | i :: r => (∃ (o : Oper) (v : Value) (d : Nat), free[i]? = some o ∧ ss[i]? = some (Spc.q v) ∧ o.guard = none ∧ o.dst = some d ∧ Nat.blt d n = true ∧ ∀ a, FSat n (detL (free.take i) (ss.take i) L) a → ∀ w, (execOp a.eval o).run P w = .ok (.value v) w) ∧ FlOK P n L free ss r
theorem FlOK.at {free : List Oper} {ss : List Spc} : ∀ {fl : List Nat}, FlOK P n L free ss fl → ∀ i ∈ fl, ∃ (o : Oper) (v : Value) (d : Nat), free[i]? = some o ∧ ss[i]? = some (Spc.q v) ∧ o.guard = none ∧ o.dst = some d ∧ Nat.blt d n = true ∧ ∀ a, FSat n (detL (free.take i) (ss.take i) L) a → ∀ w, (execOp a.eval o).run P w = .ok (.value v) w
  | [], _, _, h => by cases h
  | j :: r, ⟨h1, h2⟩, i, hi => by
    rcases List.mem_cons.1 hi with rfl | hi
    · exact h1
    · exact FlOK.at h2 i hi
def tailF (fl : List Nat) (ms : List Nat) (m N : Nat) : Bool := (List.range N).all fun t => Nat.blt t m || (List.range t).all fun j => fl.contains j || (ms.getD t 0).testBit j
def freeAt (l : List Oper) (i : Nat) : Bool :=
  match l[i]? with
  | none => false
  | some oi => (List.range l.length).all fun j => j == i || depOn oi j || match l[j]? with
      | some oj => oj.after.any (fun e => Region.binds .any e && e.on == i) || oi.apart l.toArray oj
      | none => true
def freesB (l : List Oper) (fl : List Nat) : Bool := fl.all (freeAt l)
theorem freeAt_spec {l : List Oper} {i : Nat} {oi : Oper} (hi : l[i]? = some oi) (h : freeAt l i = true) {listed : Array Bool} (hp : ∀ e ∈ oi.after, Region.binds .any e = true → listed.getD e.on false = true) (j : Nat) (oj : Oper)
    (hj : l.toArray[j]? = some oj) (hne : j ≠ i) (hun : listed.getD j true = false) (hno : ∀ e ∈ oj.after, Region.binds .any e = true → e.on ≠ i) : oi.apart l.toArray oj = true := by
  have hj : l[j]? = some oj := by simpa using hj
  simp only [freeAt, hi] at h
  have h1 := List.all_eq_true.1 h j (List.mem_range.2 (List.getElem?_eq_some_iff.1 hj).1)
  simp only [hj, Bool.or_eq_true, beq_iff_eq, hne, false_or] at h1
  rcases h1 with h1 | h1 | h1
  · obtain ⟨e, he, hb, hon⟩ := depOn_spec h1
    have := hp e he hb
    rw [hon] at this
    rcases Nat.lt_or_ge j listed.size with h' | h'
    · simp [h'] at hun this; rw [hun] at this; cases this
    · simp [Array.getElem?_eq_none h'] at this
  · obtain ⟨e, he, hb⟩ := Array.any_eq_true'.1 h1
    simp only [Bool.and_eq_true, beq_iff_eq] at hb
    exact absurd hb.2 (hno e he hb.1)
  · exact h1
theorem float_all {fl : List Nat} {m : Nat} {l : List Oper} (hml : m ≤ l.length) {ss : List Spc} (hpb : parB ((floatL fl m l).take m) ((floatL fl m l).drop m) = true) (hlen : ss.length = ((floatL fl m l).take m).length) (hfr : ∀ o ∈ (floatL fl m l).take m, look L (o.dst.getD 1000000) = none) (hL : LateOK (floatL fl m l).toArray ss)
    (hab : ∀ (i : Nat) (s : Spc) (c : List PanicEntry), ss[i]? = some s → s.ab = some c → Imp W n D L M R (NoP Q (.panic c)))
    (hstep : ∀ i o s, ((floatL fl m l).take m)[i]? = some o → ss[i]? = some s → Step1 P W n M R (floatL fl m l).toArray ss i o s (detL (((floatL fl m l).take m).take i) (ss.take i) L))
    (hfin : Fin W n D (wpList P (floatL fl m l).toArray (NoP Q) ((floatL fl m l).drop m)) ((floatL fl m l).take m) ss L M R)
    (hfl : FlOK P n L ((floatL fl m l).take m) ss fl) (hns : Region.noSelect l.toArray = true) (hbk : backB l = true) (htl : tailF fl (masks l []) m l.length = true) (hfs : freesB l fl = true) :
    ∀ (fuel : Nat) (listed : Array Bool) (a : Act) (w : World), J W n D L M R (floatL fl m l).toArray ((floatL fl m l).take m) ss listed a w → unl l.length listed ≤ fuel → wpAny P .any l.toArray (NoP Q) fuel listed a w := by
  have hflat := hfl.at
  have hFat := floatL_at fl m l
  have hFlen := floatL_len fl m l
  generalize hF : floatL fl m l = F at *
  have hsplit : F.take m ++ F.drop m = F := List.take_append_drop m F
  have hmF : (F.take m).length = m := by rw [List.length_take]; omega
  have hlow : ∀ j, j < m → F[j]? = l[j]? := fun j hj => by
    rw [hFat j]; cases l[j]? with
    | none => rfl
    | some o => simp [hj]
  have hfree : ∀ j, j < m → (F.take m)[j]? = l[j]? := fun j hj => by rw [List.getElem?_take, if_pos hj, hlow j hj]
  have hlate : LateOK (F.take m ++ F.drop m).toArray ss := by rw [hsplit]; exact hL
  have hst' : ∀ i o s, (F.take m)[i]? = some o → ss[i]? = some s → Step1 P W n M R (F.take m ++ F.drop m).toArray ss i o s (detL ((F.take m).take i) (ss.take i) L) := by rw [hsplit]; exact hstep
  have hclosed : ∀ listed, Closed F.toArray listed → Closed l.toArray listed := fun listed hc j o ho hj e he hb => by
    have ho : l[j]? = some o := by simpa using ho
    refine hc j (if j < m then o else addE fl o) (by rw [List.getElem?_toArray, hFat, ho]; rfl) hj e ?_ hb
    split
    · exact he
    · unfold addE; exact Array.mem_append_left _ he
  have hback : ∀ i o, l[i]? = some o → ∀ e ∈ o.after, Region.binds .any e = true → e.on < i := by
    intro i o ho e he hbi
    have hlt : i < l.length := (List.getElem?_eq_some_iff.1 ho).1
    have := List.all_eq_true.1 hbk i (List.mem_range.2 hlt)
    rw [ho] at this
    have := Array.all_eq_true_iff_forall_mem.1 this e he
    simpa [hbi] using this
  intro fuel
  induction fuel with
  | zero =>
    intro listed a w hJ hu
    have hsz : listed.size = l.length := by rw [hJ.size]; simp [hFlen]
    have hall : ∀ i ∈ fl, listed.getD i false = true := fun i hi => by
      obtain ⟨o, v, d, ho, _⟩ := hflat i hi
      have hi' : i < m := by have := (List.getElem?_eq_some_iff.1 ho).1; omega
      cases h : listed.getD i true with
      | true =>
        have : i < listed.size := by omega
        simp [this] at h ⊢; exact h
      | false =>
        have := unl_set (N := l.length) (i := i) (by omega) hsz h
        omega
    refine float_any (fl := fl) (m := m) 0 listed a w hall ?_
    rw [hF, ← hsplit]
    replace hJ : J W n D L M R (F.take m ++ F.drop m).toArray (F.take m) ss listed a w := by rw [hsplit]; exact hJ
    exact par_any hpb hlen hfr hlate hab hst' (by rw [hsplit]; exact hfin) 0 listed a w hJ (by rw [hsplit, hFlen]; exact hu)
  | succ fuel ih =>
    intro listed a w hJ hu
    have hsz : listed.size = l.length := by rw [hJ.size]; simp [hFlen]
    have hboth : ∀ j, j < l.length → listed.getD j true = listed.getD j false := fun j hj => by
      have : j < listed.size := by omega
      simp [this]
    by_cases hall : ∀ i ∈ fl, listed.getD i false = true
    · refine float_any (fl := fl) (m := m) (fuel + 1) listed a w hall ?_
      rw [hF, ← hsplit]
      replace hJ : J W n D L M R (F.take m ++ F.drop m).toArray (F.take m) ss listed a w := by rw [hsplit]; exact hJ
      exact par_any hpb hlen hfr hlate hab hst' (by rw [hsplit]; exact hfin) (fuel + 1) listed a w hJ (by rw [hsplit, hFlen]; exact hu)
    · by_cases hrd : ∃ i ∈ fl, i ∈ Region.ready .any l.toArray listed
      · obtain ⟨i, hi, hir⟩ := hrd
        obtain ⟨o, v, d, ho, hs, hg, hdst, hdn, hpure⟩ := hflat i hi
        have him : i < m := by have := (List.getElem?_eq_some_iff.1 ho).1; omega
        have hol : l[i]? = some o := by rw [← hfree i him]; exact ho
        obtain ⟨h0, o', ho', hp⟩ := mem_ready.1 hir
        have ho' : l[i]? = some o' := by simpa using ho'
        rw [hol] at ho'; cases ho'
        have hJ' : J W n D L M R (F.take m ++ F.drop m).toArray (F.take m) ss listed a w := by rw [hsplit]; exact hJ
        obtain ⟨a', g, f1, hex, hgv, hS⟩ := frame_at hpb hlen hfr hlate hab hst' hJ' ho hp
        have hirF : i ∈ Region.ready .any (F.take m ++ F.drop m).toArray listed := by
          rw [hsplit]
          exact mem_ready.2 ⟨h0, o, by rw [List.getElem?_toArray, hlow i him]; exact hol, hp⟩
        have hy : Go.Yields P l.toArray o v a := .inl ⟨by simp [Region.wanted, hg], fun w => by rw [hex]; exact hpure a' f1 w⟩
        refine wpAny_first (i := i) (oi := o) (v := v) (by simpa using hol) (Region.noSelect_spec hns) (fun _ _ _ hx => hx.elim) fuel listed a w (freeAt_spec hol (List.all_eq_true.1 hfs i hi) hp) hir hy ?_
        · have hnd : Inj (F.take m) := by
            simp only [parB, Bool.and_eq_true] at hpb
            exact injB_sound hpb.1.1.2
          have hset : (resOf ss listed g (F.take m).length ++ M).Perm (restOf ss listed g (F.take m).length i ++ M) := by
            refine List.Perm.append_right M (List.Perm.of_eq ?_)
            refine flatMap_same _ _ _ fun j hj => ?_
            by_cases e : j = i
            · subst e
              have : listed.getD j false = false := by rw [← hboth j (by omega)]; exact h0
              rw [if_pos rfl, this, hs]; rfl
            · rw [if_neg e]
          have hJn := hJ.next (v := v) (o := o) (s := Spc.q v) (i := i) (w' := w) hnd hfr (by simp [hFlen, hmF]; omega) (by rw [← hsplit]; exact hirF) (by rw [List.getElem?_toArray, hlow i him]; exact hol) ho hs (by rw [hdst]; exact hdn) rfl rfl hL hgv (hS.perm hset)
          refine ih _ _ _ hJn ?_
          have := unl_set (N := l.length) (i := i) (by omega) hsz h0
          omega
      · have hex : ∃ i, (i ∈ fl ∧ listed.getD i false = false) := by
          apply Classical.byContradiction
          intro hne
          refine hall fun i hi => ?_
          cases h : listed.getD i false
          · exact absurd ⟨i, hi, h⟩ hne
          · rfl
        obtain ⟨k, ⟨hk, hkf⟩, hkm⟩ := least hex
        obtain ⟨ok, vk, dk, hok, _⟩ := hflat k hk
        have hkm' : k < m := by have := (List.getElem?_eq_some_iff.1 hok).1; omega
        have hokl : l[k]? = some ok := by rw [← hfree k hkm']; exact hok
        have hlt : ∀ j, j ∈ Region.ready .any l.toArray listed → j < m := by
          intro j hj
          rcases Nat.lt_or_ge j m with h | h
          · exact h
          · exfalso
            obtain ⟨j0, o, hoj, hp⟩ := mem_ready.1 hj
            have hoj' : l[j]? = some o := by simpa using hoj
            have hjl : j < l.length := (List.getElem?_eq_some_iff.1 hoj').1
            have h1 := List.all_eq_true.1 htl j (List.mem_range.2 hjl)
            simp only [Bool.or_eq_true] at h1
            have hnon : ∀ t, t < j → t ∉ fl → listed.getD t false = true := fun t ht hnf => by
              rcases h1 with h1 | h1
              · have : j < m := by simpa using h1
                omega
              · have h2 := List.all_eq_true.1 h1 t (List.mem_range.2 ht)
                simp only [Bool.or_eq_true, List.contains_eq_mem, decide_eq_true_eq] at h2
                rcases h2 with h2 | h2
                · exact absurd h2 hnf
                · exact (masks_sound (ops := l.toArray) (hclosed listed hJ.closed) l [] (fun j => by simp) (fun i hi => by simp at hi)).1 j o (Nat.zero_le _) hoj hp t h2
            refine hrd ⟨k, hk, mem_ready.2 ⟨by rw [hboth k (by omega)]; exact hkf, ok, by simpa using hokl, fun e he hb => ?_⟩⟩
            have hek := hback k ok hokl e he hb
            by_cases hef : e.on ∈ fl
            · cases h : listed.getD e.on false
              · exact absurd ⟨hef, h⟩ (hkm e.on hek)
              · rfl
            · exact hnon e.on (by omega) hef
        refine ⟨fun hr => ?_, fun j hj => ?_⟩
        · exfalso
          have hex2 : ∃ t, t < l.length ∧ listed.getD t false = false := ⟨k, by omega, hkf⟩
          obtain ⟨t, ⟨ht, htf⟩, htm⟩ := least hex2
          have : t ∈ Region.ready .any l.toArray listed := mem_ready.2 ⟨by rw [hboth t ht]; exact htf, l[t], by simp, fun e he hb => by
            have hlt2 := hback t l[t] (List.getElem?_eq_getElem ht) e he hb
            cases h : listed.getD e.on false
            · exact absurd ⟨by omega, h⟩ (htm e.on hlt2)
            · rfl⟩
          rw [hr] at this; cases this
        · have hjm := hlt j hj
          obtain ⟨j0, o, hoj, hp⟩ := mem_ready.1 hj
          have hoj' : l[j]? = some o := by simpa using hoj
          refine float_op (fl := fl) (m := m) ?_
          rw [hF, ← hsplit]
          replace hJ : J W n D L M R (F.take m ++ F.drop m).toArray (F.take m) ss listed a w := by rw [hsplit]; exact hJ
          refine par_step hpb hlen hfr hlate hab hst' hJ (mem_ready.2 ⟨j0, o, ?_, hp⟩) (by omega) _ fun a' w' hJ' => ih _ _ _ (by rw [hsplit] at hJ'; exact hJ') ?_
          · rw [List.getElem?_toArray, hsplit, hlow j hjm]; exact hoj'
          · have := unl_set (N := l.length) (i := j) (by have := (List.getElem?_eq_some_iff.1 hoj').1; omega) hsz j0
            omega
theorem r_parF {id : Nat} {l : List Oper} (fl : List Nat) (m : Nat) (hml : Nat.ble m l.length = true) (hns : Region.noSelect l.toArray = true) (hbk : backB l = true) (htl : tailF fl (masks l []) m l.length = true) (hfs : freesB l fl = true)
    (hm : P.follows .mixedOrders = true) (hpb : parB ((floatL fl m l).take m) ((floatL fl m l).drop m) = true) (hfr : freshB L ((floatL fl m l).take m) = true)
    (h : ParO P W n M R (floatL fl m l).toArray (fun ss => FlOK P n L ((floatL fl m l).take m) ss fl ∧ preOf ss = [] ∧ lateX (floatL fl m l).toArray ss = true ∧ Fin W n D (wpList P (floatL fl m l).toArray (NoP Q) ((floatL fl m l).drop m)) ((floatL fl m l).take m) ss L M R) ((floatL fl m l).take m) [] L) : Imp W n D L M R ((Code.region id l.toArray true).wp P Q) := by
  have hml : m ≤ l.length := by simpa using hml
  intro a w h1 h2 h3
  refine Code.wp_mono (Q := NoP Q) (fun e a' w' he => ?_) ?_
  · cases e with
    | normal => exact he
    | _ => exact he.elim
  refine wp_region_any hm ?_
  obtain ⟨ss, hl, ⟨hsi, hpre, hlx, hfin⟩, hs⟩ := ParO.out ((floatL fl m l).take m) [] L h
  rw [List.nil_append] at hsi hpre hlx hfin
  have hLB : lateB (floatL fl m l).toArray ss 0 ss = true := by simp only [lateX, Bool.and_eq_true] at hlx; exact hlx.1
  have hlk : ∀ o ∈ (floatL fl m l).take m, look L (o.dst.getD 1000000) = none := fun o ho => by
    have := List.all_eq_true.1 hfr o ho
    simpa using this
  refine float_all hml hpb hl hlk (lateOK_of hLB) (fun k s c e1 e2 => (lateX_ab hlx k s c e1 e2).elim) (fun k o s e1 e2 => by
    have := hs k o s e1 e2
    rw [List.nil_append, List.length_nil, Nat.zero_add] at this
    exact this) hfin hsi hns hbk htl hfs _ _ _ _ ⟨?_, ?_, ?_, h1, h2, fun _ => undef, ?_, ?_⟩ ?_
  · simp [floatL_len]
  · intro j o _ hj
    rw [rep_false] at hj; cases hj
  · intro t _ ht
    have : t < l.length := by simpa [floatL_len] using ht
    simp [this]
  · intro i o s e1 _ hj
    rw [rep_false] at hj; cases hj
  · have e1 : resOf ss (Array.replicate l.toArray.size false) (fun _ => undef) ((floatL fl m l).take m).length = [] := by
      rw [← hpre, ← preOf_range, hl]
      refine flatMap_same _ _ _ fun j hj => ?_
      rw [rep_false]; rfl
    have e2 : ∀ k, fctOf ss (Array.replicate l.toArray.size false) (fun _ => undef) k = [] := by
      intro k
      unfold fctOf
      induction k with
      | zero => rfl
      | succ k ih => rw [List.range_succ, List.flatMap_append, ih, List.nil_append, List.flatMap_cons, List.flatMap_nil, List.append_nil, rep_false]; rfl
    rw [e1, e2]
    exact h3.heap rfl rfl rfl rfl
  · have := unl_tail (N := l.length) (m := 0) (listed := Array.replicate l.length false) (fun i hi => by omega)
    simpa using this
theorem p_nilF {ops : Array Oper} {F : List Spc → Prop} {G : List Spc → Prop} {P0 : List Res} {acc acc' : List Spc} (e : acc = acc') (hp : preOf acc' = P0) (hi : G acc') (h : F acc') (hl : lateX ops acc' = true := by rfl) : ParO P W n M R ops (fun ss => G ss ∧ preOf ss = P0 ∧ lateX ops ss = true ∧ F ss) [] acc L := by
  subst e
  exact ⟨hi, hp, hl, h⟩
theorem float_move {o : Oper} {x : Operand} {v : Value} (ho : o.op = .move x) (hx : ev L x = some v) : ∀ a, FSat n L a → ∀ w, (execOp a.eval o).run P w = .ok (.value v) w := fun a h w => by
  simp [execOp, ho, h.ev hx]
theorem float_add {o : Oper} {t u : TypeId} {x y : Operand} {b c : Int} (ho : o.op = .binOp .add t x y u) (hx : ev L x = some (.int .i64 b)) (hy : ev L y = some (.int .i64 c)) (h : -9223372036854775808 ≤ b + c ∧ b + c ≤ 9223372036854775807) : ∀ a, FSat n L a → ∀ w, (execOp a.eval o).run P w = .ok (.value (.int .i64 (b + c))) w := fun f h1 w => by
  simp [execOp, ho, h1.ev hx, h1.ev hy, eqGuard, binOp, Op.intArith, IntWalk.i64_in _ h]
end Go.G

namespace Go.G
variable {P : Program} {W : World} {n : Nat} {D : List Deferred} {L : Tm} {M : List Res} {R : List Fact} {Q : Exit → Act → World → Prop} {o : Oper}
end Go.G

namespace Go.G
open Go.ChangeShapes Go.RowKit Go.Deep
section
variable {H : Type} {en : TypeId × Value → H} {P : Program} {w : World} {base : Nat} {sp : Nat → Bool} {held : Bool}
theorem mapM_at {α β : Type} {f : α → Option β} : ∀ {l : List α} {r : List β}, l.mapM f = some r → r.length = l.length ∧ ∀ (j : Nat) (x : α), l[j]? = some x → f x = r[j]?
  | [], r, h => by
    simp at h; subst h; simp
  | a :: l, r, h => by
    rw [List.mapM_cons] at h
    simp only [bind, Option.bind_eq_some_iff, pure, Option.some.injEq] at h
    obtain ⟨b, hb, bs, hbs, rfl⟩ := h
    obtain ⟨h1, h2⟩ := mapM_at hbs
    refine ⟨by simp [h1], fun j x hj => ?_⟩
    cases j with
    | zero => simp at hj; subst hj; simpa using hb
    | succ j => simpa using h2 j x (by simpa using hj)
theorem cells_at {a : Addr} {n : Nat} {cs : List Value} (h : w.cells? base a n = some cs) : cs.length = n ∧ ∀ j, j < n → w.cell? (a.add j) = cs[j]? := by
  unfold World.cells? at h
  split at h
  · obtain ⟨h1, h2⟩ := mapM_at h
    exact ⟨by simpa using h1, fun j hj => h2 j j (by simp [hj])⟩
  · cases h
theorem open_rowD {α : Type} [Inhabited α] {enc : α → List Value} {sz : Nat} (ok : α → Prop) {t e : TypeId} {fuel : Nat} {cs : List Value} {x : DataW H × List MemPlace} (ht : P.underlying t = some (.slice e)) (hc : P.cellsOf e = sz) (hpos : 0 < sz)
    (hel : ∀ fuel cs x, DataW.trod en P w base sp held fuel e cs = some x → ∃ y : α, cs = enc y ∧ ok y) (h : DataW.trod en P w base sp held fuel t cs = some x) :
    ∃ (oa : Option Addr) (cap : Nat) (xs : List α), cs = [.slice oa xs.length cap] ∧ rowD oa sz enc xs (full w) ∧ (∀ y ∈ xs, ok y) ∧ xs.length ≤ maxLen := by
  rcases open_slice ht h with ⟨rfl, _⟩ | ⟨a, len, cap, m, n, D, Pl, rfl, _, hlc, hcm, hm, _, hall⟩
  · exact ⟨none, 0, [], rfl, .inl rfl, by simp, Nat.zero_le _⟩
  · have hle : len ≤ m := by rw [hm]; split <;> omega
    have hch : ∀ i, i < len → ∃ y : α, w.cells? base (a.add (i * sz)) sz = some (enc y) ∧ ok y := by
      intro i hi
      obtain ⟨cs', h1, h2⟩ := hall i (by omega)
      obtain ⟨y, rfl, hy⟩ := hel _ _ _ h2
      rw [hc] at h1
      exact ⟨y, h1, hy⟩
    obtain ⟨f, hf⟩ := choose_lt hch
    refine ⟨some a, cap, (List.range len).map f, by simp, ?_, ?_, by simp; omega⟩
    · by_cases h0 : len = 0
      · subst h0; exact .inl rfl
      · obtain ⟨c1, c2⟩ := cells_at (hf 0 (by omega)).1
        have hz := c2 0 hpos
        have hsome : ∃ v, w.cell? ((a.add (0 * sz)).add 0) = some v := ⟨(enc (f 0))[0]'(by omega), by rw [hz]; simp [show 0 < (enc (f 0)).length from by omega]⟩
        obtain ⟨v, hv⟩ := hsome
        have ha0 : (a.add (0 * sz)).add 0 = a := by simp [Addr.add]
        rw [ha0] at hv
        unfold World.cell? at hv
        split at hv
        · rename_i C T fr hb
          split at hv
          · cases hv
          · rename_i hs
            obtain ⟨b, off, spot⟩ := a
            have hsp : spot = none := by cases spot <;> simp_all
            subst hsp
            refine .inr ⟨b, off, C, T, fr, rfl, hb, fun i j hi hj => ?_⟩
            have hi' : i < len := by simpa using hi
            obtain ⟨_, d2⟩ := cells_at (hf i hi').1
            have := d2 j hj
            rw [add_at, add_at] at this
            rw [cell_of_row w b _ C T fr hb] at this
            rw [this]
            simp
        · cases hv
    · intro y hy
      obtain ⟨i, hi, rfl⟩ := List.mem_map.1 hy
      exact (hf i (by simpa using hi)).2
theorem open_i {t : TypeId} {k : IntKind} {fuel : Nat} {cs : List Value} {x : DataW H × List MemPlace} (ht : P.underlying t = some (.int k)) (h : DataW.trod en P w base sp held fuel t cs = some x) : ∃ n, cs = [.int k n] ∧ (Lit.int k n).wf = true := by
  obtain ⟨n, h1, _, h2⟩ := DataW.trod_int ht h
  exact ⟨n, h1, h2⟩
theorem open_field {t : TypeId} {fs : Array Field} {fuel : Nat} {cs : List Value} {x : DataW H × List MemPlace} (ht : P.underlying t = some (.struct fs)) (h : DataW.trod en P w base sp held fuel t cs = some x) (i : Nat) {f : Field} (hf : fs[i]? = some f) {n : Nat} (hn : P.cellsOf f.type = n) :
    ∃ fuel' y, DataW.trod en P w base sp held fuel' f.type ((cs.drop f.offset).take n) = some y := by
  obtain ⟨xs, m, _, _, _, hl, hall⟩ := DataW.trod_struct ht h
  have hi : i < xs.length := by rw [hl]; exact (Array.getElem?_eq_some_iff.1 hf).1
  have := hall i f hf
  rw [hn, List.getElem?_eq_getElem hi] at this
  exact ⟨m, _, this⟩
theorem open_len {t : TypeId} {fs : Array Field} {fuel : Nat} {cs : List Value} {x : DataW H × List MemPlace} (ht : P.underlying t = some (.struct fs)) (h : DataW.trod en P w base sp held fuel t cs = some x) : cs.length = P.cellsOf t := (DataW.trod_struct ht h).choose_spec.choose_spec.2.2.1
end
def keepF (W : World) : Fact := fun V => ∀ b o, W.heap[b]? = some o → V b = some o
theorem vw_nil (w : World) : vw [] w = full w := by funext b; simp [vw, full]
theorem St.start (W : World) {R : List Fact} (h : ∀ φ ∈ R, Mono φ ∧ φ (full W)) : St W [] R W := by
  refine ⟨rfl, rfl, rfl, [], rfl, ⟨by simp [keys], by simp⟩, fun φ hφ => ?_⟩
  obtain ⟨hm, hv⟩ := h φ hφ
  rw [vw_nil]
  exact fun V' hl => hm _ _ hv hl
theorem Mono.keep (W : World) : Mono (keepF W) := fun _ _ h hl b o ho => hl _ _ (h b o ho)
theorem keepF_self (W : World) : keepF W (full W) := fun _ _ h => h
theorem below_of {W w' : World} {M : List Res} {R : List Fact} (h : St W M (R ++ [keepF W]) w') : Below W.heap.size W w' := by
  have hk : keepF W (full w') := h.fact (List.mem_append_right _ (by simp))
  have hb : ∀ k, k < W.heap.size → w'.heap[k]? = W.heap[k]? := fun k hk' => by
    have e : W.heap[k]? = some W.heap[k] := by simp [hk']
    rw [e]; exact hk k _ e
  refine ⟨h.os, h.tape, h.output, ?_, hb⟩
  rcases Nat.eq_zero_or_pos W.heap.size with h0 | h0
  · omega
  · have := hb (W.heap.size - 1) (by omega)
    rw [show W.heap[W.heap.size - 1]? = some W.heap[W.heap.size - 1] from by simp [h0]] at this
    have := (Array.getElem?_eq_some_iff.1 this).1
    omega
theorem FnV.law {P : Program} {k : FuncId} {args : List Value} {R : List Fact} {v : Value} (h : FnV P k args R v) (W : World) (hR : ∀ φ ∈ R, Mono φ ∧ φ (full W)) : Calls P k args.toArray W fun e w' => e = .returned v ∧ Below W.heap.size W w' := by
  have hs : St W [] (R ++ [keepF W]) W := St.start W (fun φ hφ => by
    rcases List.mem_append.1 hφ with h1 | h1
    · exact hR φ h1
    · have : φ = keepF W := by simpa using h1
      subst this
      exact ⟨Mono.keep W, keepF_self W⟩)
  exact (h.calls W [] [keepF W] W hs).mono fun e w' ⟨he, hw⟩ => ⟨he, below_of hw⟩
section
variable {H : Type} {en : TypeId × Value → H} {P : Program}
theorem trodAll_stays (hl : laidOutB P = true) {W W' : World} (hb : Below W.heap.size W W') : ∀ {ts : List TypeId} {vs : List Value} {ds : List (DataW H)} {ps : List MemPlace}, (ts.all fun t => P.readableRec t && Nat.blt t P.types.size) = true →
    DataW.TrodAll en P W 0 (fun _ => true) true ts vs ds ps → (∀ p ∈ ps, p.block < W.heap.size) → ∀ sp : Nat → Bool, (∀ p ∈ ps, sp p.block = true) → DataW.TrodAll en P W' 0 sp true ts vs ds ps
  | [], vs, ds, ps, _, h, _, sp, _ => by
    obtain ⟨rfl, rfl, rfl⟩ := trodAll_nil h
    exact rfl
  | t :: ts, vs, ds, ps, ht, h, hp, sp, hsp => by
    obtain ⟨v, vs', d, ds', p, q, rfl, rfl, rfl, h1, h2⟩ := trodAll_cons h
    simp only [List.all_cons, Bool.and_eq_true] at ht
    refine ⟨p, q, ?_, trodAll_stays hl hb ht.2 h2 (fun x hx => hp x (List.mem_append_right _ hx)) sp (fun x hx => hsp x (List.mem_append_right _ hx)), rfl⟩
    exact WideElems.Trod_stays hl ht.1.1 (by simpa using ht.1.2) h1 (fun x hx => hb.same (hp x (List.mem_append_left _ hx))) (fun x hx => hsp x (List.mem_append_left _ hx))
theorem post_of_below {f : Func} {s : ChangeSpec} {W W' : World} {args : Array Value} {ds gs : List (DataW H)} {before : List MemPlace} {tb : TypeId}
    (hW : DataW.Whole en P f.params.toList s.vars false W args.toList ds gs before) (hv : s.vars = []) (hl : laidOutB P = true) (hts : (f.params.toList.all fun t => P.readableRec t && Nat.blt t P.types.size) = true)
    (hr : f.resultTypes = #[tb]) (hb : P.underlying tb = some .bool) (hs : s.fn H ds = { results := [.lit (.bool true)], args := ds, vars := [] }) (hbl : Below W.heap.size W W') : s.post en P f false true false false W args (.bool true) W' := by
  have hW0 := hW
  obtain ⟨p, q, hA, hV, hpq, hz, hn⟩ := hW
  rw [hv] at hV
  obtain ⟨rfl, rfl⟩ := trodVars_none hV
  have hbe : before = p := by simpa using hpq
  subst hbe
  have hlt : ∀ x ∈ before, x.block < W.heap.size := hW0.lt
  have hargs : ∀ sp : Nat → Bool, (∀ x ∈ before, sp x.block = true) → DataW.TrodAll en P W' 0 sp true f.params.toList args.toList ds before := fun sp hsp => trodAll_stays hl hbl hts hA hlt sp hsp
  have hres : ∀ (b : Nat) (sp : Nat → Bool) (hd : Bool), DataW.TrodAll en P W' b sp hd f.resultTypes.toList ((Value.bool true).resultList f.resultTypes.size) [.lit (.bool true)] [] := by
    intro b sp hd
    rw [hr]
    exact trodAll_mk1 (shut_bool hb true)
  have hs' : s.fn H (ds ++ []) = { results := [.lit (.bool true)], args := ds, vars := [] } := by rw [List.append_nil]; exact hs
  have hold : ∀ x ∈ before, (fun b => decide (b < W.heap.size)) x.block = true := fun x hx => by simpa using hlt x hx
  have hargs' : ∀ sp : Nat → Bool, (∀ x ∈ before, sp x.block = true) → DataW.TrodAll en P W' 0 sp true f.params.toList args.toList (s.fn H (ds ++ [])).args before := by rw [hs']; exact hargs
  have hres' : ∀ (b : Nat) (sp : Nat → Bool) (hd : Bool), DataW.TrodAll en P W' b sp hd f.resultTypes.toList ((Value.bool true).resultList f.resultTypes.size) (s.fn H (ds ++ [])).results [] := by rw [hs']; exact hres
  have hvars' : ∀ sp : Nat → Bool, DataW.TrodVars en P W' sp s.vars (s.fn H (ds ++ [])).vars [] := by intro sp; rw [hs', hv]; rfl
  refine ⟨ds, [], before, [], before, [], hW0, hres' _ _ _, hargs' _ hold, hvars' _, hbl.frame _, fun _ => ?_⟩
  refine ⟨ok_one hr rfl (okWide_bool_mk hb true), _, _, ([] ++ before) ++ [], ⟨[] ++ before, [], trodAll_append (hargs' _ (fun _ _ => rfl)) (hres' _ _ _), hvars' _, rfl, ?_, ?_⟩, ?_⟩
  · intro b off hp
    rw [hbl.frozen (hlt _ (by simpa using hp))]
    exact hz b off (by simpa using hp)
  · intro ha; cases ha
  · intro x hx _
    simpa using hx
end
end Go.G

namespace Go.G
theorem o_fnX {P : Program} {α : Type} {W : World} {n : Nat} {D : List Deferred} {L : Tm} {M M1 : List Res} {R : List Fact} {Q : Exit → Act → World → Prop} {o : Oper} {ops : Array Oper} {rest : List Oper} {k : FuncId} {args : List Value} {R0 : List Fact} {r : Res} {g : α → Value} {Pp : α → Prop} {Mr : α → Res} {Rr : α → List Fact} {xs : List Operand} {ts : Array TypeId} {d : Nat} [hM : DelC M r M1]
    (h : FnS P k args [r] R0 (fun e M' R' => ∃ x, e = .returned (g x) ∧ Pp x ∧ M' = [Mr x] ∧ R' = Rr x)) (ho : o.op = .call { callee := .value (.func k), args := xs.toArray, argTypes := ts })
    (hx : evs L xs = some args) (hg : o.guard = none) (hdst : o.dst = some d) (hd : Nat.blt d n = true) (hs : SubR R R0)
    (hret : ∀ x, Pp x → Imp W n D ((d, g x) :: L) (Mr x :: M1) (Rr x ++ R) (wpList P ops Q rest)) : Imp W n D L M R (wpList P ops Q (o :: rest)) := by
  refine o_call h ho [] [] rfl hx (by simp) hg (by simp [okD, hdst, hd]) (Mf := M1) ⟨[], by simpa using hM.del.perm⟩ hs ?_ ?_ ?_
  · rintro v M' R' ⟨x, he, hp, rfl, rfl⟩
    cases he
    rw [hdst]
    exact hret x hp
  · rintro c M' R' ⟨x, he, _⟩; cases he
  · rintro M' R' ⟨x, he, _⟩; cases he
theorem FnS.intro1 {P : Program} {n : Nat} {r : Res} {k : FuncId} {args : List Value} {R0 : List Fact} {Post : Ending → List Res → List Fact → Prop} {fn : Func} {c : Code} (he : ∀ (ag : Array Value) (w : World), (callFunc k ag).run P w = .ok (.enter k ag) w)
    (hf : P.funcs[k]? = some fn) (hb : fn.body = some c) (hn : fn.ntmps = n) (ha : Nat.ble args.length n = true)
    (h : ∀ W Mf Rf, Imp W n [] (argsL args 0) (r :: Mf) (R0 ++ Rf) (c.wp P (bodyPost P fn (RetE W Mf (R0 ++ Rf) Post)))) : FnS P k args [r] R0 Post := FnS.intro he hf hb hn ha h
theorem FnM.to {P : Program} {k : FuncId} {args : List Value} {m : Res} {R0 : List Fact} {u v : Value} (h : FnM P k args m R0 (fun x => x = u)) (e : u = v) : FnM P k args m R0 (fun x => x = v) := e ▸ h
theorem tmod_nat {a b : Nat} : ((a : Int)).tmod (b : Int) = ((a % b : Nat) : Int) := by
  rw [Int.tmod_eq_emod_of_nonneg (by omega)]; omega
theorem Imp.run {W : World} {M : List Res} {R : List Fact} {Z : World → Prop} {w : World} (h : Imp W 0 [] [] M R (fun _ w => Z w)) (hw : St W M R w) : Z w := h _ w (FSat.entry (args := []) (n := 0) (Nat.zero_le _)) rfl hw
theorem v_bSp {P : Program} {W : World} {n : Nat} {L : Tm} {M : List Res} {R : List Fact} {o : Oper} {T : TypeId} {ps : List (Nat × Operand)} {vs us : List Value} {i : TypeInfo} {z : Value} {fs : Array Field} {pl : List (Nat × Nat)} {cs : List Value} (ho : o.op = .build T ps.toArray) (hT : P.underlying T = some (.struct fs)) (hi : P.info? T = some i) (hp : plT P T = some pl) (hz : i.zero = some z)
    (hx : evs L (ps.map (·.2)) = some vs) (hk : ps.map (·.1) = List.range ps.length) (hpl : PlaceOK (fun k => pl[k]?) 0 0 vs) [hc : CatC vs cs] (hl : cs.length ≤ z.cells.size) (hu : cs ++ z.cells.toList.drop cs.length = us) : OpQ P W n L M R o (.agg us.toArray) :=
  OpQ.of_value fun g w h1 _ => by
    have hq := parts_eq h1 hx hk
    have hf0 : cs = vs.flatMap fun v => v.cells.toList := hc.cat
    obtain ⟨arr, e1, e2⟩ := fill_seq vs 0 0 z.cells hpl (by rw [← hf0]; omega)
    have hf : Instr.fill (fun k => pl[k]?) z.cells ((List.range vs.length).zip vs) = some us.toArray := by
      rw [List.range_eq_range', e1]
      congr 1
      apply Array.ext'
      rw [e2, ← hf0, ← hu]
      simp
    simp only [execOp, ho, Instr.build, Sem.run_bind, run_zeroValue' hi hz, run_underlying hT, Result.andThen_ok, plT_run hT hp w, List.map_toArray, hq]
    simp [hf]
section
variable {P : Program} {W : World} {n : Nat} {D : List Deferred} {L : Tm} {M : List Res} {R : List Fact} {o : Oper}
end
end Go.G

namespace Go.G
structure FnY (P : Program) (W : World) (k : FuncId) (args : List Value) (J0 J1 Jx : Res) (R0 Rf : List Fact) : Prop where
  enter : ∀ (ag : Array Value) (w : World), (callFunc k ag).run P w = .ok (.enter k ag) w
  calls : ∀ Mf Ri w, St W (J0 :: Mf) ((R0 ++ Ri) ++ Rf) w → Calls P k args.toArray w fun e w' => (e = .returned (.bool true) ∧ St W (J1 :: Mf) ((R0 ++ Ri) ++ Rf) w') ∨ (e = .returned (.bool false) ∧ St W (Jx :: Mf) ((R0 ++ Ri) ++ Rf) w')
def RetY (W : World) (Mf : List Res) (R : List Fact) (J1 Jx : Res) (e : Ending) (w' : World) : Prop := (e = .returned (.bool true) ∧ St W (J1 :: Mf) R w') ∨ (e = .returned (.bool false) ∧ St W (Jx :: Mf) R w')
theorem FnY.intro {P : Program} {W : World} {n : Nat} {k : FuncId} {args : List Value} {J0 J1 Jx : Res} {R0 Rf : List Fact} {fn : Func} {c : Code} (he : ∀ (ag : Array Value) (w : World), (callFunc k ag).run P w = .ok (.enter k ag) w)
    (hf : P.funcs[k]? = some fn) (hb : fn.body = some c) (hn : fn.ntmps = n) (ha : Nat.ble args.length n = true)
    (h : ∀ Mf Ri, Imp W n [] (argsL args 0) (J0 :: Mf) ((R0 ++ Ri) ++ Rf) (c.wp P (bodyPost P fn (RetY W Mf ((R0 ++ Ri) ++ Rf) J1 Jx)))) : FnY P W k args J0 J1 Jx R0 Rf := by
  refine ⟨he, fun M Ri w hw => calls_of_wp hf hb ?_⟩
  rw [hn]
  exact h M Ri _ w (FSat.entry (Nat.le_of_ble_eq_true ha)) rfl hw
section
variable {P : Program} {W : World} {n : Nat} {D : List Deferred} {L : Tm} {M : List Res} {R : List Fact} {Q : Exit → Act → World → Prop} {o : Oper}
theorem r_yes {fn : Func} {Mf : List Res} {J1 Jx : Res} {R0 : List Fact} (hr : Rd P W n L M R fn (.bool true)) (hM : SelM M (J1 :: Mf)) (hR : SubR R R0) : Imp W n [] L M R (bodyPost P fn (RetY W Mf R0 J1 Jx) .ret) :=
  fun a w h1 h2 h3 => ⟨h2, _, hr a w h1 h3, .inl ⟨rfl, (h3.sel hM).weak hR⟩⟩
theorem r_no {fn : Func} {Mf : List Res} {J1 Jx : Res} {R0 : List Fact} (hr : Rd P W n L M R fn (.bool false)) (hM : SelM M (Jx :: Mf)) (hR : SubR R R0) : Imp W n [] L M R (bodyPost P fn (RetY W Mf R0 J1 Jx) .ret) :=
  fun a w h1 h2 h3 => ⟨h2, _, hr a w h1 h3, .inr ⟨rfl, (h3.sel hM).weak hR⟩⟩
theorem o_fnY {ops : Array Oper} {rest : List Oper} {k : FuncId} {args : List Value} {J0 J1 Jx : Res} {R0 Rx Rf : List Fact} {f : Operand} {xs : List Operand} {ts : Array TypeId} {vs caps : List Value} {d : Nat} {M1 : List Res}
    (h : FnY P W k args J0 J1 Jx R0 Rf) (ho : o.op = .call { callee := .value f, args := xs.toArray, argTypes := ts }) (hf : ev L f = some (.func (.func k) #[] caps.toArray))
    (hx : evs L xs = some vs) (ha : vs ++ caps = args) (hg : o.guard = none) (hdst : o.dst = some d) (hd : Nat.blt d n = true) (hs : SubR Rx R0) [hM : DelC M J0 M1]
    (h1 : Imp W n D ((d, .bool true) :: L) (J1 :: M1) (Rx ++ Rf) (wpList P ops Q rest)) (h2 : Imp W n D ((d, .bool false) :: L) (Jx :: M1) (Rx ++ Rf) (wpList P ops Q rest)) : Imp W n D L M (Rx ++ Rf) (wpList P ops Q (o :: rest)) := by
  intro a w g1 g2 g3
  refine wpList_plain hg fun K hK => ?_
  unfold Oper.wp
  rw [exec_call [] caps ho (by simpa using g1.ev hf) (g1.evs hx) h.enter, List.nil_append, ha]
  have g4 : St W (J0 :: M1) ((R0 ++ Rx) ++ Rf) w := (g3.perm hM.del.perm).weak (fun φ hφ => by
    rcases List.mem_append.1 hφ with hφ | hφ
    · rcases List.mem_append.1 hφ with hφ | hφ
      · exact List.mem_append_left _ (hs φ hφ)
      · exact List.mem_append_left _ hφ
    · exact List.mem_append_right _ hφ)
  refine (h.calls M1 Rx w g4).mono ?_
  have wk : ∀ {w' : World} {M' : List Res}, St W M' ((R0 ++ Rx) ++ Rf) w' → St W M' (Rx ++ Rf) w' := fun hw => hw.weak (fun φ hφ => by
    rcases List.mem_append.1 hφ with hφ | hφ
    · exact List.mem_append_left _ (List.mem_append_right _ hφ)
    · exact List.mem_append_right _ hφ)
  rintro e w' (⟨rfl, hw⟩ | ⟨rfl, hw⟩)
  · show K (a.put o.dst _) w'
    rw [hdst]
    exact hK _ _ (h1 _ w' (g1.put (by simpa using hd) _) (by rw [put_defers]; exact g2) (wk hw))
  · show K (a.put o.dst _) w'
    rw [hdst]
    exact hK _ _ (h2 _ w' (g1.put (by simpa using hd) _) (by rw [put_defers]; exact g2) (wk hw))
def jxR (Jx : Nat → Res) (N : Nat) : Res := exR fun i : { i : Nat // i ≤ N ∧ 1 ≤ i } => [Jx i.1]
theorem Imp.jx_pk {Jx : Nat → Res} {N i : Nat} {X : Act → World → Prop} {M' : List Res} [hM : DelC M (Jx i) M'] (hi : i ≤ N ∧ 1 ≤ i) (h : Imp W n D L (jxR Jx N :: M') R X) : Imp W n D L M R X :=
  fun a w h1 h2 h3 => h a w h1 h2 (St.pk (N := fun i : { i : Nat // i ≤ N ∧ 1 ≤ i } => [Jx i.1]) ⟨i, hi⟩ (h3.perm hM.del.perm))
theorem r_retseqJ {fn : Func} {J Jx : Nat → Res} {N : Nat} {R0 : List Fact} {v : Value} (hr : ∀ i, Rd P W n L [Jx i] R fn v) (hM : SelM M [jxR Jx N]) (hR : SubR R R0) : Imp W n [] L M R (bodyPost P fn (RetSeq W J Jx N R0) .normal) := by
  intro a w h1 h2 h3
  obtain ⟨i, h4⟩ := St.unpk (h3.sel hM)
  exact ⟨h2, v, hr i.1 a w h1 h4, ⟨v, rfl⟩, .inr ⟨i.1, i.2.1, i.2.2, h4.weak hR⟩⟩
end
end Go.G

namespace Go.G
theorem v_sliceL {P : Program} {W : World} {n : Nat} {L : Tm} {M : List Res} {R : List Fact} {o : Oper} {T : TypeId} {x : Operand} {y : Operand} {b off h l c : Nat} {e : TypeId} {i : TypeInfo} (ho : o.op = .slice T x (some y) none none) (hT : P.underlying T = some (.slice e)) (hi : P.info? e = some i) (hx : ev L x = some (.slice (some ⟨b, off, none⟩) l c)) (hy : ev L y = some (.int .i64 (h : Int))) (hh : h ≤ l) (hn : h < c) :
    OpQ P W n L M R o (.slice (some ⟨b, off + h * i.size, none⟩) (l - h) (c - h)) :=
  OpQ.of_value fun f w h1 _ => by
    have e0 := h1.ev hx
    have e1 := h1.ev hy
    have this : ∀ ρ : Operand → Value, ρ x = .slice (some ⟨b, off, none⟩) l c → ρ y = .int .i64 (h : Int) → (execOp ρ o).run P w = .ok (.value (.slice (some ⟨b, off + h * i.size, none⟩) (l - h) (c - h))) w := by
      intro ρ e0 e1
      simp [execOp, ho, e0, e1, Instr.sliceAt, Instr.slice, run_underlying hT, Instr.sliceBounds, Instr.sliceBound, asIntOf, hh, run_sizeOf' hi, Addr.add]
      rw [if_neg (by omega)]
      congr 1
      split
      · rename_i hz; rw [hz]; rfl
      · rfl
    exact this _ e0 e1
end Go.G
