/- Part 2 of 4 of what the proofs of this seat stand on: a small logic for walks, what the functions come to, and the walks themselves. No condition of its own. -/
import Derived.Test.YtienjlmnakbfmaaY1
import Derived.DeepKeys5
import Derived.WideKeyMaps
set_option linter.unusedVariables false
set_option linter.unusedSimpArgs false
namespace Go.Proofs.Ytienjlmnakbfmaa
open Go.G Foot4
set_option maxRecDepth 1000000
attribute [local irreducible] G.ParO G.Fin
set_option maxHeartbeats 4000000 in
theorem in_v (a b c : Int) : FnV Try.prog 79 [i64 a, i64 b, i64 c] [] (.bool (decide (b ≤ a ∧ a ≤ c))) := by
  refine FnV.intro Try.call79 Try.func79 rfl Try.ntmps79 rfl ?_
  intro W M Rf
  refine r_seq ?_
  refine r_region ?_
  refine o_q _ rfl rfl rfl (v_assign rfl rfl) ?_
  refine o_nil ?_
  with_reducible refine r_then ?_
  refine r_seq ?_
  refine r_region ?_
  refine o_q _ rfl rfl rfl (v_move rfl rfl) ?_
  refine o_q _ rfl rfl rfl (v_move rfl rfl) ?_
  refine o_test rfl rfl rfl (v_leq rfl rfl rfl) (fun h9 => ?_) (fun h9 => ?_)
  all_goals
    refine o_q _ rfl rfl rfl (v_move rfl rfl) ?_
    first | refine o_gn rfl rfl rfl rfl ?_ | refine o_g _ rfl rfl rfl rfl (v_move rfl rfl) ?_
    first | refine o_gn rfl rfl rfl rfl ?_ | refine o_g _ rfl rfl rfl rfl (v_move rfl rfl) ?_
    first | refine o_gn rfl rfl rfl rfl ?_ | refine o_gtest rfl rfl rfl rfl (v_leq rfl rfl rfl) (fun h13 => ?_) (fun h13 => ?_)
    all_goals
      first | refine o_q _ rfl rfl rfl (v_pick_t rfl rfl rfl) ?_ | refine o_q _ rfl rfl rfl (v_pick_f rfl rfl rfl) ?_
      refine o_q _ rfl rfl rfl (v_assign rfl rfl) ?_
      refine o_nil ?_
      with_reducible refine r_then ?_
      refine r_ret ?_
      first | exact r_retv2 (Rd.tmp rfl rfl) (congrArg Value.bool (decide_eq_true (by omega)).symm) SelMC.sel SubRC.sub | exact r_retv2 (Rd.tmp rfl rfl) (congrArg Value.bool (decide_eq_false (by omega)).symm) SelMC.sel SubRC.sub
set_option maxHeartbeats 4000000 in
theorem span_v (lo hi a b : Int) : FnV Try.prog 80 [.agg #[i64 lo, i64 hi], i64 a, i64 b] [] (.bool (decide (a ≤ lo ∧ lo ≤ hi ∧ hi ≤ b))) := by
  refine FnV.intro Try.call80 Try.func80 rfl Try.ntmps80 rfl ?_
  intro W M Rf
  refine r_seq ?_
  refine r_region ?_
  refine o_boxA rfl rfl rfl rfl rfl (fun b3 => ?_)
  refine o_q _ rfl rfl rfl (v_assign rfl rfl) ?_
  refine o_nil ?_
  with_reducible refine r_then ?_
  refine r_seq ?_
  refine r_region ?_
  refine o_q _ rfl rfl rfl (v_move rfl rfl) ?_
  refine o_q _ rfl rfl rfl (v_fieldAddr rfl Try.underlying31 inf3 rfl rfl rfl rfl) ?_
  refine o_q _ rfl rfl rfl (v_ld1 rfl Try.underlying3 rfl rfl rfl) ?_
  refine o_test rfl rfl rfl (v_leq rfl rfl rfl) (fun h10 => ?_) (fun h10 => ?_)
  all_goals
    refine o_q _ rfl rfl rfl (v_move rfl rfl) ?_
    first | refine o_gn rfl rfl rfl rfl ?_ | refine o_g _ rfl rfl rfl rfl (v_fieldAddr rfl Try.underlying31 inf3 rfl rfl rfl rfl) ?_
    first | refine o_gn rfl rfl rfl rfl ?_ | refine o_g _ rfl rfl rfl rfl (v_ld1 rfl Try.underlying3 rfl rfl rfl) ?_
    first | refine o_gn rfl rfl rfl rfl ?_ | refine o_g _ rfl rfl rfl rfl (v_fieldAddr rfl Try.underlying31 inf3 rfl rfl rfl rfl) ?_
    first | refine o_gn rfl rfl rfl rfl ?_ | refine o_g _ rfl rfl rfl rfl (v_ld1 rfl Try.underlying3 rfl rfl rfl) ?_
    first | refine o_gn rfl rfl rfl rfl ?_ | refine o_gtest rfl rfl rfl rfl (v_leq rfl rfl rfl) (fun h16 => ?_) (fun h16 => ?_)
    all_goals
      first | refine o_q _ rfl rfl rfl (v_pick_t rfl rfl rfl) ?_ | refine o_q _ rfl rfl rfl (v_pick_f rfl rfl rfl) ?_
      refine o_q _ rfl rfl rfl (v_move rfl rfl) ?_
      first | refine o_gn rfl rfl rfl rfl ?_ | refine o_g _ rfl rfl rfl rfl (v_fieldAddr rfl Try.underlying31 inf3 rfl rfl rfl rfl) ?_
      first | refine o_gn rfl rfl rfl rfl ?_ | refine o_g _ rfl rfl rfl rfl (v_ld1 rfl Try.underlying3 rfl rfl rfl) ?_
      first | refine o_gn rfl rfl rfl rfl ?_ | refine o_g _ rfl rfl rfl rfl (v_move rfl rfl) ?_
      first | refine o_gn rfl rfl rfl rfl ?_ | refine o_gtest rfl rfl rfl rfl (v_leq rfl rfl rfl) (fun h22 => ?_) (fun h22 => ?_)
      all_goals
        first | refine o_q _ rfl rfl rfl (v_pick_t rfl rfl rfl) ?_ | refine o_q _ rfl rfl rfl (v_pick_f rfl rfl rfl) ?_
        refine o_q _ rfl rfl rfl (v_assign rfl rfl) ?_
        refine o_nil ?_
        with_reducible refine r_then ?_
        refine r_ret ?_
        first | exact r_retv2 (Rd.tmp rfl rfl) (congrArg Value.bool (decide_eq_true (by omega)).symm) SelMC.sel SubRC.sub | exact r_retv2 (Rd.tmp rfl rfl) (congrArg Value.bool (decide_eq_false (by omega)).symm) SelMC.sel SubRC.sub
set_option maxHeartbeats 4000000 in
theorem Foot_v (F : Work) (ro ho : Option Addr) (rc hc : Nat) (hr : F.rain.length ≤ 40) (hh : F.heaps.length ≤ 40) : FnV Try.prog 39 [valF F ro rc ho hc] [rowD ro 2 encS F.rain, rowD ho 3 encH F.heaps] (.bool (decide (GoodF F))) := by
  refine FnV.intro Try.call39 Try.func39 rfl Try.ntmps39 rfl ?_
  intro W M Rf
  refine r_seq ?_
  refine r_region ?_
  refine o_boxA rfl rfl rfl rfl rfl (fun b1 => ?_)
  refine o_q _ rfl rfl rfl (v_assign rfl rfl) ?_
  refine o_nil ?_
  with_reducible refine r_then ?_
  refine r_seq ?_
  refine r_seq ?_
  refine r_region ?_
  refine o_q _ rfl rfl rfl (v_fieldAddr rfl Try.underlying26 inf22 rfl rfl rfl rfl) ?_
  refine o_q _ rfl rfl rfl (v_ld1 rfl Try.underlying22 rfl rfl rfl) ?_
  refine o_q _ rfl rfl rfl (v_len rfl rfl Try.underlying22 rfl) ?_
  refine o_test rfl rfl rfl (OpQ.fn (in_v _ _ _) rfl rfl SubRC.sub) (fun h9 => ?_) (fun h9 => ?_)
  all_goals
    refine o_q _ rfl rfl rfl (v_not rfl rfl) ?_
    refine o_q _ rfl rfl rfl (v_move rfl rfl) ?_
    first | refine o_gn rfl rfl rfl rfl ?_ | refine o_g _ rfl rfl rfl rfl (v_fieldAddr rfl Try.underlying26 inf3 rfl rfl rfl rfl) ?_
    first | refine o_gn rfl rfl rfl rfl ?_ | refine o_g _ rfl rfl rfl rfl (v_ld1 rfl Try.underlying3 rfl rfl rfl) ?_
    first | refine o_gn rfl rfl rfl rfl ?_ | refine o_gtest rfl rfl rfl rfl (OpQ.fn (in_v _ _ _) rfl rfl SubRC.sub) (fun h14 => ?_) (fun h14 => ?_)
    all_goals
      first | refine o_gn rfl rfl rfl rfl ?_ | refine o_g _ rfl rfl rfl rfl (v_not rfl rfl) ?_
      first | refine o_q _ rfl rfl rfl (v_pick_t rfl rfl rfl) ?_ | refine o_q _ rfl rfl rfl (v_pick_f rfl rfl rfl) ?_
      refine o_q _ rfl rfl rfl (v_move rfl rfl) ?_
      first | refine o_gn rfl rfl rfl rfl ?_ | refine o_g _ rfl rfl rfl rfl (v_fieldAddr rfl Try.underlying26 inf24 rfl rfl rfl rfl) ?_
      first | refine o_gn rfl rfl rfl rfl ?_ | refine o_g _ rfl rfl rfl rfl (v_ld1 rfl Try.underlying24 rfl rfl rfl) ?_
      first | refine o_gn rfl rfl rfl rfl ?_ | refine o_g _ rfl rfl rfl rfl (v_len rfl rfl Try.underlying24 rfl) ?_
      first | refine o_gn rfl rfl rfl rfl ?_ | refine o_gtest rfl rfl rfl rfl (v_gtr rfl rfl rfl) (fun h21 => ?_) (fun h21 => ?_)
      all_goals
        first | refine o_q _ rfl rfl rfl (v_pick_t rfl rfl rfl) ?_ | refine o_q _ rfl rfl rfl (v_pick_f rfl rfl rfl) ?_
        refine o_nil ?_
        with_reducible refine r_then ?_
        refine r_cond rfl (fun hc22 => ?_) (fun hc22 => ?_)
        ·
          first
          | (exfalso; revert hc22; decide)
          | skip
            refine r_seq ?_
            refine r_region ?_
            refine o_q _ rfl rfl rfl (v_assign rfl rfl) ?_
            refine o_nil ?_
            with_reducible refine r_then ?_
            refine r_ret ?_
            with_reducible refine r_then_ret ?_
            exact r_retv2 (Rd.tmp rfl rfl) (congrArg Value.bool (decide_eq_false (by intro g; obtain ⟨g1, g2, g3, g4, g5, g6⟩ := g; first | omega | (have g9 := g4 k1 (by omega); omega) | (have g9 := g5 k2 (by omega); omega) | (have g9 := g6 k3 (by omega); omega))).symm) SelMC.sel SubRC.sub
        ·
          first
          | (exfalso; revert hc22; decide)
          | skip
            refine r_skip ?_
            with_reducible refine r_then ?_
            refine r_seq ?_
            refine r_seq ?_
            refine r_region ?_
            refine o_q _ rfl rfl rfl (v_assign rfl rfl) ?_
            refine o_nil ?_
            with_reducible refine r_then ?_
            refine r_block ?_
            refine r_loop (ι := Nat) (fun k1 => k1 ≤ F.rain.length ∧ ∀ j, j < k1 → SpanOk (F.rain.getD j default) 10) (fun k1 => [(1, pt b1 0), (3, i64 k1)]) (fun k1 => bx b1 26 (cellsF F ro rc ho hc) :: M) (fun k1 => [rowD ro 2 encS F.rain, rowD ho 3 encH F.heaps] ++ Rf) (fun k1 => F.rain.length - k1) 0 ?_ ?_ ?_
            ·
              exact r_here (by repeat (first | exact FSub.nil | refine FSub.cons rfl ?_)) SelMC.sel SubRC.sub
            ·
              exact ⟨by omega, fun j hj => absurd hj (by omega)⟩
            ·
              rintro k1 hI0
              refine r_seq ?_
              refine r_seq ?_
              refine r_region ?_
              refine o_q _ rfl rfl rfl (v_move rfl rfl) ?_
              refine o_q _ rfl rfl rfl (v_fieldAddr rfl Try.underlying26 inf22 rfl rfl rfl rfl) ?_
              refine o_q _ rfl rfl rfl (v_ld1 rfl Try.underlying22 rfl rfl rfl) ?_
              refine o_q _ rfl rfl rfl (v_len rfl rfl Try.underlying22 rfl) ?_
              refine o_q _ rfl rfl rfl (v_lss rfl rfl rfl) ?_
              refine o_nil ?_
              with_reducible refine r_then ?_
              refine r_condd rfl (fun hc27 => ?_) (fun hc27 => ?_)
              ·
                refine r_skip ?_
                with_reducible refine r_then ?_
                refine r_seq ?_
                refine r_block ?_
                refine r_seq ?_
                refine r_region ?_
                refine o_q _ rfl rfl rfl (v_fieldAddr rfl Try.underlying26 inf22 rfl rfl rfl rfl) ?_
                refine o_q _ rfl rfl rfl (v_ld1 rfl Try.underlying22 rfl rfl rfl) ?_
                refine o_q _ rfl rfl rfl (v_move rfl rfl) ?_
                refine o_q _ rfl rfl rfl (v_indexAddrSn rfl Try.underlying22 inf31 rfl rfl rfl (by omega) rfl) ?_
                refine o_q _ rfl rfl rfl (v_loadEN rfl Try.underlying31 rfl inf31 rfl (by omega) rfl rfl rfl) ?_
                refine o_test rfl rfl rfl (OpQ.fn (span_v _ _ _ _) rfl rfl SubRC.sub) (fun h35 => ?_) (fun h35 => ?_)
                all_goals
                  refine o_q _ rfl rfl rfl (v_not rfl rfl) ?_
                  refine o_nil ?_
                  with_reducible refine r_then ?_
                  refine r_cond rfl (fun hc36 => ?_) (fun hc36 => ?_)
                  ·
                    first
                    | (exfalso; revert hc36; decide)
                    | skip
                      refine r_seq ?_
                      refine r_region ?_
                      refine o_q _ rfl rfl rfl (v_assign rfl rfl) ?_
                      refine o_nil ?_
                      with_reducible refine r_then ?_
                      refine r_ret ?_
                      with_reducible refine r_in_ret ?_; refine r_then_ret ?_; refine r_then_ret ?_; refine r_in_ret ?_; refine r_then_ret ?_
                      exact r_retv2 (Rd.tmp rfl rfl) (congrArg Value.bool (decide_eq_false (by intro g; obtain ⟨g1, g2, g3, g4, g5, g6⟩ := g; first | omega | (have g9 := g4 k1 (by omega); omega) | (have g9 := g5 k2 (by omega); omega) | (have g9 := g6 k3 (by omega); omega))).symm) SelMC.sel SubRC.sub
                  ·
                    first
                    | (exfalso; revert hc36; decide)
                    | skip
                      refine r_skip ?_
                      with_reducible refine r_in_normal ?_; refine r_then ?_
                      refine r_region ?_
                      refine o_q _ rfl rfl rfl (v_move rfl rfl) ?_
                      refine o_q _ rfl rfl rfl (v_add rfl rfl rfl (by omega)) ?_
                      refine o_q _ rfl rfl rfl (v_assign rfl rfl) ?_
                      refine o_nil ?_
                      with_reducible refine r_then ?_
                      refine r_next (k1 + 1) ?_ ?_ ?_
                      ·
                        exact r_here (by repeat (first | exact FSub.nil | refine FSub.cons rfl ?_)) SelMC.sel SubRC.sub
                      ·
                        exact ⟨by omega, all_step hI0.2 (by assumption)⟩
                      ·
                        omega
              ·
                refine r_exit ?_
                with_reducible refine r_then_exit ?_; refine r_then_exit ?_; refine r_in_here ?_; refine r_then ?_
                refine r_seq ?_
                refine r_seq ?_
                refine r_region ?_
                refine o_q _ rfl rfl rfl (v_assign rfl rfl) ?_
                refine o_nil ?_
                with_reducible refine r_then ?_
                refine r_block ?_
                refine r_loop (ι := Nat) (fun k2 => k2 ≤ 3 ∧ ∀ j, j < k2 → (0 ≤ F.lim.at j ∧ F.lim.at j ≤ 60) ∧ (0 ≤ F.dr.at j ∧ F.dr.at j ≤ 10)) (fun k2 => [(1, pt b1 0), (4, i64 k2)]) (fun k2 => bx b1 26 (cellsF F ro rc ho hc) :: M) (fun k2 => [rowD ro 2 encS F.rain, rowD ho 3 encH F.heaps] ++ Rf) (fun k2 => 3 - k2) 0 ?_ ?_ ?_
                ·
                  exact r_here (by repeat (first | exact FSub.nil | refine FSub.cons rfl ?_)) SelMC.sel SubRC.sub
                ·
                  exact ⟨by omega, fun j hj => absurd hj (by omega)⟩
                ·
                  rintro k2 hI1
                  refine r_seq ?_
                  refine r_seq ?_
                  refine r_region ?_
                  refine o_q _ rfl rfl rfl (v_move rfl rfl) ?_
                  refine o_q _ rfl rfl rfl (v_lss rfl rfl rfl) ?_
                  refine o_nil ?_
                  with_reducible refine r_then ?_
                  refine r_condd rfl (fun hc38 => ?_) (fun hc38 => ?_)
                  ·
                    refine r_skip ?_
                    with_reducible refine r_then ?_
                    refine r_seq ?_
                    refine r_block ?_
                    refine r_seq ?_
                    refine r_region ?_
                    refine o_q _ rfl rfl rfl (v_move rfl rfl) ?_
                    refine o_q _ rfl rfl rfl (v_fieldAddr rfl Try.underlying26 inf23 rfl rfl rfl rfl) ?_
                    refine o_q _ rfl rfl rfl (v_indexAddrAn rfl Try.underlying23 inf3 rfl rfl (by omega)) ?_
                    refine o_q _ rfl rfl rfl (v_ld1 rfl Try.underlying3 rfl rfl (F_limn (by omega))) ?_
                    refine o_test rfl rfl rfl (OpQ.fn (in_v _ _ _) rfl rfl SubRC.sub) (fun h45 => ?_) (fun h45 => ?_)
                    all_goals
                      refine o_q _ rfl rfl rfl (v_not rfl rfl) ?_
                      refine o_q _ rfl rfl rfl (v_move rfl rfl) ?_
                      first | refine o_gn rfl rfl rfl rfl ?_ | refine o_g _ rfl rfl rfl rfl (v_move rfl rfl) ?_
                      first | refine o_gn rfl rfl rfl rfl ?_ | refine o_g _ rfl rfl rfl rfl (v_fieldAddr rfl Try.underlying26 inf23 rfl rfl rfl rfl) ?_
                      first | refine o_gn rfl rfl rfl rfl ?_ | refine o_g _ rfl rfl rfl rfl (v_indexAddrAn rfl Try.underlying23 inf3 rfl rfl (by omega)) ?_
                      first | refine o_gn rfl rfl rfl rfl ?_ | refine o_g _ rfl rfl rfl rfl (v_ld1 rfl Try.underlying3 rfl rfl (F_drn (by omega))) ?_
                      first | refine o_gn rfl rfl rfl rfl ?_ | refine o_gtest rfl rfl rfl rfl (OpQ.fn (in_v _ _ _) rfl rfl SubRC.sub) (fun h52 => ?_) (fun h52 => ?_)
                      all_goals
                        first | refine o_gn rfl rfl rfl rfl ?_ | refine o_g _ rfl rfl rfl rfl (v_not rfl rfl) ?_
                        first | refine o_q _ rfl rfl rfl (v_pick_t rfl rfl rfl) ?_ | refine o_q _ rfl rfl rfl (v_pick_f rfl rfl rfl) ?_
                        refine o_nil ?_
                        with_reducible refine r_then ?_
                        refine r_cond rfl (fun hc54 => ?_) (fun hc54 => ?_)
                        ·
                          first
                          | (exfalso; revert hc54; decide)
                          | skip
                            refine r_seq ?_
                            refine r_region ?_
                            refine o_q _ rfl rfl rfl (v_assign rfl rfl) ?_
                            refine o_nil ?_
                            with_reducible refine r_then ?_
                            refine r_ret ?_
                            with_reducible refine r_in_ret ?_; refine r_then_ret ?_; refine r_then_ret ?_; refine r_in_ret ?_; refine r_then_ret ?_
                            exact r_retv2 (Rd.tmp rfl rfl) (congrArg Value.bool (decide_eq_false (by intro g; obtain ⟨g1, g2, g3, g4, g5, g6⟩ := g; first | omega | (have g9 := g4 k1 (by omega); omega) | (have g9 := g5 k2 (by omega); omega) | (have g9 := g6 k3 (by omega); omega))).symm) SelMC.sel SubRC.sub
                        ·
                          first
                          | (exfalso; revert hc54; decide)
                          | skip
                            refine r_skip ?_
                            with_reducible refine r_in_normal ?_; refine r_then ?_
                            refine r_region ?_
                            refine o_q _ rfl rfl rfl (v_move rfl rfl) ?_
                            refine o_q _ rfl rfl rfl (v_add rfl rfl rfl (by omega)) ?_
                            refine o_q _ rfl rfl rfl (v_assign rfl rfl) ?_
                            refine o_nil ?_
                            with_reducible refine r_then ?_
                            refine r_next (k2 + 1) ?_ ?_ ?_
                            ·
                              exact r_here (by repeat (first | exact FSub.nil | refine FSub.cons rfl ?_)) SelMC.sel SubRC.sub
                            ·
                              exact ⟨by omega, all_step hI1.2 ⟨by assumption, by assumption⟩⟩
                            ·
                              omega
                  ·
                    refine r_exit ?_
                    with_reducible refine r_then_exit ?_; refine r_then_exit ?_; refine r_in_here ?_; refine r_then ?_
                    refine r_seq ?_
                    refine r_seq ?_
                    refine r_region ?_
                    refine o_q _ rfl rfl rfl (v_assign rfl rfl) ?_
                    refine o_nil ?_
                    with_reducible refine r_then ?_
                    refine r_block ?_
                    refine r_loop (ι := Nat) (fun k3 => k3 ≤ F.heaps.length ∧ ∀ j, j < k3 → (0 ≤ (F.heaps.getD j default).lo ∧ (F.heaps.getD j default).lo ≤ (F.heaps.getD j default).hi ∧ (F.heaps.getD j default).hi ≤ 60) ∧ (0 ≤ (F.heaps.getD j default).sods ∧ (F.heaps.getD j default).sods ≤ 500)) (fun k3 => [(1, pt b1 0), (5, i64 k3)]) (fun k3 => bx b1 26 (cellsF F ro rc ho hc) :: M) (fun k3 => [rowD ro 2 encS F.rain, rowD ho 3 encH F.heaps] ++ Rf) (fun k3 => F.heaps.length - k3) 0 ?_ ?_ ?_
                    ·
                      exact r_here (by repeat (first | exact FSub.nil | refine FSub.cons rfl ?_)) SelMC.sel SubRC.sub
                    ·
                      exact ⟨by omega, fun j hj => absurd hj (by omega)⟩
                    ·
                      rintro k3 hI2
                      refine r_seq ?_
                      refine r_seq ?_
                      refine r_region ?_
                      refine o_q _ rfl rfl rfl (v_move rfl rfl) ?_
                      refine o_q _ rfl rfl rfl (v_fieldAddr rfl Try.underlying26 inf24 rfl rfl rfl rfl) ?_
                      refine o_q _ rfl rfl rfl (v_ld1 rfl Try.underlying24 rfl rfl rfl) ?_
                      refine o_q _ rfl rfl rfl (v_len rfl rfl Try.underlying24 rfl) ?_
                      refine o_q _ rfl rfl rfl (v_lss rfl rfl rfl) ?_
                      refine o_nil ?_
                      with_reducible refine r_then ?_
                      refine r_condd rfl (fun hc59 => ?_) (fun hc59 => ?_)
                      ·
                        refine r_skip ?_
                        with_reducible refine r_then ?_
                        refine r_seq ?_
                        refine r_block ?_
                        refine r_seq ?_
                        refine r_region ?_
                        refine o_q _ rfl rfl rfl (v_fieldAddr rfl Try.underlying26 inf24 rfl rfl rfl rfl) ?_
                        refine o_q _ rfl rfl rfl (v_ld1 rfl Try.underlying24 rfl rfl rfl) ?_
                        refine o_q _ rfl rfl rfl (v_move rfl rfl) ?_
                        refine o_q _ rfl rfl rfl (v_indexAddrSn rfl Try.underlying24 inf73 rfl rfl rfl (by omega) rfl) ?_
                        refine o_q _ rfl rfl rfl (v_fieldAddr rfl Try.underlying73 inf31 rfl rfl rfl rfl) ?_
                        refine o_q _ rfl rfl rfl (v_loadEN rfl Try.underlying31 rfl inf31 rfl (by omega) rfl rfl rfl) ?_
                        refine o_test rfl rfl rfl (OpQ.fn (span_v _ _ _ _) rfl rfl SubRC.sub) (fun h68 => ?_) (fun h68 => ?_)
                        all_goals
                          refine o_q _ rfl rfl rfl (v_not rfl rfl) ?_
                          refine o_q _ rfl rfl rfl (v_move rfl rfl) ?_
                          first | refine o_gn rfl rfl rfl rfl ?_ | refine o_g _ rfl rfl rfl rfl (v_fieldAddr rfl Try.underlying26 inf24 rfl rfl rfl rfl) ?_
                          first | refine o_gn rfl rfl rfl rfl ?_ | refine o_g _ rfl rfl rfl rfl (v_ld1 rfl Try.underlying24 rfl rfl rfl) ?_
                          first | refine o_gn rfl rfl rfl rfl ?_ | refine o_g _ rfl rfl rfl rfl (v_move rfl rfl) ?_
                          first | refine o_gn rfl rfl rfl rfl ?_ | refine o_g _ rfl rfl rfl rfl (v_indexAddrSn rfl Try.underlying24 inf73 rfl rfl rfl (by omega) rfl) ?_
                          first | refine o_gn rfl rfl rfl rfl ?_ | refine o_g _ rfl rfl rfl rfl (v_fieldAddr rfl Try.underlying73 inf3 rfl rfl rfl rfl) ?_
                          first | refine o_gn rfl rfl rfl rfl ?_ | refine o_g _ rfl rfl rfl rfl (v_loadE1 rfl Try.underlying3 rfl rfl (by omega) rfl rfl) ?_
                          first | refine o_gn rfl rfl rfl rfl ?_ | refine o_gtest rfl rfl rfl rfl (OpQ.fn (in_v _ _ _) rfl rfl SubRC.sub) (fun h77 => ?_) (fun h77 => ?_)
                          all_goals
                            first | refine o_gn rfl rfl rfl rfl ?_ | refine o_g _ rfl rfl rfl rfl (v_not rfl rfl) ?_
                            first | refine o_q _ rfl rfl rfl (v_pick_t rfl rfl rfl) ?_ | refine o_q _ rfl rfl rfl (v_pick_f rfl rfl rfl) ?_
                            refine o_nil ?_
                            with_reducible refine r_then ?_
                            refine r_cond rfl (fun hc79 => ?_) (fun hc79 => ?_)
                            ·
                              first
                              | (exfalso; revert hc79; decide)
                              | skip
                                refine r_seq ?_
                                refine r_region ?_
                                refine o_q _ rfl rfl rfl (v_assign rfl rfl) ?_
                                refine o_nil ?_
                                with_reducible refine r_then ?_
                                refine r_ret ?_
                                with_reducible refine r_in_ret ?_; refine r_then_ret ?_; refine r_then_ret ?_; refine r_in_ret ?_; refine r_then_ret ?_
                                exact r_retv2 (Rd.tmp rfl rfl) (congrArg Value.bool (decide_eq_false (by intro g; obtain ⟨g1, g2, g3, g4, g5, g6⟩ := g; first | omega | (have g9 := g4 k1 (by omega); omega) | (have g9 := g5 k2 (by omega); omega) | (have g9 := g6 k3 (by omega); omega))).symm) SelMC.sel SubRC.sub
                            ·
                              first
                              | (exfalso; revert hc79; decide)
                              | skip
                                refine r_skip ?_
                                with_reducible refine r_in_normal ?_; refine r_then ?_
                                refine r_region ?_
                                refine o_q _ rfl rfl rfl (v_move rfl rfl) ?_
                                refine o_q _ rfl rfl rfl (v_add rfl rfl rfl (by omega)) ?_
                                refine o_q _ rfl rfl rfl (v_assign rfl rfl) ?_
                                refine o_nil ?_
                                with_reducible refine r_then ?_
                                refine r_next (k3 + 1) ?_ ?_ ?_
                                ·
                                  exact r_here (by repeat (first | exact FSub.nil | refine FSub.cons rfl ?_)) SelMC.sel SubRC.sub
                                ·
                                  exact ⟨by omega, all_step hI2.2 ⟨by assumption, by assumption⟩⟩
                                ·
                                  omega
                      ·
                        refine r_exit ?_
                        with_reducible refine r_then_exit ?_; refine r_then_exit ?_; refine r_in_here ?_; refine r_then ?_
                        refine r_seq ?_
                        refine r_region ?_
                        refine o_q _ rfl rfl rfl (v_assign rfl rfl) ?_
                        refine o_nil ?_
                        with_reducible refine r_then ?_
                        refine r_ret ?_
                        exact r_retv2 (Rd.tmp rfl rfl) (congrArg Value.bool (decide_eq_true (by exact ⟨by omega, by omega, by omega, fun j hj => hI0.2 j (by omega), fun j hj => hI1.2 j (by omega), fun j hj => hI2.2 j (by omega)⟩)).symm) SelMC.sel SubRC.sub
end Go.Proofs.Ytienjlmnakbfmaa


namespace Go.Proofs.Ytienjlmnakbfmaa
open Go.G Foot4
set_option maxRecDepth 1000000
attribute [local irreducible] G.ParO G.Fin
set_option maxHeartbeats 4000000 in
theorem None_v  : FnV Try.prog 40 [] [] (.agg #[i64 (-1), i64 (-1), i64 (-1)]) := by
  refine FnV.intro Try.call40 Try.func40 rfl Try.ntmps40 rfl ?_
  intro W M Rf
  refine r_seq ?_
  refine r_region ?_
  refine o_alloc rfl inf27 rfl rfl rfl rfl rfl (fun b0 => ?_)
  refine o_nil ?_
  with_reducible refine r_then ?_
  refine r_seq ?_
  refine r_region ?_
  refine o_q _ rfl rfl rfl (v_bA rfl Try.underlying27 inf27 inf3 rfl rfl rfl (by repeat (first | exact trivial | refine ⟨rfl, ?_⟩)) (by rfl)) ?_
  refine o_st rfl inf27 rfl rfl rfl rfl rfl rfl rfl rfl ?_
  refine o_nil ?_
  with_reducible refine r_then ?_
  refine r_ret ?_
  exact r_retv2 (Rd.one rfl (RdI.cellW Try.underlying27 rfl inf27 rfl rfl)) rfl SelMC.sel SubRC.sub
end Go.Proofs.Ytienjlmnakbfmaa


namespace Go.Proofs.Ytienjlmnakbfmaa
open Go.G Foot4
set_option maxRecDepth 1000000
attribute [local irreducible] G.ParO G.Fin
end Go.Proofs.Ytienjlmnakbfmaa


namespace Go.Proofs.Ytienjlmnakbfmaa
open Go.G Foot4
set_option maxRecDepth 1000000
attribute [local irreducible] G.ParO G.Fin
end Go.Proofs.Ytienjlmnakbfmaa


namespace Foot4
open Go Go.G

/-- A plan's steps up to day d are done, from the k-th on. -/
def advF (p : T3) (d : Int) : Nat → Nat → Nat
  | 0, k => k
  | f + 1, k => if 0 ≤ p.at k ∧ p.at k ≤ d then advF p d f (k + 1) else k
def adv (p : T3) (d : Int) (k : Nat) : Nat := advF p d (3 - k) k
theorem adv_go {p : T3} {d : Int} {k : Nat} (h : k < 3 ∧ 0 ≤ p.at k ∧ p.at k ≤ d) : adv p d k = adv p d (k + 1) := by
  unfold adv
  rw [show 3 - k = (3 - (k + 1)) + 1 from by omega, advF, if_pos h.2]
theorem adv_stop {p : T3} {d : Int} {k : Nat} (h : ¬ (k < 3 ∧ 0 ≤ p.at k ∧ p.at k ≤ d)) : adv p d k = k := by
  unfold adv
  by_cases hk : k < 3
  · rw [show 3 - k = (3 - (k + 1)) + 1 from by omega, advF, if_neg (fun x => h ⟨hk, x⟩)]
  · rw [show 3 - k = 0 from by omega, advF]
theorem advF_le {p : T3} {d : Int} : ∀ f k, advF p d f k ≤ k + f
  | 0, k => Nat.le_refl k
  | f + 1, k => by
    have := advF_le (p := p) (d := d) f (k + 1)
    simp only [advF]
    split <;> omega
theorem adv_le {p : T3} {d : Int} {k : Nat} (h : k ≤ 3) : adv p d k ≤ 3 := by
  have := advF_le (p := p) (d := d) (3 - k) k
  unfold adv; omega
/-- How wet it is, and how many steps are done, as the program goes. -/
def wetS (sel : Int → Int → Int) (F : Work) (heap : Nat) (p : T3) : Nat → Int × Nat
  | 0 => (sel (F.heaps.getD heap default).lo (F.heaps.getD heap default).hi, 0)
  | d + 1 =>
    let s := wetS sel F heap p d
    let k := adv p d s.2
    if k = 3 then (s.1, 3) else (step s.1 (sel (F.rain.getD d default).lo (F.rain.getD d default).hi) (F.dr.at k), k)
def wetF (sel : Int → Int → Int) (F : Work) (heap : Nat) (p : T3) (d : Nat) : Int := (wetS sel F heap p d).1
theorem wetS_le (sel : Int → Int → Int) (F : Work) (heap : Nat) (p : T3) (d : Nat) : (wetS sel F heap p d).2 ≤ 3 := by
  induction d with
  | zero => simp [wetS]
  | succ d ih =>
    simp only [wetS]
    split
    · exact Nat.le_refl 3
    · exact adv_le ih
theorem adv_3 {p : T3} {d : Int} : adv p d 3 = 3 := adv_stop (by omega)
/-- All steps done: it stays. -/
theorem wetS_3 {sel : Int → Int → Int} {F : Work} {heap : Nat} {p : T3} {d : Nat} (h : (wetS sel F heap p d).2 = 3) : ∀ e, d ≤ e → wetS sel F heap p e = wetS sel F heap p d := by
  intro e he
  induction e with
  | zero => obtain rfl : d = 0 := by omega
            rfl
  | succ e ih =>
    by_cases h1 : d = e + 1
    · subst h1; rfl
    · have := ih (by omega)
      simp only [wetS, this, h, adv_3, if_true]
      exact Prod.ext rfl h.symm
theorem wetS_next {sel : Int → Int → Int} {F : Work} {heap : Nat} {p : T3} {d k : Nat} (hk : adv p d (wetS sel F heap p d).2 = k) (h : k ≠ 3) : wetS sel F heap p (d + 1) = (step (wetF sel F heap p d) (sel (F.rain.getD d default).lo (F.rain.getD d default).hi) (F.dr.at k), k) := by
  simp only [wetS, hk, h, if_false, wetF]
theorem wetS_end {sel : Int → Int → Int} {F : Work} {heap : Nat} {p : T3} {d : Nat} (hk : adv p d (wetS sel F heap p d).2 = 3) : ∀ e, d < e → wetF sel F heap p e = wetF sel F heap p d := by
  intro e he
  have h1 : wetS sel F heap p (d + 1) = (wetF sel F heap p d, 3) := by simp only [wetS, hk, if_true, wetF]
  have := wetS_3 (d := d + 1) (by rw [h1]) e (by omega)
  show (wetS sel F heap p e).1 = _
  rw [this, h1]
/-- One of the two truths. -/
structure Tr (P : Program) (name : String) where
  T : TypeId
  v : Value
  k : FuncId
  sel : Int → Int → Int
  hm : HasM P T name k
  hv : ∀ lo hi : Int, -1000 ≤ lo → lo ≤ 1000 → -1000 ≤ hi → hi ≤ 1000 → FnV P k [v, .agg #[i64 lo, i64 hi]] [] (i64 (sel lo hi))
  hs : ∀ lo hi, sel lo hi = lo ∨ sel lo hi = hi
abbrev Tr.i {P : Program} {name : String} (t : Tr P name) : Value := .iface t.T t.v
theorem wetS_bd {P : Program} {name : String} (t : Tr P name) {F : Work} (h : Bnd F) (heap : Nat) (p : T3) (d : Nat) : 0 ≤ wetF t.sel F heap p d ∧ wetF t.sel F heap p d ≤ 60 + 10 * d := by
  induction d with
  | zero =>
    have := h.heap heap
    rcases t.hs (F.heaps.getD heap default).lo (F.heaps.getD heap default).hi with e | e <;> simp only [wetF, wetS, e] <;> omega
  | succ d ih =>
    simp only [wetF, wetS]
    split
    · have := ih; unfold wetF at this; omega
    · have := h.rain d
      have hd := h.dr (adv p d (wetS t.sel F heap p d).2)
      unfold wetF at ih
      have hsel : 0 ≤ t.sel (F.rain.getD d default).lo (F.rain.getD d default).hi ∧ t.sel (F.rain.getD d default).lo (F.rain.getD d default).hi ≤ 10 := by
        rcases t.hs (F.rain.getD d default).lo (F.rain.getD d default).hi with e | e <;> rw [e] <;> omega
      have := step_bd ih.1 ih.2 hsel.1 hsel.2 hd.1
      show 0 ≤ step _ _ _ ∧ step _ _ _ ≤ _
      omega
def canF (sel : Int → Int → Int) (F : Work) (heap : Nat) (p : T3) (k : Nat) : Prop := p.at k < 0 ∨ wetF sel F heap p (p.at k).toNat ≤ F.lim.at k
instance (sel : Int → Int → Int) (F : Work) (heap : Nat) (p : T3) (k : Nat) : Decidable (canF sel F heap p k) := by unfold canF; infer_instance
def keptF (sel : Int → Int → Int) (F : Work) (heap : Nat) (p : T3) : Prop := canF sel F heap p 0 ∧ canF sel F heap p 1 ∧ canF sel F heap p 2
instance (sel : Int → Int → Int) (F : Work) (heap : Nat) (p : T3) : Decidable (keptF sel F heap p) := by unfold keptF; infer_instance
def capB : Value → Nat
  | .func _ _ cs => blk (cs.getD 0 undef)
  | _ => 0
theorem chk_ne {F : Work} {v : Bool} (h : ¬ GoodF F) : chk F v ≠ 0 := by unfold chk; rw [if_neg h]; decide
/-! ### what the program's functions answer -/
abbrev selD : Int → Int → Int := fun lo _ => lo
abbrev selW : Int → Int → Int := fun _ hi => hi
def wetP (F : Work) (x : Int) (p : T3) (y : Int) : Span × Int :=
  let e := chk F (decide ((0 ≤ x ∧ x ≤ (F.heaps.length : Int) - 1) ∧ IsPlan F.rain.length p ∧ (0 ≤ y ∧ y ≤ (F.rain.length : Int))))
  if e = 0 then (⟨wetF selD F x.toNat p y.toNat, wetF selW F x.toNat p y.toNat⟩, 0) else (⟨0, 0⟩, e)
def keptP (F : Work) (heap : Nat) (p : T3) : Int := if keptF selW F heap p then 2 else if keptF selD F heap p then 1 else 0
def canP (F : Work) (x : Int) (p : T3) : Int × Int :=
  let e := chk F (decide ((0 ≤ x ∧ x ≤ (F.heaps.length : Int) - 1) ∧ IsPlan F.rain.length p))
  if e = 0 then (keptP F x.toNat p, 0) else (0, e)
theorem wetP_of {F : Work} {x y : Int} {p : T3} (v : Bool) (hv : decide ((0 ≤ x ∧ x ≤ (F.heaps.length : Int) - 1) ∧ IsPlan F.rain.length p ∧ (0 ≤ y ∧ y ≤ (F.rain.length : Int))) = v) (h : chk F v ≠ 0) : wetP F x p y = (⟨0, 0⟩, chk F v) := by
  unfold wetP; simp only [hv]; rw [if_neg h]
theorem wetP_ok {F : Work} {x y : Int} {p : T3} (hg : GoodF F) (hv : decide ((0 ≤ x ∧ x ≤ (F.heaps.length : Int) - 1) ∧ IsPlan F.rain.length p ∧ (0 ≤ y ∧ y ≤ (F.rain.length : Int))) = true) : wetP F x p y = (⟨wetF selD F x.toNat p y.toNat, wetF selW F x.toNat p y.toNat⟩, 0) := by
  unfold wetP; simp only [hv]; rw [if_pos (by simp [chk, hg])]
theorem canP_of {F : Work} {x : Int} {p : T3} (v : Bool) (hv : decide ((0 ≤ x ∧ x ≤ (F.heaps.length : Int) - 1) ∧ IsPlan F.rain.length p) = v) (h : chk F v ≠ 0) : canP F x p = (0, chk F v) := by
  unfold canP; simp only [hv]; rw [if_neg h]
theorem canP_ok {F : Work} {x : Int} {p : T3} (hg : GoodF F) (hv : decide ((0 ≤ x ∧ x ≤ (F.heaps.length : Int) - 1) ∧ IsPlan F.rain.length p) = true) : canP F x p = (keptP F x.toNat p, 0) := by
  unfold canP; simp only [hv]; rw [if_pos (by simp [chk, hg])]
/-! ### all whole plans, one by one -/
theorem range'_pre {s k m : Nat} (h : k ≤ m) : List.range' s k <+: List.range' s m := by
  refine ⟨List.range' (s + k) (m - k), ?_⟩
  have := List.range'_append (s := s) (m := k) (n := m - k) (step := 1)
  rw [Nat.one_mul] at this
  rw [this, show k + (m - k) = m from by omega]
theorem range_pre {k m : Nat} (h : k ≤ m) : List.range k <+: List.range m := by
  rw [List.range_eq_range', List.range_eq_range']; exact range'_pre h
theorem flatMap_pre {α β : Type} {l m : List α} (f : α → List β) (h : l <+: m) : l.flatMap f <+: m.flatMap f := by
  obtain ⟨t, rfl⟩ := h
  exact ⟨t.flatMap f, by simp⟩
theorem whole_pre {n a b c : Nat} (ha : a < b) (hb : b < c) (hc : c < n) : wholeC n a b (c + 1) <+: whole n := by
  have h1 : wholeC n a b (c + 1) <+: wholeB n a (b + 1) := by
    rw [← wholeB_step ha]
    unfold wholeC
    exact (List.prefix_append_right_inj _).2 (((range'_pre (by omega)).map _))
  have h2 : wholeB n a (b + 1) <+: wholeA n (a + 1) := by
    rw [← wholeA_step]
    unfold wholeB
    exact (List.prefix_append_right_inj _).2 (flatMap_pre _ (range'_pre (by omega)))
  have h3 : wholeA n (a + 1) <+: whole n := flatMap_pre _ (range_pre (by omega))
  exact (h1.trans h2).trans h3
theorem whole_at {n a b c : Nat} (ha : a < b) (hb : b < c) (hc : c < n) : (whole n)[(wholeC n a b c).length]? = some ⟨a, b, c⟩ := by
  obtain ⟨t, ht⟩ := whole_pre ha hb hc
  rw [← ht, wholeC_step hb]
  simp
theorem whole_lt {n a b c : Nat} (ha : a < b) (hb : b < c) (hc : c < n) : (wholeC n a b c).length + 1 ≤ (whole n).length :=
  (List.getElem?_eq_some_iff.1 (whole_at ha hb hc)).1
theorem wholeC_len1 {n a b c : Nat} (hb : b < c) : (wholeC n a b c).length + 1 = (wholeC n a b (c + 1)).length := by rw [wholeC_step hb]; simp
/-- What an iterator of plans hands out. -/
def encP (p : T3) : List Value := [.agg #[i64 p.a, i64 p.b, i64 p.c]]
def keptB (sel : Int → Int → Int) (F : Work) (heap : Nat) (p : T3) : Bool := decide (keptF sel F heap p)
def sureF (sel : Int → Int → Int) (F : Work) (heap : Nat) : List T3 := (whole F.rain.length).filter (keptB sel F heap)
def sureT (sel : Int → Int → Int) (F : Work) (heap i : Nat) : List T3 := ((whole F.rain.length).take i).filter (keptB sel F heap)
theorem sureT_yes {sel : Int → Int → Int} {F : Work} {heap i : Nat} {x : T3} (hx : (whole F.rain.length)[i]? = some x) (h : keptF sel F heap x) : sureT sel F heap i ++ [x] = sureT sel F heap (i + 1) := by
  unfold sureT
  rw [List.take_add_one, hx]
  simp [keptB, h]
theorem sureT_no {sel : Int → Int → Int} {F : Work} {heap i : Nat} {x : T3} (hx : (whole F.rain.length)[i]? = some x) (h : ¬ keptF sel F heap x) : sureT sel F heap i = sureT sel F heap (i + 1) := by
  unfold sureT
  rw [List.take_add_one, hx]
  simp [keptB, h]
theorem sureT_all {sel : Int → Int → Int} {F : Work} {heap : Nat} : sureT sel F heap (whole F.rain.length).length = sureF sel F heap := by
  unfold sureT sureF; rw [List.take_length]
/-- The best of the first k, the first of several. -/
def best1 {α : Type} (bt : α → α → Bool) (z : α) (xs : List α) : Nat → α
  | 0 => z
  | k + 1 => if k = 0 ∨ bt (xs.getD k z) (best1 bt z xs k) = true then xs.getD k z else best1 bt z xs k
theorem best1_yes {α : Type} {bt : α → α → Bool} {z : α} {xs : List α} {k : Nat} (h : k = 0 ∨ bt (xs.getD k z) (best1 bt z xs k) = true) : best1 bt z xs (k + 1) = xs.getD k z := if_pos h
theorem best1_no {α : Type} {bt : α → α → Bool} {z : α} {xs : List α} {k : Nat} (h0 : k ≠ 0) (h : ¬ bt (xs.getD k z) (best1 bt z xs k) = true) : best1 bt z xs (k + 1) = best1 bt z xs k := if_neg (fun x => x.elim h0 h)
def soon (p q : T3) : Bool := decide (p.c < q.c)
theorem soon_no {p q : T3} (h : ¬ p.c < q.c) : ¬ soon p q = true := fun x => h (of_decide_eq_true x)
def soonL (l : List T3) : T3 := best1 soon default l l.length
def soonP (F : Work) (x : Int) : T3 × Int :=
  let e := chk F (decide (0 ≤ x ∧ x ≤ (F.heaps.length : Int) - 1))
  if e = 0 then (if 0 < (sureF selW F x.toNat).length then (soonL (sureF selW F x.toNat), 0) else (default, 4)) else (default, e)
theorem soonP_of {F : Work} {x : Int} (v : Bool) (hv : decide (0 ≤ x ∧ x ≤ (F.heaps.length : Int) - 1) = v) (h : chk F v ≠ 0) : soonP F x = (default, chk F v) := by
  unfold soonP; simp only [hv]; rw [if_neg h]
theorem soonP_ok {F : Work} {x : Int} (hg : GoodF F) (hv : decide (0 ≤ x ∧ x ≤ (F.heaps.length : Int) - 1) = true) (hs : 0 < ((sureF selW F x.toNat).length : Int)) : soonP F x = (soonL (sureF selW F x.toNat), 0) := by
  unfold soonP; simp only [hv]; rw [if_pos (by simp [chk, hg]), if_pos (by omega)]
theorem soonP_none {F : Work} {x : Int} (hg : GoodF F) (hv : decide (0 ≤ x ∧ x ≤ (F.heaps.length : Int) - 1) = true) (hs : ¬ 0 < ((sureF selW F x.toNat).length : Int)) : soonP F x = (default, 4) := by
  unfold soonP; simp only [hv]; rw [if_pos (by simp [chk, hg]), if_neg (by omega)]
theorem whole_mem {n : Nat} {p : T3} (h : p ∈ whole n) : ∃ a b c : Nat, p = ⟨a, b, c⟩ ∧ a < b ∧ b < c ∧ c < n := by
  unfold whole at h
  obtain ⟨a, ha, h⟩ := List.mem_flatMap.1 h
  unfold bs3 at h
  obtain ⟨b, hb, h⟩ := List.mem_flatMap.1 h
  unfold cs3 at h
  obtain ⟨c, hc, rfl⟩ := List.mem_map.1 h
  simp only [List.mem_range'_1] at hb hc
  exact ⟨a, b, c, rfl, by omega, by omega, by omega⟩
theorem whole_days {n : Nat} {p : T3} (h : p ∈ whole n) : ∀ k, k < 3 → 0 ≤ p.at k ∧ p.at k ≤ (n : Int) - 1 := by
  obtain ⟨a, b, c, rfl, h1, h2, h3⟩ := whole_mem h
  intro k hk
  obtain rfl | rfl | rfl : k = 0 ∨ k = 1 ∨ k = 2 := by omega
  · show (0 : Int) ≤ a ∧ (a : Int) ≤ n - 1
    omega
  · show (0 : Int) ≤ b ∧ (b : Int) ≤ n - 1
    omega
  · show (0 : Int) ≤ c ∧ (c : Int) ≤ n - 1
    omega
theorem whole_le {n : Nat} (hn : n ≤ 8) : (whole n).length ≤ 1000 := by
  have := wholeC_len (n := n) (a := n) (b := n) (c := n) hn (by omega) (by omega) (by omega)
  unfold wholeC wholeB at this
  simp only [List.length_append] at this
  show (wholeA n n).length ≤ 1000
  omega
theorem sureF_le {sel : Int → Int → Int} {F : Work} {heap : Nat} (h : F.rain.length ≤ 8) : (sureF sel F heap).length ≤ 1000 := by
  have h1 := List.length_filter_le (keptB sel F heap) (whole F.rain.length)
  have h2 := whole_le h
  unfold sureF; omega
theorem sureT_le {sel : Int → Int → Int} {F : Work} {heap i : Nat} (h : F.rain.length ≤ 8) : (sureT sel F heap i).length ≤ 1000 := by
  unfold sureT
  have h1 := List.length_filter_le (keptB sel F heap) ((whole F.rain.length).take i)
  have h2 := whole_le h
  have h3 := List.length_take_le' i (whole F.rain.length)
  omega
end Foot4


namespace Go.Proofs.Ytienjlmnakbfmaa
open Go.G Foot4
set_option maxRecDepth 1000000
attribute [local irreducible] G.ParO G.Fin
set_option maxHeartbeats 4000000 in
theorem within_v (a b c : Int) : FnV Try.prog 50 [i64 a, i64 b, i64 c] [] (.bool (decide (b ≤ a ∧ a ≤ c))) := by
  refine FnV.intro Try.call50 Try.func50 rfl Try.ntmps50 rfl ?_
  intro W M Rf
  refine r_seq ?_
  refine r_region ?_
  refine o_q _ rfl rfl rfl (v_assign rfl rfl) ?_
  refine o_nil ?_
  with_reducible refine r_then ?_
  refine r_seq ?_
  refine r_region ?_
  refine o_q _ rfl rfl rfl (v_move rfl rfl) ?_
  refine o_q _ rfl rfl rfl (v_move rfl rfl) ?_
  refine o_test rfl rfl rfl (v_leq rfl rfl rfl) (fun h9 => ?_) (fun h9 => ?_)
  all_goals
    refine o_q _ rfl rfl rfl (v_move rfl rfl) ?_
    first | refine o_gn rfl rfl rfl rfl ?_ | refine o_g _ rfl rfl rfl rfl (v_move rfl rfl) ?_
    first | refine o_gn rfl rfl rfl rfl ?_ | refine o_g _ rfl rfl rfl rfl (v_move rfl rfl) ?_
    first | refine o_gn rfl rfl rfl rfl ?_ | refine o_gtest rfl rfl rfl rfl (v_leq rfl rfl rfl) (fun h13 => ?_) (fun h13 => ?_)
    all_goals
      first | refine o_q _ rfl rfl rfl (v_pick_t rfl rfl rfl) ?_ | refine o_q _ rfl rfl rfl (v_pick_f rfl rfl rfl) ?_
      refine o_q _ rfl rfl rfl (v_assign rfl rfl) ?_
      refine o_nil ?_
      with_reducible refine r_then ?_
      refine r_ret ?_
      first | exact r_retv2 (Rd.tmp rfl rfl) (congrArg Value.bool (decide_eq_true (by omega)).symm) SelMC.sel SubRC.sub | exact r_retv2 (Rd.tmp rfl rfl) (congrArg Value.bool (decide_eq_false (by omega)).symm) SelMC.sel SubRC.sub
set_option maxHeartbeats 4000000 in
theorem isSpan_v (lo hi a b : Int) : FnV Try.prog 84 [.agg #[i64 lo, i64 hi], i64 a, i64 b] [] (.bool (decide (a ≤ lo ∧ lo ≤ hi ∧ hi ≤ b))) := by
  refine FnV.intro Try.call84 Try.func84 rfl Try.ntmps84 rfl ?_
  intro W M Rf
  refine r_seq ?_
  refine r_region ?_
  refine o_boxA rfl rfl rfl rfl rfl (fun b3 => ?_)
  refine o_q _ rfl rfl rfl (v_assign rfl rfl) ?_
  refine o_nil ?_
  with_reducible refine r_then ?_
  refine r_seq ?_
  refine r_region ?_
  refine o_q _ rfl rfl rfl (v_move rfl rfl) ?_
  refine o_q _ rfl rfl rfl (v_fieldAddr rfl Try.underlying31 inf3 rfl rfl rfl rfl) ?_
  refine o_q _ rfl rfl rfl (v_ld1 rfl Try.underlying3 rfl rfl rfl) ?_
  refine o_test rfl rfl rfl (v_leq rfl rfl rfl) (fun h10 => ?_) (fun h10 => ?_)
  all_goals
    refine o_q _ rfl rfl rfl (v_move rfl rfl) ?_
    first | refine o_gn rfl rfl rfl rfl ?_ | refine o_g _ rfl rfl rfl rfl (v_fieldAddr rfl Try.underlying31 inf3 rfl rfl rfl rfl) ?_
    first | refine o_gn rfl rfl rfl rfl ?_ | refine o_g _ rfl rfl rfl rfl (v_ld1 rfl Try.underlying3 rfl rfl rfl) ?_
    first | refine o_gn rfl rfl rfl rfl ?_ | refine o_g _ rfl rfl rfl rfl (v_fieldAddr rfl Try.underlying31 inf3 rfl rfl rfl rfl) ?_
    first | refine o_gn rfl rfl rfl rfl ?_ | refine o_g _ rfl rfl rfl rfl (v_ld1 rfl Try.underlying3 rfl rfl rfl) ?_
    first | refine o_gn rfl rfl rfl rfl ?_ | refine o_gtest rfl rfl rfl rfl (v_leq rfl rfl rfl) (fun h16 => ?_) (fun h16 => ?_)
    all_goals
      first | refine o_q _ rfl rfl rfl (v_pick_t rfl rfl rfl) ?_ | refine o_q _ rfl rfl rfl (v_pick_f rfl rfl rfl) ?_
      refine o_q _ rfl rfl rfl (v_move rfl rfl) ?_
      first | refine o_gn rfl rfl rfl rfl ?_ | refine o_g _ rfl rfl rfl rfl (v_fieldAddr rfl Try.underlying31 inf3 rfl rfl rfl rfl) ?_
      first | refine o_gn rfl rfl rfl rfl ?_ | refine o_g _ rfl rfl rfl rfl (v_ld1 rfl Try.underlying3 rfl rfl rfl) ?_
      first | refine o_gn rfl rfl rfl rfl ?_ | refine o_g _ rfl rfl rfl rfl (v_move rfl rfl) ?_
      first | refine o_gn rfl rfl rfl rfl ?_ | refine o_gtest rfl rfl rfl rfl (v_leq rfl rfl rfl) (fun h22 => ?_) (fun h22 => ?_)
      all_goals
        first | refine o_q _ rfl rfl rfl (v_pick_t rfl rfl rfl) ?_ | refine o_q _ rfl rfl rfl (v_pick_f rfl rfl rfl) ?_
        refine o_q _ rfl rfl rfl (v_assign rfl rfl) ?_
        refine o_nil ?_
        with_reducible refine r_then ?_
        refine r_ret ?_
        first | exact r_retv2 (Rd.tmp rfl rfl) (congrArg Value.bool (decide_eq_true (by omega)).symm) SelMC.sel SubRC.sub | exact r_retv2 (Rd.tmp rfl rfl) (congrArg Value.bool (decide_eq_false (by omega)).symm) SelMC.sel SubRC.sub
set_option maxHeartbeats 4000000 in
theorem open1_v (s : Span) : FnV Try.prog 83 [.agg #[i64 s.lo, i64 s.hi]] [] (.bool (decide (¬ SpanOk s 10))) := by
  refine FnV.intro Try.call83 Try.func83 rfl Try.ntmps83 rfl ?_
  intro W M Rf
  refine r_seq ?_
  refine r_region ?_
  refine o_boxA rfl rfl rfl rfl rfl (fun b1 => ?_)
  refine o_q _ rfl rfl rfl (v_assign rfl rfl) ?_
  refine o_nil ?_
  with_reducible refine r_then ?_
  refine r_seq ?_
  refine r_region ?_
  refine o_q _ rfl rfl rfl (v_ldW rfl Try.underlying31 rfl inf31 rfl rfl) ?_
  refine o_test rfl rfl rfl (OpQ.fn (isSpan_v _ _ _ _) rfl rfl SubRC.sub) (fun h4 => ?_) (fun h4 => ?_)
  all_goals
    refine o_q _ rfl rfl rfl (v_not rfl rfl) ?_
    refine o_q _ rfl rfl rfl (v_assign rfl rfl) ?_
    refine o_nil ?_
    with_reducible refine r_then ?_
    refine r_ret ?_
    exact r_retv2 (Rd.tmp rfl rfl) (congrArg Value.bool (by simp [SpanOk, *])) SelMC.sel SubRC.sub
set_option maxHeartbeats 4000000 in
theorem spans_r (p : Span → Prop) [DecidablePred p] (xs : List Span) (oa : Option Addr) (c : Nat) (fv : FuncId) (caps : List Value) (Rs : List Fact) (hl : xs.length ≤ 1000) (hf : ∀ k, k < xs.length → FnV Try.prog fv (.agg #[i64 (xs.getD k default).lo, i64 (xs.getD k default).hi] :: caps) Rs (.bool (decide (p (xs.getD k default))))) : FnR Try.prog 103 [.slice oa xs.length c, .func (.func fv) #[] caps.toArray] (rowD oa 2 (encS) xs :: Rs) (fun v => (v = i64 (-1) ∧ ∀ j, j < xs.length → ¬ p (xs.getD j default)) ∨ ∃ k : Nat, v = i64 k ∧ k < xs.length ∧ p (xs.getD k default)) (fun _ => []) := by
  refine FnR.intro Try.call103 Try.func103 rfl Try.ntmps103 rfl ?_
  intro W M Rf
  refine r_seq ?_
  refine r_region ?_
  refine o_q _ rfl rfl rfl (v_assign rfl rfl) ?_
  refine o_nil ?_
  with_reducible refine r_then ?_
  refine r_seq ?_
  refine r_seq ?_
  refine r_region ?_
  refine o_q _ rfl rfl rfl (v_move rfl rfl) ?_
  refine o_q _ rfl rfl rfl (v_len rfl rfl Try.underlying22 rfl) ?_
  refine o_q _ rfl rfl rfl (v_move rfl rfl) ?_
  refine o_nil ?_
  with_reducible refine r_then ?_
  refine r_block ?_
  refine r_loop (ι := Nat) (fun k => k ≤ xs.length ∧ ∀ j, j < k → ¬ p (xs.getD j default)) (fun k => [(0, .slice oa xs.length c), (1, .func (.func fv) #[] caps.toArray), (7, i64 xs.length), (8, i64 k)]) (fun k => M) (fun k => (rowD oa 2 (encS) xs :: Rs) ++ Rf) (fun k => xs.length - k) 0 ?_ ?_ ?_
  ·
    exact r_here (by repeat (first | exact FSub.nil | refine FSub.cons rfl ?_)) SelMC.sel SubRC.sub
  ·
    exact ⟨by omega, fun j hj => absurd hj (by omega)⟩
  ·
    rintro k hI0
    refine r_seq ?_
    refine r_region ?_
    refine o_q _ rfl rfl rfl (v_lss rfl rfl rfl) ?_
    refine o_nil ?_
    with_reducible refine r_then ?_
    refine r_seq ?_
    refine r_condd rfl (fun hc9 => ?_) (fun hc9 => ?_)
    ·
      refine r_skip ?_
      with_reducible refine r_then ?_
      refine r_seq ?_
      refine r_block ?_
      refine r_seq ?_
      refine r_region ?_
      refine o_q _ rfl rfl rfl (v_move rfl rfl) ?_
      refine o_q _ rfl rfl rfl (v_assign rfl rfl) ?_
      refine o_nil ?_
      with_reducible refine r_then ?_
      refine r_seq ?_
      refine r_region ?_
      refine o_q _ rfl rfl rfl (v_move rfl rfl) ?_
      refine o_q _ rfl rfl rfl (v_move rfl rfl) ?_
      refine o_q _ rfl rfl rfl (v_move rfl rfl) ?_
      refine o_q _ rfl rfl rfl (v_indexAddrSn rfl Try.underlying22 inf31 rfl rfl rfl (by omega) rfl) ?_
      refine o_q _ rfl rfl rfl (v_loadEN rfl Try.underlying31 rfl inf31 rfl (by omega) rfl rfl rfl) ?_
      refine o_test rfl rfl rfl (OpQ.call (hf k (by omega)) rfl [] caps rfl rfl rfl SubRC.sub) (fun h16 => ?_) (fun h16 => ?_)
      all_goals
        refine o_nil ?_
        with_reducible refine r_then ?_
        refine r_cond rfl (fun hc16 => ?_) (fun hc16 => ?_)
        ·
          first
          | (exfalso; revert hc16; decide)
          | skip
            refine r_seq ?_
            refine r_region ?_
            refine o_q _ rfl rfl rfl (v_move rfl rfl) ?_
            refine o_q _ rfl rfl rfl (v_assign rfl rfl) ?_
            refine o_nil ?_
            with_reducible refine r_then ?_
            refine r_ret ?_
            with_reducible refine r_in_ret ?_; refine r_then_ret ?_; refine r_then_ret ?_; refine r_in_ret ?_; refine r_then_ret ?_
            exact r_retr (Rd.tmp rfl rfl) (Or.inr ⟨k, rfl, by omega, by assumption⟩) SelMC.sel SubRC.sub
        ·
          first
          | (exfalso; revert hc16; decide)
          | skip
            refine r_skip ?_
            with_reducible refine r_in_normal ?_; refine r_then ?_
            refine r_region ?_
            refine o_q _ rfl rfl rfl (v_add rfl rfl rfl (by omega)) ?_
            refine o_q _ rfl rfl rfl (v_move rfl rfl) ?_
            refine o_nil ?_
            with_reducible refine r_then ?_
            refine r_next (k + 1) ?_ ?_ ?_
            ·
              exact r_here (by repeat (first | exact FSub.nil | refine FSub.cons rfl ?_)) SelMC.sel SubRC.sub
            ·
              exact ⟨by omega, all_step hI0.2 (by assumption)⟩
            ·
              omega
    ·
      refine r_exit ?_
      with_reducible refine r_then_exit ?_; refine r_then_exit ?_; refine r_in_here ?_; refine r_then ?_
      refine r_seq ?_
      refine r_region ?_
      refine o_q _ rfl rfl rfl (v_assign rfl rfl) ?_
      refine o_nil ?_
      with_reducible refine r_then ?_
      refine r_ret ?_
      exact r_retr (Rd.tmp rfl rfl) (Or.inl ⟨rfl, fun j hj => hI0.2 j (by omega)⟩) SelMC.sel SubRC.sub
set_option maxHeartbeats 4000000 in
theorem spans_c (p : Span → Prop) [DecidablePred p] (xs : List Span) (oa : Option Addr) (c : Nat) (fv : FuncId) (caps : List Value) (Rs : List Fact) (hl : xs.length ≤ 1000) (hf : ∀ k, k < xs.length → FnV Try.prog fv (.agg #[i64 (xs.getD k default).lo, i64 (xs.getD k default).hi] :: caps) Rs (.bool (decide (p (xs.getD k default))))) : FnV Try.prog 82 [.slice oa xs.length c, .func (.func fv) #[] caps.toArray] (rowD oa 2 (encS) xs :: Rs) (.bool (decide (∃ k, k < xs.length ∧ p (xs.getD k default)))) := by
  refine FnV.intro Try.call82 Try.func82 rfl Try.ntmps82 rfl ?_
  intro W M Rf
  refine r_seq ?_
  refine r_region ?_
  refine o_q _ rfl rfl rfl (v_assign rfl rfl) ?_
  refine o_nil ?_
  with_reducible refine r_then ?_
  refine r_seq ?_
  refine r_region ?_
  refine o_q _ rfl rfl rfl (v_move rfl rfl) ?_
  refine o_q _ rfl rfl rfl (v_move rfl rfl) ?_
  refine o_fn (spans_r p xs oa c fv caps Rs hl hf) rfl rfl rfl rfl rfl SubRC.sub (fun v7 hv7 => ?_)
  obtain ⟨rfl, hn⟩ | ⟨k, rfl, hk, hp⟩ := hv7
  all_goals
    refine o_q _ rfl rfl rfl (v_geq rfl rfl rfl) ?_
    refine o_q _ rfl rfl rfl (v_assign rfl rfl) ?_
    refine o_nil ?_
    with_reducible refine r_then ?_
    refine r_ret ?_
    first
    | exact r_retv2 (Rd.tmp rfl rfl) (congrArg Value.bool ((decide_eq_false (by omega)).trans (decide_eq_false (fun ⟨k, hk, hp⟩ => hn k hk hp)).symm)) SelMC.sel SubRC.sub
    | exact r_retv2 (Rd.tmp rfl rfl) (congrArg Value.bool ((decide_eq_true (by omega)).trans (decide_eq_true ⟨k, hk, hp⟩).symm)) SelMC.sel SubRC.sub
set_option maxHeartbeats 4000000 in
theorem ints_r (p : Int → Prop) [DecidablePred p] (xs : List Int) (oa : Option Addr) (c : Nat) (fv : FuncId) (caps : List Value) (Rs : List Fact) (hl : xs.length ≤ 1000) (hf : ∀ k, k < xs.length → FnV Try.prog fv (i64 (xs.getD k default) :: caps) Rs (.bool (decide (p (xs.getD k default))))) : FnR Try.prog 105 [.slice oa xs.length c, .func (.func fv) #[] caps.toArray] (rowD oa 1 (fun n : Int => [i64 n]) xs :: Rs) (fun v => (v = i64 (-1) ∧ ∀ j, j < xs.length → ¬ p (xs.getD j default)) ∨ ∃ k : Nat, v = i64 k ∧ k < xs.length ∧ p (xs.getD k default)) (fun _ => []) := by
  refine FnR.intro Try.call105 Try.func105 rfl Try.ntmps105 rfl ?_
  intro W M Rf
  refine r_seq ?_
  refine r_region ?_
  refine o_q _ rfl rfl rfl (v_assign rfl rfl) ?_
  refine o_nil ?_
  with_reducible refine r_then ?_
  refine r_seq ?_
  refine r_seq ?_
  refine r_region ?_
  refine o_q _ rfl rfl rfl (v_move rfl rfl) ?_
  refine o_q _ rfl rfl rfl (v_len rfl rfl Try.underlying52 rfl) ?_
  refine o_q _ rfl rfl rfl (v_move rfl rfl) ?_
  refine o_nil ?_
  with_reducible refine r_then ?_
  refine r_block ?_
  refine r_loop (ι := Nat) (fun k => k ≤ xs.length ∧ ∀ j, j < k → ¬ p (xs.getD j default)) (fun k => [(0, .slice oa xs.length c), (1, .func (.func fv) #[] caps.toArray), (7, i64 xs.length), (8, i64 k)]) (fun k => M) (fun k => (rowD oa 1 (fun n : Int => [i64 n]) xs :: Rs) ++ Rf) (fun k => xs.length - k) 0 ?_ ?_ ?_
  ·
    exact r_here (by repeat (first | exact FSub.nil | refine FSub.cons rfl ?_)) SelMC.sel SubRC.sub
  ·
    exact ⟨by omega, fun j hj => absurd hj (by omega)⟩
  ·
    rintro k hI0
    refine r_seq ?_
    refine r_region ?_
    refine o_q _ rfl rfl rfl (v_lss rfl rfl rfl) ?_
    refine o_nil ?_
    with_reducible refine r_then ?_
    refine r_seq ?_
    refine r_condd rfl (fun hc9 => ?_) (fun hc9 => ?_)
    ·
      refine r_skip ?_
      with_reducible refine r_then ?_
      refine r_seq ?_
      refine r_block ?_
      refine r_seq ?_
      refine r_region ?_
      refine o_q _ rfl rfl rfl (v_move rfl rfl) ?_
      refine o_q _ rfl rfl rfl (v_assign rfl rfl) ?_
      refine o_nil ?_
      with_reducible refine r_then ?_
      refine r_seq ?_
      refine r_region ?_
      refine o_q _ rfl rfl rfl (v_move rfl rfl) ?_
      refine o_q _ rfl rfl rfl (v_move rfl rfl) ?_
      refine o_q _ rfl rfl rfl (v_move rfl rfl) ?_
      refine o_q _ rfl rfl rfl (v_indexAddrSn rfl Try.underlying52 inf3 rfl rfl rfl (by omega) rfl) ?_
      refine o_q _ rfl rfl rfl (v_loadE1 rfl Try.underlying3 rfl rfl (by omega) rfl rfl) ?_
      refine o_test rfl rfl rfl (OpQ.call (hf k (by omega)) rfl [] caps rfl rfl rfl SubRC.sub) (fun h16 => ?_) (fun h16 => ?_)
      all_goals
        refine o_nil ?_
        with_reducible refine r_then ?_
        refine r_cond rfl (fun hc16 => ?_) (fun hc16 => ?_)
        ·
          first
          | (exfalso; revert hc16; decide)
          | skip
            refine r_seq ?_
            refine r_region ?_
            refine o_q _ rfl rfl rfl (v_move rfl rfl) ?_
            refine o_q _ rfl rfl rfl (v_assign rfl rfl) ?_
            refine o_nil ?_
            with_reducible refine r_then ?_
            refine r_ret ?_
            with_reducible refine r_in_ret ?_; refine r_then_ret ?_; refine r_then_ret ?_; refine r_in_ret ?_; refine r_then_ret ?_
            exact r_retr (Rd.tmp rfl rfl) (Or.inr ⟨k, rfl, by omega, by assumption⟩) SelMC.sel SubRC.sub
        ·
          first
          | (exfalso; revert hc16; decide)
          | skip
            refine r_skip ?_
            with_reducible refine r_in_normal ?_; refine r_then ?_
            refine r_region ?_
            refine o_q _ rfl rfl rfl (v_add rfl rfl rfl (by omega)) ?_
            refine o_q _ rfl rfl rfl (v_move rfl rfl) ?_
            refine o_nil ?_
            with_reducible refine r_then ?_
            refine r_next (k + 1) ?_ ?_ ?_
            ·
              exact r_here (by repeat (first | exact FSub.nil | refine FSub.cons rfl ?_)) SelMC.sel SubRC.sub
            ·
              exact ⟨by omega, all_step hI0.2 (by assumption)⟩
            ·
              omega
    ·
      refine r_exit ?_
      with_reducible refine r_then_exit ?_; refine r_then_exit ?_; refine r_in_here ?_; refine r_then ?_
      refine r_seq ?_
      refine r_region ?_
      refine o_q _ rfl rfl rfl (v_assign rfl rfl) ?_
      refine o_nil ?_
      with_reducible refine r_then ?_
      refine r_ret ?_
      exact r_retr (Rd.tmp rfl rfl) (Or.inl ⟨rfl, fun j hj => hI0.2 j (by omega)⟩) SelMC.sel SubRC.sub
set_option maxHeartbeats 4000000 in
theorem ints_c (p : Int → Prop) [DecidablePred p] (xs : List Int) (oa : Option Addr) (c : Nat) (fv : FuncId) (caps : List Value) (Rs : List Fact) (hl : xs.length ≤ 1000) (hf : ∀ k, k < xs.length → FnV Try.prog fv (i64 (xs.getD k default) :: caps) Rs (.bool (decide (p (xs.getD k default))))) : FnV Try.prog 91 [.slice oa xs.length c, .func (.func fv) #[] caps.toArray] (rowD oa 1 (fun n : Int => [i64 n]) xs :: Rs) (.bool (decide (∃ k, k < xs.length ∧ p (xs.getD k default)))) := by
  refine FnV.intro Try.call91 Try.func91 rfl Try.ntmps91 rfl ?_
  intro W M Rf
  refine r_seq ?_
  refine r_region ?_
  refine o_q _ rfl rfl rfl (v_assign rfl rfl) ?_
  refine o_nil ?_
  with_reducible refine r_then ?_
  refine r_seq ?_
  refine r_region ?_
  refine o_q _ rfl rfl rfl (v_move rfl rfl) ?_
  refine o_q _ rfl rfl rfl (v_move rfl rfl) ?_
  refine o_fn (ints_r p xs oa c fv caps Rs hl hf) rfl rfl rfl rfl rfl SubRC.sub (fun v7 hv7 => ?_)
  obtain ⟨rfl, hn⟩ | ⟨k, rfl, hk, hp⟩ := hv7
  all_goals
    refine o_q _ rfl rfl rfl (v_geq rfl rfl rfl) ?_
    refine o_q _ rfl rfl rfl (v_assign rfl rfl) ?_
    refine o_nil ?_
    with_reducible refine r_then ?_
    refine r_ret ?_
    first
    | exact r_retv2 (Rd.tmp rfl rfl) (congrArg Value.bool ((decide_eq_false (by omega)).trans (decide_eq_false (fun ⟨k, hk, hp⟩ => hn k hk hp)).symm)) SelMC.sel SubRC.sub
    | exact r_retv2 (Rd.tmp rfl rfl) (congrArg Value.bool ((decide_eq_true (by omega)).trans (decide_eq_true ⟨k, hk, hp⟩).symm)) SelMC.sel SubRC.sub
end Go.Proofs.Ytienjlmnakbfmaa


namespace Go.Proofs.Ytienjlmnakbfmaa
open Go.G Foot4
set_option maxRecDepth 1000000
attribute [local irreducible] G.ParO G.Fin
set_option maxHeartbeats 4000000 in
theorem isHeap_v (F : Work) (ro ho : Option Addr) (rc hc : Nat) (x : Int) (hr : F.rain.length ≤ 40) (hh : F.heaps.length ≤ 40) : FnV Try.prog 48 [valF F ro rc ho hc, i64 x] [rowD ro 2 encS F.rain, rowD ho 3 encH F.heaps] (.bool (decide (0 ≤ x ∧ x ≤ (F.heaps.length : Int) - 1))) := by
  refine FnV.intro Try.call48 Try.func48 rfl Try.ntmps48 rfl ?_
  intro W M Rf
  refine r_seq ?_
  refine r_region ?_
  refine o_boxA rfl rfl rfl rfl rfl (fun b2 => ?_)
  refine o_q _ rfl rfl rfl (v_assign rfl rfl) ?_
  refine o_nil ?_
  with_reducible refine r_then ?_
  refine r_seq ?_
  refine r_region ?_
  refine o_q _ rfl rfl rfl (v_move rfl rfl) ?_
  refine o_q _ rfl rfl rfl (v_fieldAddr rfl Try.underlying26 inf24 rfl rfl rfl rfl) ?_
  refine o_q _ rfl rfl rfl (v_ld1 rfl Try.underlying24 rfl rfl rfl) ?_
  refine o_q _ rfl rfl rfl (v_len rfl rfl Try.underlying24 rfl) ?_
  refine o_q _ rfl rfl rfl (v_sub rfl rfl rfl (by omega)) ?_
  refine o_q _ rfl rfl rfl (OpQ.fn (within_v _ _ _) rfl rfl SubRC.sub) ?_
  refine o_q _ rfl rfl rfl (v_assign rfl rfl) ?_
  refine o_nil ?_
  with_reducible refine r_then ?_
  refine r_ret ?_
  exact r_retv2 (Rd.tmp rfl rfl) rfl SelMC.sel SubRC.sub
set_option maxHeartbeats 4000000 in
theorem ordered_v (a b c : Int) (k : Nat) (hk : k < 3) : FnV Try.prog 69 [.agg #[i64 a, i64 b, i64 c], i64 k] [] (.bool (decide (Ordered ⟨a, b, c⟩ k))) := by
  have e1 : (((k : Int) - 1).toNat) = k - 1 := by omega
  refine FnV.intro Try.call69 Try.func69 rfl Try.ntmps69 rfl ?_
  intro W M Rf
  refine r_seq ?_
  refine r_region ?_
  refine o_boxA rfl rfl rfl rfl rfl (fun b2 => ?_)
  refine o_q _ rfl rfl rfl (v_assign rfl rfl) ?_
  refine o_nil ?_
  with_reducible refine r_then ?_
  refine r_seq ?_
  refine r_region_q mixed (by kernel_rfl) ?_
  refine q_q _ rfl rfl rfl (v_move rfl rfl) ?_
  refine q_q _ rfl rfl rfl (v_indexAddrAn rfl Try.underlying27 inf3 rfl rfl (by omega)) ?_
  refine q_q _ rfl rfl rfl (v_ld1 rfl Try.underlying3 rfl rfl (t3_atn (by omega))) ?_
  refine q_test rfl rfl rfl (v_lss rfl rfl rfl) (fun h8 => ?_) (fun h8 => ?_)
  all_goals
    refine q_q _ rfl rfl rfl (v_move rfl rfl) ?_
    first | refine q_gn rfl rfl rfl rfl ?_ | refine q_g _ rfl rfl rfl rfl (v_move rfl rfl) ?_
    first | refine q_gn rfl rfl rfl rfl ?_ | refine q_gtest rfl rfl rfl rfl (v_eql rfl rfl rfl) (fun h11 => ?_) (fun h11 => ?_)
    all_goals
      first | refine q_q _ rfl rfl rfl (v_pick_t rfl rfl rfl) ?_ | refine q_q _ rfl rfl rfl (v_pick_f rfl rfl rfl) ?_
      refine q_q _ rfl rfl rfl (v_move rfl rfl) ?_
      first | refine q_gn rfl rfl rfl rfl ?_ | refine q_g _ rfl rfl rfl rfl (v_move rfl rfl) ?_
      first | refine q_gn rfl rfl rfl rfl ?_ | refine q_g _ rfl rfl rfl rfl (v_sub rfl rfl rfl (by omega)) ?_
      first | refine q_gn rfl rfl rfl rfl ?_ | refine q_g _ rfl rfl rfl rfl (v_indexAddrA rfl Try.underlying27 inf3 rfl rfl (by omega)) ?_
      first | refine q_gn rfl rfl rfl rfl ?_ | refine q_g _ rfl rfl rfl rfl (v_ld1 rfl Try.underlying3 rfl rfl (t3_at (by omega) (by omega))) ?_
      first | refine q_gn rfl rfl rfl rfl ?_ | refine q_gtest rfl rfl rfl rfl (v_geq rfl rfl rfl) (fun h18 => ?_) (fun h18 => ?_)
      all_goals
        first | refine q_gn rfl rfl rfl rfl ?_ | refine q_g _ rfl rfl rfl rfl (v_move rfl rfl) ?_
        first | refine q_gn rfl rfl rfl rfl ?_ | refine q_g _ rfl rfl rfl rfl (v_move rfl rfl) ?_
        first | refine q_gn rfl rfl rfl rfl ?_ | refine q_g _ rfl rfl rfl rfl (v_sub rfl rfl rfl (by omega)) ?_
        first | refine q_gn rfl rfl rfl rfl ?_ | refine q_g _ rfl rfl rfl rfl (v_indexAddrA rfl Try.underlying27 inf3 rfl rfl (by omega)) ?_
        first | refine q_gn rfl rfl rfl rfl ?_ | refine q_g _ rfl rfl rfl rfl (v_ld1 rfl Try.underlying3 rfl rfl (t3_at (by omega) (by omega))) ?_
        first | refine q_gn rfl rfl rfl rfl ?_ | refine q_g _ rfl rfl rfl rfl (v_move rfl rfl) ?_
        first | refine q_gn rfl rfl rfl rfl ?_ | refine q_g _ rfl rfl rfl rfl (v_indexAddrAn rfl Try.underlying27 inf3 rfl rfl (by omega)) ?_
        first | refine q_gn rfl rfl rfl rfl ?_ | refine q_g _ rfl rfl rfl rfl (v_ld1 rfl Try.underlying3 rfl rfl (t3_atn (by omega))) ?_
        first | refine q_gn rfl rfl rfl rfl ?_ | refine q_gtest rfl rfl rfl rfl (v_lss rfl rfl rfl) (fun h27 => ?_) (fun h27 => ?_)
        all_goals
          first | refine q_gn rfl rfl rfl rfl ?_ | refine q_g _ rfl rfl rfl rfl (v_pick_t rfl rfl rfl) ?_ | refine q_g _ rfl rfl rfl rfl (v_pick_f rfl rfl rfl) ?_
          first | refine q_q _ rfl rfl rfl (v_pick_t rfl rfl rfl) ?_ | refine q_q _ rfl rfl rfl (v_pick_f rfl rfl rfl) ?_
          refine q_q _ rfl rfl rfl (v_assign rfl rfl) ?_
          refine q_nil ?_
          with_reducible refine r_then ?_
          refine r_ret ?_
          first | exact r_retv2 (Rd.tmp rfl rfl) (congrArg Value.bool (decide_eq_true (by unfold Ordered; (try rw [e1] at *); omega)).symm) SelMC.sel SubRC.sub | exact r_retv2 (Rd.tmp rfl rfl) (congrArg Value.bool (decide_eq_false (by unfold Ordered; (try rw [e1] at *); omega)).symm) SelMC.sel SubRC.sub
set_option maxHeartbeats 4000000 in
theorem isDays1_v (F : Work) (ro ho : Option Addr) (rc hc : Nat) (fb : Nat) (x : Int) (hr : F.rain.length ≤ 40) (hh : F.heaps.length ≤ 40) : FnV Try.prog 92 [i64 x, pt fb 0] [boxF fb 26 (cellsF F ro rc ho hc), rowD ro 2 encS F.rain, rowD ho 3 encH F.heaps] (.bool (decide (¬ (-1 ≤ x ∧ x ≤ (F.rain.length : Int) - 1)))) := by
  refine FnV.intro Try.call92 Try.func92 rfl Try.ntmps92 rfl ?_
  intro W M Rf
  refine r_seq ?_
  refine r_region ?_
  refine o_q _ rfl rfl rfl (v_assign rfl rfl) ?_
  refine o_nil ?_
  with_reducible refine r_then ?_
  refine r_seq ?_
  refine r_region ?_
  refine o_q _ rfl rfl rfl (v_move rfl rfl) ?_
  refine o_q _ rfl rfl rfl (v_fieldAddr rfl Try.underlying26 inf22 rfl rfl rfl rfl) ?_
  refine o_q _ rfl rfl rfl (v_lf1 rfl Try.underlying22 rfl rfl rfl) ?_
  refine o_q _ rfl rfl rfl (v_len rfl rfl Try.underlying22 rfl) ?_
  refine o_q _ rfl rfl rfl (v_sub rfl rfl rfl (by omega)) ?_
  refine o_test rfl rfl rfl (OpQ.fn (within_v _ _ _) rfl rfl SubRC.sub) (fun h9 => ?_) (fun h9 => ?_)
  all_goals
    refine o_q _ rfl rfl rfl (v_not rfl rfl) ?_
    refine o_q _ rfl rfl rfl (v_assign rfl rfl) ?_
    refine o_nil ?_
    with_reducible refine r_then ?_
    refine r_ret ?_
    exact r_retv2 (Rd.tmp rfl rfl) (congrArg Value.bool (by simp [*])) SelMC.sel SubRC.sub
theorem isplan_x {n : Nat} {p : T3} : (Days n p ∧ ∀ j, j < 3 → Ordered p j) ↔ IsPlan n p :=
  ⟨fun h => ⟨h.1, h.2 0 (by omega), h.2 1 (by omega), h.2 2 (by omega)⟩, fun h => ⟨h.1, fun j hj => by
    obtain rfl | rfl | rfl : j = 0 ∨ j = 1 ∨ j = 2 := by omega
    · exact h.2.1
    · exact h.2.2.1
    · exact h.2.2.2⟩⟩
theorem days_x {n : Nat} {a b c : Int} : Days n ⟨a, b, c⟩ ↔ ¬ ∃ k, k < [a, b, c].length ∧ ¬ (-1 ≤ [a, b, c].getD k default ∧ [a, b, c].getD k default ≤ (n : Int) - 1) := by
  constructor
  · rintro h ⟨k, hk, hx⟩
    have hk' : k < 3 := hk
    have := h k hk'
    obtain rfl | rfl | rfl : k = 0 ∨ k = 1 ∨ k = 2 := by omega
    all_goals exact hx this
  · intro h k hk
    obtain rfl | rfl | rfl : k = 0 ∨ k = 1 ∨ k = 2 := by omega
    · exact Classical.not_not.1 fun hx => h ⟨0, by simp, hx⟩
    · exact Classical.not_not.1 fun hx => h ⟨1, by simp, hx⟩
    · exact Classical.not_not.1 fun hx => h ⟨2, by simp, hx⟩
set_option maxHeartbeats 4000000 in
theorem isDays_v (F : Work) (ro ho : Option Addr) (rc hc : Nat) (a b c : Int) (hr : F.rain.length ≤ 40) (hh : F.heaps.length ≤ 40) : FnV Try.prog 68 [valF F ro rc ho hc, .agg #[i64 a, i64 b, i64 c]] [rowD ro 2 encS F.rain, rowD ho 3 encH F.heaps] (.bool (decide (Days F.rain.length ⟨a, b, c⟩))) := by
  refine FnV.intro Try.call68 Try.func68 rfl Try.ntmps68 rfl ?_
  intro W M Rf
  refine r_seq ?_
  refine r_region ?_
  refine o_boxA rfl rfl rfl rfl rfl (fun b2 => ?_)
  refine o_boxA rfl rfl rfl rfl rfl (fun b3 => ?_)
  refine o_q _ rfl rfl rfl (v_assign rfl rfl) ?_
  refine o_nil ?_
  with_reducible refine r_then ?_
  refine r_seq ?_
  refine Imp.sealB b2 ?_
  refine Imp.sealB b3 ?_
  refine Imp.rowB (b := b3) i64 [a, b, c] rfl ?_
  refine r_region ?_
  refine o_q _ rfl rfl rfl (v_sliceA rfl Try.underlying27 inf3 rfl) ?_
  refine o_q _ rfl rfl rfl (v_makeFunc rfl rfl rfl) ?_
  refine o_test rfl rfl rfl (OpQ.fn (ints_c (fun x : Int => ¬ (-1 ≤ x ∧ x ≤ (F.rain.length : Int) - 1)) [a, b, c] (some ⟨b3, 0, none⟩) 3 92 [pt b2 0] [boxF b2 26 (cellsF F ro rc ho hc), rowD ro 2 encS F.rain, rowD ho 3 encH F.heaps] (by simp) (fun k _ => isDays1_v F ro ho rc hc b2 _ hr hh)) rfl rfl SubRC.sub) (fun h7 => ?_) (fun h7 => ?_)
  all_goals
    refine o_q _ rfl rfl rfl (v_not rfl rfl) ?_
    refine o_q _ rfl rfl rfl (v_assign rfl rfl) ?_
    refine o_nil ?_
    with_reducible refine r_then ?_
    refine r_ret ?_
    exact r_retv2 (Rd.tmp rfl rfl) (congrArg Value.bool (by first | exact (decide_eq_true (days_x.2 (by assumption))).symm | exact (decide_eq_false (fun h => days_x.1 h (by assumption))).symm)) SelMC.sel SubRC.sub
set_option maxHeartbeats 4000000 in
theorem isPlan_v (F : Work) (ro ho : Option Addr) (rc hc : Nat) (a b c : Int) (hr : F.rain.length ≤ 40) (hh : F.heaps.length ≤ 40) : FnV Try.prog 49 [valF F ro rc ho hc, .agg #[i64 a, i64 b, i64 c]] [rowD ro 2 encS F.rain, rowD ho 3 encH F.heaps] (.bool (decide (IsPlan F.rain.length ⟨a, b, c⟩))) := by
  refine FnV.intro Try.call49 Try.func49 rfl Try.ntmps49 rfl ?_
  intro W M Rf
  refine r_seq ?_
  refine r_region ?_
  refine o_boxA rfl rfl rfl rfl rfl (fun b2 => ?_)
  refine o_boxA rfl rfl rfl rfl rfl (fun b3 => ?_)
  refine o_q _ rfl rfl rfl (v_assign rfl rfl) ?_
  refine o_nil ?_
  with_reducible refine r_then ?_
  refine r_seq ?_
  refine r_region ?_
  refine o_q _ rfl rfl rfl (v_ldW rfl Try.underlying26 rfl inf26 rfl rfl) ?_
  refine o_q _ rfl rfl rfl (v_ldW rfl Try.underlying27 rfl inf27 rfl rfl) ?_
  refine o_q _ rfl rfl rfl (OpQ.fn (isDays_v F ro ho rc hc _ _ _ hr hh) rfl rfl SubRC.sub) ?_
  refine o_q _ rfl rfl rfl (v_assign rfl rfl) ?_
  refine o_nil ?_
  with_reducible refine r_then ?_
  refine r_seq ?_
  refine r_seq ?_
  refine r_region ?_
  refine o_q _ rfl rfl rfl (v_move rfl rfl) ?_
  refine o_nil ?_
  with_reducible refine r_then ?_
  refine r_block ?_
  refine r_loop (ι := Nat) (fun k => k ≤ 3) (fun k => [(2, pt b2 0), (3, pt b3 0), (5, .bool (decide (Days F.rain.length ⟨a, b, c⟩ ∧ ∀ j, j < k → Ordered ⟨a, b, c⟩ j))), (10, i64 k)]) (fun k => bx b3 27 [i64 a, i64 b, i64 c] :: bx b2 26 (cellsF F ro rc ho hc) :: M) (fun k => [rowD ro 2 encS F.rain, rowD ho 3 encH F.heaps] ++ Rf) (fun k => 3 - k) 0 ?_ ?_ ?_
  ·
    exact r_here (by repeat (first | exact FSub.nil | refine FSub.cons rfl ?_ | refine FSub.cons2 rfl (congrArg Value.bool (by exact decide_eq_decide.2 ⟨fun h => ⟨h, fun j hj => absurd hj (by omega)⟩, fun h => h.1⟩)) ?_)) SelMC.sel SubRC.sub
  ·
    omega
  ·
    rintro k hI0
    refine r_seq ?_
    refine r_region ?_
    refine o_q _ rfl rfl rfl (v_lss rfl rfl rfl) ?_
    refine o_nil ?_
    with_reducible refine r_then ?_
    refine r_seq ?_
    refine r_condd rfl (fun hc11 => ?_) (fun hc11 => ?_)
    ·
      refine r_skip ?_
      with_reducible refine r_then ?_
      refine r_seq ?_
      refine r_block ?_
      refine r_seq ?_
      refine r_region ?_
      refine o_q _ rfl rfl rfl (v_move rfl rfl) ?_
      refine o_q _ rfl rfl rfl (v_assign rfl rfl) ?_
      refine o_nil ?_
      with_reducible refine r_then ?_
      refine r_region ?_
      refine o_q _ rfl rfl rfl (v_move rfl rfl) ?_
      refine o_test rfl rfl rfl (v_move rfl rfl) (fun h14 => ?_) (fun h14 => ?_)
      all_goals
        first | refine o_gn rfl rfl rfl rfl ?_ | refine o_g _ rfl rfl rfl rfl (v_ldW rfl Try.underlying27 rfl inf27 rfl rfl) ?_
        first | refine o_gn rfl rfl rfl rfl ?_ | refine o_g _ rfl rfl rfl rfl (v_move rfl rfl) ?_
        first | refine o_gn rfl rfl rfl rfl ?_ | refine o_g _ rfl rfl rfl rfl (OpQ.fn (ordered_v _ _ _ k (by omega)) rfl rfl SubRC.sub) ?_
        first | refine o_q _ rfl rfl rfl (v_pick_t rfl rfl rfl) ?_ | refine o_q _ rfl rfl rfl (v_pick_f rfl rfl rfl) ?_
        refine o_q _ rfl rfl rfl (v_assign rfl rfl) ?_
        refine o_nil ?_
        with_reducible refine r_in_normal ?_; refine r_then ?_
        refine r_region ?_
        refine o_q _ rfl rfl rfl (v_add rfl rfl rfl (by omega)) ?_
        refine o_q _ rfl rfl rfl (v_move rfl rfl) ?_
        refine o_nil ?_
        with_reducible refine r_then ?_
        refine r_next (k + 1) ?_ ?_ ?_
        ·
          exact r_here (by repeat (first | exact FSub.nil | refine FSub.cons rfl ?_ | refine FSub.cons2 rfl (congrArg Value.bool (by first | exact decide_eq_decide.2 ⟨fun h => ⟨h14.1, all_step h14.2 h⟩, fun h => h.2 k (by omega)⟩ | exact (decide_eq_false (fun h => h14 ⟨h.1, fun j hj => h.2 j (by omega)⟩)).symm)) ?_)) SelMC.sel SubRC.sub
        ·
          omega
        ·
          omega
    ·
      refine r_exit ?_
      with_reducible refine r_then_exit ?_; refine r_then_exit ?_; refine r_in_here ?_; refine r_then ?_
      refine r_seq ?_
      refine r_region ?_
      refine o_q _ rfl rfl rfl (v_move rfl rfl) ?_
      refine o_q _ rfl rfl rfl (v_assign rfl rfl) ?_
      refine o_nil ?_
      with_reducible refine r_then ?_
      refine r_ret ?_
      have hk : k = 3 := by omega
      subst hk
      exact r_retv2 (Rd.tmp rfl rfl) (congrArg Value.bool (decide_eq_decide.2 isplan_x)) SelMC.sel SubRC.sub
end Go.Proofs.Ytienjlmnakbfmaa


namespace Go.Proofs.Ytienjlmnakbfmaa
open Go.G Foot4
set_option maxRecDepth 1000000
attribute [local irreducible] G.ParO G.Fin
set_option maxHeartbeats 4000000 in
theorem after_v (w r d : Int) (h : -1000000 ≤ w ∧ w ≤ 1000000 ∧ -1000000 ≤ r ∧ r ≤ 1000000 ∧ -1000000 ≤ d ∧ d ≤ 1000000) : FnV Try.prog 85 [i64 w, i64 r, i64 d] [] (i64 (Foot4.step w r d)) := by
  refine FnV.intro Try.call85 Try.func85 rfl Try.ntmps85 rfl ?_
  intro W M Rf
  refine r_seq ?_
  refine r_region ?_
  refine o_q _ rfl rfl rfl (v_assign rfl rfl) ?_
  refine o_nil ?_
  with_reducible refine r_then ?_
  refine r_seq ?_
  refine r_region ?_
  refine o_q _ rfl rfl rfl (v_move rfl rfl) ?_
  refine o_q _ rfl rfl rfl (v_move rfl rfl) ?_
  refine o_q _ rfl rfl rfl (v_add rfl rfl rfl (by omega)) ?_
  refine o_q _ rfl rfl rfl (v_move rfl rfl) ?_
  refine o_q _ rfl rfl rfl (v_sub rfl rfl rfl (by omega)) ?_
  refine o_q _ rfl rfl rfl (v_max2 rfl rfl rfl) ?_
  refine o_q _ rfl rfl rfl (v_assign rfl rfl) ?_
  refine o_nil ?_
  with_reducible refine r_then ?_
  refine r_ret ?_
  exact r_retv2 (Rd.tmp rfl rfl) rfl SelMC.sel SubRC.sub
set_option maxHeartbeats 4000000 in
theorem fits_v (w l : Int) : FnV Try.prog 93 [i64 w, i64 l] [] (.bool (decide (w ≤ l))) := by
  refine FnV.intro Try.call93 Try.func93 rfl Try.ntmps93 rfl ?_
  intro W M Rf
  refine r_seq ?_
  refine r_region ?_
  refine o_q _ rfl rfl rfl (v_assign rfl rfl) ?_
  refine o_nil ?_
  with_reducible refine r_then ?_
  refine r_seq ?_
  refine r_region ?_
  refine o_q _ rfl rfl rfl (v_move rfl rfl) ?_
  refine o_q _ rfl rfl rfl (v_move rfl rfl) ?_
  refine o_q _ rfl rfl rfl (v_leq rfl rfl rfl) ?_
  refine o_q _ rfl rfl rfl (v_assign rfl rfl) ?_
  refine o_nil ?_
  with_reducible refine r_then ?_
  refine r_ret ?_
  exact r_retv2 (Rd.tmp rfl rfl) rfl SelMC.sel SubRC.sub
set_option maxHeartbeats 4000000 in
theorem dry_v (lo hi : Int) : FnV Try.prog 121 [.agg #[], .agg #[i64 lo, i64 hi]] [] (i64 lo) := by
  refine FnV.intro Try.call121 Try.func121 rfl Try.ntmps121 rfl ?_
  intro W M Rf
  refine r_seq ?_
  refine r_region ?_
  refine o_boxA rfl rfl rfl rfl rfl (fun b2 => ?_)
  refine o_boxA rfl rfl rfl rfl rfl (fun b3 => ?_)
  refine o_q _ rfl rfl rfl (v_assign rfl rfl) ?_
  refine o_nil ?_
  with_reducible refine r_then ?_
  refine r_seq ?_
  refine r_region ?_
  refine o_q _ rfl rfl rfl (v_fieldAddr rfl Try.underlying31 inf3 rfl rfl rfl rfl) ?_
  refine o_q _ rfl rfl rfl (v_ld1 rfl Try.underlying3 rfl rfl rfl) ?_
  refine o_q _ rfl rfl rfl (v_assign rfl rfl) ?_
  refine o_nil ?_
  with_reducible refine r_then ?_
  refine r_ret ?_
  exact r_retv2 (Rd.tmp rfl rfl) rfl SelMC.sel SubRC.sub
set_option maxHeartbeats 4000000 in
theorem wet0_v (lo hi : Int) (hl : -1000 ≤ lo ∧ lo ≤ 1000) (hh : -1000 ≤ hi ∧ hi ≤ 1000) : FnV Try.prog 122 [.agg #[], .agg #[i64 lo, i64 hi]] [] (i64 hi) := by
  refine FnV.intro Try.call122 Try.func122 rfl Try.ntmps122 rfl ?_
  intro W M Rf
  refine r_seq ?_
  refine r_region ?_
  refine o_boxA rfl rfl rfl rfl rfl (fun b2 => ?_)
  refine o_boxA rfl rfl rfl rfl rfl (fun b3 => ?_)
  refine o_q _ rfl rfl rfl (v_assign rfl rfl) ?_
  refine o_nil ?_
  with_reducible refine r_then ?_
  refine r_seq ?_
  refine r_region_q mixed (by kernel_rfl) ?_
  refine q_q _ rfl rfl rfl (v_fieldAddr0 rfl Try.underlying90 inf88 rfl rfl rfl rfl rfl (by kernel_rfl) rfl) ?_
  refine q_q _ rfl rfl rfl (v_ldW rfl Try.underlying88 rfl inf88 rfl rfl) ?_
  refine q_q _ rfl rfl rfl (v_ldW rfl Try.underlying31 rfl inf31 rfl rfl) ?_
  refine q_q _ rfl rfl rfl (OpQ.fn (dry_v _ _) rfl rfl SubRC.sub) ?_
  refine q_q _ rfl rfl rfl (v_fieldAddr rfl Try.underlying31 inf3 rfl rfl rfl rfl) ?_
  refine q_q _ rfl rfl rfl (v_ld1 rfl Try.underlying3 rfl rfl rfl) ?_
  refine q_q _ rfl rfl rfl (v_fieldAddr rfl Try.underlying31 inf3 rfl rfl rfl rfl) ?_
  refine q_q _ rfl rfl rfl (v_ld1 rfl Try.underlying3 rfl rfl rfl) ?_
  refine q_q _ rfl rfl rfl (v_sub rfl rfl rfl (by omega)) ?_
  refine q_q _ rfl rfl rfl (v_add rfl rfl rfl (by omega)) ?_
  refine q_q _ rfl rfl rfl (v_assign rfl rfl) ?_
  refine q_nil ?_
  with_reducible refine r_then ?_
  refine r_ret ?_
  exact r_retv2 (Rd.tmp rfl rfl) (congrArg (Value.int .i64) (by omega)) SelMC.sel SubRC.sub
set_option maxHeartbeats 4000000 in
theorem ask_t (e : Int) : FnV Try.prog 62 [.bool true, i64 e] [] (.tuple #[]) := by
  refine FnV.intro Try.call62 Try.func62 rfl Try.ntmps62 rfl ?_
  intro W M Rf
  refine r_seq ?_
  refine r_region ?_
  refine o_q _ rfl rfl rfl (v_move rfl rfl) ?_
  refine o_q _ rfl rfl rfl (v_not rfl rfl) ?_
  refine o_nil ?_
  with_reducible refine r_then ?_
  refine r_cond rfl (fun hc5 => ?_) (fun hc5 => ?_)
  ·
    (exfalso; revert hc5; decide)
  ·
    refine r_skip ?_
    exact r_endv (Rd.none rfl) SelMC.sel SubRC.sub
set_option maxHeartbeats 4000000 in
theorem ask_f (e : Int) : FnX Try.prog 62 [.bool false, i64 e] [] (.iface 121 (i64 e)) := by
  refine FnX.intro Try.call62 Try.func62 rfl Try.ntmps62 rfl ?_
  intro W M Rf
  refine r_seq ?_
  refine r_region ?_
  refine o_q _ rfl rfl rfl (v_move rfl rfl) ?_
  refine o_q _ rfl rfl rfl (v_not rfl rfl) ?_
  refine o_nil ?_
  with_reducible refine r_then ?_
  refine r_cond rfl (fun hc5 => ?_) (fun hc5 => ?_)
  ·
    refine r_region ?_
    refine o_q _ rfl rfl rfl (v_move rfl rfl) ?_
    refine o_q _ rfl rfl rfl (v_makeIface rfl Try.underlying121 rfl rfl) ?_
    refine o_panic rfl rfl rfl ?_
    exact r_retx SelMC.sel SubRC.sub
  ·
    (exfalso; revert hc5; decide)
set_option maxHeartbeats 4000000 in
theorem answer_ans : AnsP Try.prog 46 .i64 121 32 := by
  refine ⟨Try.call46, fun W M R w b hw => ?_, fun W M R w b x y hw => ?_⟩
  · refine ans_intro (args := [pt b 0]) (u' := .returning) (v := .nilIface) Try.func46 rfl Try.ntmps46 rfl rfl rfl rfl rfl rfl rfl rfl rfl (fun c₀ cs h => .inr ⟨rec_ret h, rfl, rfl⟩) hw ?_
    intro c₀ cs
    refine r_seq ?_
    refine r_region ?_
    refine o_q _ rfl rfl rfl (v_move rfl rfl) ?_
    refine o_q _ rfl rfl rfl (v_ifnil rfl Try.underlying20 rfl) ?_
    refine o_nil ?_
    with_reducible refine r_then ?_
    refine r_cond rfl (fun hc7 => ?_) (fun hc7 => ?_)
    ·
      (exfalso; revert hc7; decide)
    ·
      refine r_skip ?_
      exact r_ends (Rd.none rfl) (fun w' h => ⟨⟨_, rfl⟩, rfl, h⟩)
  · refine ans_intro (args := [pt b 0]) (u' := .panicking [{ v := .iface 121 (i64 y), recovered := true }]) (v := .iface 121 (i64 y)) Try.func46 rfl Try.ntmps46 rfl rfl rfl rfl rfl rfl rfl rfl rfl (fun c₀ cs h => .inl (rec_pan h)) hw ?_
    intro c₀ cs
    refine r_seq ?_
    refine r_region ?_
    refine o_q _ rfl rfl rfl (v_move rfl rfl) ?_
    refine o_q _ rfl rfl rfl (v_ifnn rfl Try.underlying20 rfl) ?_
    refine o_nil ?_
    with_reducible refine r_then ?_
    refine r_cond rfl (fun hc7 => ?_) (fun hc7 => ?_)
    ·
      refine r_seq ?_
      refine r_region ?_
      refine o_q _ rfl rfl rfl (v_move rfl rfl) ?_
      refine o_q _ rfl rfl rfl (v_assertOk rfl Try.underlying121 rfl rfl) ?_
      refine o_q _ rfl rfl rfl (v_move rfl rfl) ?_
      refine o_q _ rfl rfl rfl (v_extract rfl rfl rfl) ?_
      refine o_q _ rfl rfl rfl (v_extract rfl rfl rfl) ?_
      refine o_q _ rfl rfl rfl (v_assign rfl rfl) ?_
      refine o_q _ rfl rfl rfl (v_assign rfl rfl) ?_
      refine o_nil ?_
      with_reducible refine r_then ?_
      refine r_seq ?_
      refine r_seq ?_
      refine r_region ?_
      refine o_q _ rfl rfl rfl (v_move rfl rfl) ?_
      refine o_q _ rfl rfl rfl (v_not rfl rfl) ?_
      refine o_nil ?_
      with_reducible refine r_then ?_
      refine r_cond rfl (fun hc14 => ?_) (fun hc14 => ?_)
      ·
        (exfalso; revert hc14; decide)
      ·
        refine r_skip ?_
        with_reducible refine r_then ?_
        refine r_region ?_
        refine o_q _ rfl rfl rfl (v_move rfl rfl) ?_
        refine o_q _ rfl rfl rfl (v_move rfl rfl) ?_
        refine o_q _ rfl rfl rfl (v_nilCheck rfl rfl) ?_
        refine o_st rfl inf32 rfl rfl rfl rfl rfl rfl rfl rfl ?_
        refine o_nil ?_
        exact r_ends (Rd.none rfl) (fun w' h => ⟨⟨_, rfl⟩, rfl, h⟩)
    ·
      (exfalso; revert hc7; decide)
end Go.Proofs.Ytienjlmnakbfmaa


namespace Go.Proofs.Ytienjlmnakbfmaa
open Go.G Foot4
set_option maxRecDepth 1000000
attribute [local irreducible] G.ParO G.Fin
theorem chk_1 {F : Work} {v : Bool} (h : ¬ GoodF F) : chk F v = 1 := if_neg h
theorem chk_2 {F : Work} {v : Bool} (hv : ¬ v = true) (h : GoodF F) : chk F v = 2 := by unfold chk; rw [if_pos h, if_neg hv]
theorem chk_0 {F : Work} {v : Bool} (hv : v = true) (h : GoodF F) : chk F v = 0 := by unfold chk; rw [if_pos h, if_pos hv]
theorem goodrain {F : Work} (h : ¬ ∃ k, k < F.rain.length ∧ ¬ SpanOk (F.rain.getD k default) 10) : ∀ k, k < F.rain.length → 0 ≤ (F.rain.getD k default).lo ∧ (F.rain.getD k default).lo ≤ (F.rain.getD k default).hi ∧ (F.rain.getD k default).hi ≤ 10 := by
  intro k hk
  exact Classical.not_not.1 fun hx => h ⟨k, hk, hx⟩
theorem norain {F : Work} (h : ∃ k, k < F.rain.length ∧ ¬ SpanOk (F.rain.getD k default) 10) (g : ∀ k, k < F.rain.length → 0 ≤ (F.rain.getD k default).lo ∧ (F.rain.getD k default).lo ≤ (F.rain.getD k default).hi ∧ (F.rain.getD k default).hi ≤ 10) : False := by
  obtain ⟨k, hk, hx⟩ := h
  exact hx (g k hk)
theorem r_panx {P : Program} {W : World} {n : Nat} {D : List Deferred} {L : Tm} {M : List Res} {R : List Fact} {fn : Func} {Rr : Ending → World → Prop} {c : List PanicEntry} (h : False) : Imp W n D L M R (bodyPost P fn Rr (.panic c)) := h.elim
theorem r_retx2 {P : Program} {W : World} {n : Nat} {L : Tm} {M : List Res} {R : List Fact} {fn : Func} {M0 : List Res} {R0 : List Fact} {t : TypeId} {x y : Int} (he : x = y) (hM : SelM M M0) (hR : SubR R R0) : Imp W n [] L M R (bodyPost P fn (RetX W M0 R0 (.iface t (i64 y))) (.panic [{ v := .iface t (i64 x), recovered := false }])) := by
  subst he; exact r_retx hM hR
set_option maxHeartbeats 4000000 in
theorem open_ok (F : Work) (ro ho : Option Addr) (rc hc : Nat) (hr : F.rain.length ≤ 40) (hh : F.heaps.length ≤ 40) (g : GoodF F) : FnR Try.prog 47 [valF F ro rc ho hc, .bool true] [rowD ro 2 encS F.rain, rowD ho 3 encH F.heaps] (isP) (fun v => [boxF (blk v) 126 (cellsF F ro rc ho hc)]) := by
  refine FnR.intro Try.call47 Try.func47 rfl Try.ntmps47 rfl ?_
  intro W M Rf
  refine r_seq ?_
  refine r_region ?_
  refine o_boxA rfl rfl rfl rfl rfl (fun b2 => ?_)
  refine o_q _ rfl rfl rfl (v_assign rfl rfl) ?_
  refine o_nil ?_
  with_reducible refine r_then ?_
  refine r_seq ?_
  refine r_region ?_
  refine o_q _ rfl rfl rfl (v_fieldAddr rfl Try.underlying26 inf22 rfl rfl rfl rfl) ?_
  refine o_q _ rfl rfl rfl (v_ld1 rfl Try.underlying22 rfl rfl rfl) ?_
  refine o_q _ rfl rfl rfl (v_len rfl rfl Try.underlying22 rfl) ?_
  refine o_test rfl rfl rfl (OpQ.fn (within_v _ _ _) rfl rfl SubRC.sub) (fun h11 => ?_) (fun h11 => ?_)
  all_goals
    refine o_q _ rfl rfl rfl (v_move rfl rfl) ?_
    first | refine o_gn rfl rfl rfl rfl ?_ | refine o_g _ rfl rfl rfl rfl (v_fieldAddr rfl Try.underlying26 inf3 rfl rfl rfl rfl) ?_
    first | refine o_gn rfl rfl rfl rfl ?_ | refine o_g _ rfl rfl rfl rfl (v_ld1 rfl Try.underlying3 rfl rfl rfl) ?_
    first | refine o_gn rfl rfl rfl rfl ?_ | refine o_gtest rfl rfl rfl rfl (OpQ.fn (within_v _ _ _) rfl rfl SubRC.sub) (fun h15 => ?_) (fun h15 => ?_)
    all_goals
      first | refine o_q _ rfl rfl rfl (v_pick_t rfl rfl rfl) ?_ | refine o_q _ rfl rfl rfl (v_pick_f rfl rfl rfl) ?_
      refine o_q _ rfl rfl rfl (v_move rfl rfl) ?_
      first | refine o_gn rfl rfl rfl rfl ?_ | refine o_g _ rfl rfl rfl rfl (v_fieldAddr rfl Try.underlying26 inf24 rfl rfl rfl rfl) ?_
      first | refine o_gn rfl rfl rfl rfl ?_ | refine o_g _ rfl rfl rfl rfl (v_ld1 rfl Try.underlying24 rfl rfl rfl) ?_
      first | refine o_gn rfl rfl rfl rfl ?_ | refine o_g _ rfl rfl rfl rfl (v_len rfl rfl Try.underlying24 rfl) ?_
      first | refine o_gn rfl rfl rfl rfl ?_ | refine o_gtest rfl rfl rfl rfl (v_leq rfl rfl rfl) (fun h21 => ?_) (fun h21 => ?_)
      all_goals
        first | refine o_q _ rfl rfl rfl (v_pick_t rfl rfl rfl) ?_ | refine o_q _ rfl rfl rfl (v_pick_f rfl rfl rfl) ?_
        first | refine o_q _ rfl rfl rfl (OpQ.fn (ask_t _) rfl rfl SubRC.sub) ?_ | refine o_fnx (ask_f _) rfl rfl rfl SubRC.sub ?_
        repeat (first | with_reducible refine r_then_panic ?_)
        try (refine r_panx ?_; (obtain ⟨g1, g2, g3, g4, g5, g6⟩ := g; first | omega | exact absurd rfl (by assumption) | exact norain (by assumption) g4 | (have g9 := g5 k1 (by omega); omega) | (have g9 := g6 k2 (by omega); omega)))
        all_goals
          refine o_nil ?_
          with_reducible refine r_then ?_
          refine r_seq ?_
          refine r_region ?_
          refine o_q _ rfl rfl rfl (v_fieldAddr rfl Try.underlying26 inf22 rfl rfl rfl rfl) ?_
          refine o_q _ rfl rfl rfl (v_ld1 rfl Try.underlying22 rfl rfl rfl) ?_
          refine o_test rfl rfl rfl (OpQ.fn (spans_c (fun s => ¬ SpanOk s 10) F.rain ro rc 83 [] [] (by omega) (fun k _ => open1_v _)) rfl rfl SubRC.sub) (fun h26 => ?_) (fun h26 => ?_)
          all_goals
            refine o_q _ rfl rfl rfl (v_not rfl rfl) ?_
            first | refine o_q _ rfl rfl rfl (OpQ.fn (ask_t _) rfl rfl SubRC.sub) ?_ | refine o_fnx (ask_f _) rfl rfl rfl SubRC.sub ?_
            repeat (first | with_reducible refine r_then_panic ?_)
            try (refine r_panx ?_; (obtain ⟨g1, g2, g3, g4, g5, g6⟩ := g; first | omega | exact absurd rfl (by assumption) | exact norain (by assumption) g4 | (have g9 := g5 k1 (by omega); omega) | (have g9 := g6 k2 (by omega); omega)))
            all_goals
              refine o_nil ?_
              with_reducible refine r_then ?_
              refine r_seq ?_
              refine r_seq ?_
              refine r_region ?_
              refine o_q _ rfl rfl rfl (v_move rfl rfl) ?_
              refine o_nil ?_
              with_reducible refine r_then ?_
              refine r_block ?_
              refine r_loop (ι := Nat) (fun k1 => k1 ≤ 3 ∧ ∀ j, j < k1 → (0 ≤ F.lim.at j ∧ F.lim.at j ≤ 60) ∧ (0 ≤ F.dr.at j ∧ F.dr.at j ≤ 10)) (fun k1 => [(1, .bool true), (2, pt b2 0), (29, i64 k1)]) (fun k1 => bx b2 26 (cellsF F ro rc ho hc) :: M) (fun k1 => [rowD ro 2 encS F.rain, rowD ho 3 encH F.heaps] ++ Rf) (fun k1 => 3 - k1) 0 ?_ ?_ ?_
              ·
                exact r_here (by repeat (first | exact FSub.nil | refine FSub.cons rfl ?_)) SelMC.sel SubRC.sub
              ·
                exact ⟨by omega, fun j hj => absurd hj (by omega)⟩
              ·
                rintro k1 hI0
                refine r_seq ?_
                refine r_region ?_
                refine o_q _ rfl rfl rfl (v_lss rfl rfl rfl) ?_
                refine o_nil ?_
                with_reducible refine r_then ?_
                refine r_seq ?_
                refine r_condd rfl (fun hc30 => ?_) (fun hc30 => ?_)
                ·
                  refine r_skip ?_
                  with_reducible refine r_then ?_
                  refine r_seq ?_
                  refine r_block ?_
                  refine r_seq ?_
                  refine r_region ?_
                  refine o_q _ rfl rfl rfl (v_move rfl rfl) ?_
                  refine o_q _ rfl rfl rfl (v_assign rfl rfl) ?_
                  refine o_nil ?_
                  with_reducible refine r_then ?_
                  refine r_region ?_
                  refine o_q _ rfl rfl rfl (v_move rfl rfl) ?_
                  refine o_q _ rfl rfl rfl (v_fieldAddr rfl Try.underlying26 inf23 rfl rfl rfl rfl) ?_
                  refine o_q _ rfl rfl rfl (v_indexAddrAn rfl Try.underlying23 inf3 rfl rfl (by omega)) ?_
                  refine o_q _ rfl rfl rfl (v_ld1 rfl Try.underlying3 rfl rfl (F_limn (by omega))) ?_
                  refine o_test rfl rfl rfl (OpQ.fn (within_v _ _ _) rfl rfl SubRC.sub) (fun h36 => ?_) (fun h36 => ?_)
                  all_goals
                    refine o_q _ rfl rfl rfl (v_move rfl rfl) ?_
                    first | refine o_gn rfl rfl rfl rfl ?_ | refine o_g _ rfl rfl rfl rfl (v_move rfl rfl) ?_
                    first | refine o_gn rfl rfl rfl rfl ?_ | refine o_g _ rfl rfl rfl rfl (v_fieldAddr rfl Try.underlying26 inf23 rfl rfl rfl rfl) ?_
                    first | refine o_gn rfl rfl rfl rfl ?_ | refine o_g _ rfl rfl rfl rfl (v_indexAddrAn rfl Try.underlying23 inf3 rfl rfl (by omega)) ?_
                    first | refine o_gn rfl rfl rfl rfl ?_ | refine o_g _ rfl rfl rfl rfl (v_ld1 rfl Try.underlying3 rfl rfl (F_drn (by omega))) ?_
                    first | refine o_gn rfl rfl rfl rfl ?_ | refine o_gtest rfl rfl rfl rfl (OpQ.fn (within_v _ _ _) rfl rfl SubRC.sub) (fun h42 => ?_) (fun h42 => ?_)
                    all_goals
                      first | refine o_q _ rfl rfl rfl (v_pick_t rfl rfl rfl) ?_ | refine o_q _ rfl rfl rfl (v_pick_f rfl rfl rfl) ?_
                      first | refine o_q _ rfl rfl rfl (OpQ.fn (ask_t _) rfl rfl SubRC.sub) ?_ | refine o_fnx (ask_f _) rfl rfl rfl SubRC.sub ?_
                      repeat (first | with_reducible refine r_then_panic ?_ | with_reducible refine r_in_panic ?_)
                      try (refine r_panx ?_; (obtain ⟨g1, g2, g3, g4, g5, g6⟩ := g; first | omega | exact absurd rfl (by assumption) | exact norain (by assumption) g4 | (have g9 := g5 k1 (by omega); omega) | (have g9 := g6 k2 (by omega); omega)))
                      all_goals
                        refine o_nil ?_
                        with_reducible refine r_in_normal ?_; refine r_then ?_
                        refine r_region ?_
                        refine o_q _ rfl rfl rfl (v_add rfl rfl rfl (by omega)) ?_
                        refine o_q _ rfl rfl rfl (v_move rfl rfl) ?_
                        refine o_nil ?_
                        with_reducible refine r_then ?_
                        refine r_next (k1 + 1) ?_ ?_ ?_
                        ·
                          exact r_here (by repeat (first | exact FSub.nil | refine FSub.cons rfl ?_)) SelMC.sel SubRC.sub
                        ·
                          exact ⟨by omega, all_step hI0.2 ⟨by assumption, by assumption⟩⟩
                        ·
                          omega
                ·
                  refine r_exit ?_
                  with_reducible refine r_then_exit ?_; refine r_then_exit ?_; refine r_in_here ?_; refine r_then ?_
                  refine r_seq ?_
                  refine r_seq ?_
                  refine r_region ?_
                  refine o_q _ rfl rfl rfl (v_fieldAddr rfl Try.underlying26 inf24 rfl rfl rfl rfl) ?_
                  refine o_q _ rfl rfl rfl (v_ld1 rfl Try.underlying24 rfl rfl rfl) ?_
                  refine o_q _ rfl rfl rfl (v_len rfl rfl Try.underlying24 rfl) ?_
                  refine o_q _ rfl rfl rfl (v_move rfl rfl) ?_
                  refine o_nil ?_
                  with_reducible refine r_then ?_
                  refine r_block ?_
                  refine r_loop (ι := Nat) (fun k2 => k2 ≤ F.heaps.length ∧ ∀ j, j < k2 → (0 ≤ (F.heaps.getD j default).lo ∧ (F.heaps.getD j default).lo ≤ (F.heaps.getD j default).hi ∧ (F.heaps.getD j default).hi ≤ 60) ∧ (0 ≤ (F.heaps.getD j default).sods ∧ (F.heaps.getD j default).sods ≤ 500)) (fun k2 => [(1, .bool true), (2, pt b2 0), (47, .slice ho F.heaps.length hc), (48, i64 F.heaps.length), (49, i64 k2)]) (fun k2 => bx b2 26 (cellsF F ro rc ho hc) :: M) (fun k2 => [rowD ro 2 encS F.rain, rowD ho 3 encH F.heaps] ++ Rf) (fun k2 => F.heaps.length - k2) 0 ?_ ?_ ?_
                  ·
                    exact r_here (by repeat (first | exact FSub.nil | refine FSub.cons rfl ?_)) SelMC.sel SubRC.sub
                  ·
                    exact ⟨by omega, fun j hj => absurd hj (by omega)⟩
                  ·
                    rintro k2 hI1
                    refine r_seq ?_
                    refine r_region ?_
                    refine o_q _ rfl rfl rfl (v_lss rfl rfl rfl) ?_
                    refine o_nil ?_
                    with_reducible refine r_then ?_
                    refine r_seq ?_
                    refine r_condd rfl (fun hc50 => ?_) (fun hc50 => ?_)
                    ·
                      refine r_skip ?_
                      with_reducible refine r_then ?_
                      refine r_seq ?_
                      refine r_block ?_
                      refine r_seq ?_
                      refine r_region ?_
                      refine o_q _ rfl rfl rfl (v_indexAddrSn rfl Try.underlying24 inf73 rfl rfl rfl (by omega) rfl) ?_
                      refine o_q _ rfl rfl rfl (v_loadEN rfl Try.underlying73 rfl inf73 rfl (by omega) rfl rfl rfl) ?_
                      refine o_alloc rfl inf73 rfl rfl rfl rfl rfl (fun b7 => ?_)
                      refine o_st rfl inf73 rfl rfl rfl rfl rfl rfl rfl rfl ?_
                      refine o_nil ?_
                      with_reducible refine r_then ?_
                      refine r_region ?_
                      refine o_q _ rfl rfl rfl (v_fieldAddr rfl Try.underlying73 inf31 rfl rfl rfl rfl) ?_
                      refine o_q _ rfl rfl rfl (v_ldN rfl Try.underlying31 rfl inf31 rfl rfl rfl) ?_
                      refine o_test rfl rfl rfl (OpQ.fn (isSpan_v _ _ _ _) rfl rfl SubRC.sub) (fun h55 => ?_) (fun h55 => ?_)
                      all_goals
                        refine o_q _ rfl rfl rfl (v_move rfl rfl) ?_
                        first | refine o_gn rfl rfl rfl rfl ?_ | refine o_g _ rfl rfl rfl rfl (v_fieldAddr rfl Try.underlying73 inf3 rfl rfl rfl rfl) ?_
                        first | refine o_gn rfl rfl rfl rfl ?_ | refine o_g _ rfl rfl rfl rfl (v_ld1 rfl Try.underlying3 rfl rfl rfl) ?_
                        first | refine o_gn rfl rfl rfl rfl ?_ | refine o_gtest rfl rfl rfl rfl (OpQ.fn (within_v _ _ _) rfl rfl SubRC.sub) (fun h59 => ?_) (fun h59 => ?_)
                        all_goals
                          first | refine o_q _ rfl rfl rfl (v_pick_t rfl rfl rfl) ?_ | refine o_q _ rfl rfl rfl (v_pick_f rfl rfl rfl) ?_
                          first | refine o_q _ rfl rfl rfl (OpQ.fn (ask_t _) rfl rfl SubRC.sub) ?_ | refine o_fnx (ask_f _) rfl rfl rfl SubRC.sub ?_
                          repeat (first | with_reducible refine r_then_panic ?_ | with_reducible refine r_in_panic ?_)
                          try (refine r_panx ?_; (obtain ⟨g1, g2, g3, g4, g5, g6⟩ := g; first | omega | exact absurd rfl (by assumption) | exact norain (by assumption) g4 | (have g9 := g5 k1 (by omega); omega) | (have g9 := g6 k2 (by omega); omega)))
                          all_goals
                            refine o_nil ?_
                            with_reducible refine r_in_normal ?_; refine r_then ?_
                            refine r_region ?_
                            refine o_q _ rfl rfl rfl (v_add rfl rfl rfl (by omega)) ?_
                            refine o_q _ rfl rfl rfl (v_move rfl rfl) ?_
                            refine o_nil ?_
                            with_reducible refine r_then ?_
                            refine r_next (k2 + 1) ?_ ?_ ?_
                            ·
                              exact r_here (by repeat (first | exact FSub.nil | refine FSub.cons rfl ?_)) SelMC.sel SubRC.sub
                            ·
                              exact ⟨by omega, all_step hI1.2 ⟨by assumption, by assumption⟩⟩
                            ·
                              omega
                    ·
                      refine r_exit ?_
                      with_reducible refine r_then_exit ?_; refine r_then_exit ?_; refine r_in_here ?_; refine r_then ?_
                      refine r_seq ?_
                      refine r_region ?_
                      refine o_test rfl rfl rfl (OpQ.asTest (v_move rfl rfl)) (fun h63 => ?_) (fun h63 => ?_)
                      all_goals
                        first | refine o_q _ rfl rfl rfl (OpQ.fn (ask_t _) rfl rfl SubRC.sub) ?_ | refine o_fnx (ask_f _) rfl rfl rfl SubRC.sub ?_
                        repeat (first | with_reducible refine r_then_panic ?_)
                        try (refine r_panx ?_; (obtain ⟨g1, g2, g3, g4, g5, g6⟩ := g; first | omega | exact absurd rfl (by assumption) | exact norain (by assumption) g4 | (have g9 := g5 k1 (by omega); omega) | (have g9 := g6 k2 (by omega); omega)))
                        all_goals
                          refine o_nil ?_
                          with_reducible refine r_then ?_
                          refine r_seq ?_
                          refine r_region ?_
                          refine o_q _ rfl rfl rfl (v_ldW rfl Try.underlying26 rfl inf26 rfl rfl) ?_
                          refine o_q _ rfl rfl rfl (v_bS rfl Try.underlying126 inf126 plt126 rfl rfl rfl (by repeat (first | exact trivial | refine ⟨rfl, ?_⟩)) (by rfl)) ?_
                          refine o_boxA rfl rfl rfl rfl rfl (fun b67 => ?_)
                          refine o_q _ rfl rfl rfl (v_assign rfl rfl) ?_
                          refine o_nil ?_
                          with_reducible refine r_then ?_
                          refine r_ret ?_
                          refine Imp.sealB b67 ?_
                          exact r_retr (Rd.tmp rfl rfl) (isP_pt b67) SelMC.sel (fun _ h => h)
set_option maxHeartbeats 4000000 in
theorem open_x (F : Work) (ro ho : Option Addr) (rc hc : Nat) (v : Bool) (hr : F.rain.length ≤ 40) (hh : F.heaps.length ≤ 40) (hx : chk F v ≠ 0) : FnX Try.prog 47 [valF F ro rc ho hc, .bool v] [rowD ro 2 encS F.rain, rowD ho 3 encH F.heaps] (.iface 121 (i64 (chk F v))) := by
  refine FnX.intro Try.call47 Try.func47 rfl Try.ntmps47 rfl ?_
  intro W M Rf
  refine r_seq ?_
  refine r_region ?_
  refine o_boxA rfl rfl rfl rfl rfl (fun b2 => ?_)
  refine o_q _ rfl rfl rfl (v_assign rfl rfl) ?_
  refine o_nil ?_
  with_reducible refine r_then ?_
  refine r_seq ?_
  refine r_region ?_
  refine o_q _ rfl rfl rfl (v_fieldAddr rfl Try.underlying26 inf22 rfl rfl rfl rfl) ?_
  refine o_q _ rfl rfl rfl (v_ld1 rfl Try.underlying22 rfl rfl rfl) ?_
  refine o_q _ rfl rfl rfl (v_len rfl rfl Try.underlying22 rfl) ?_
  refine o_test rfl rfl rfl (OpQ.fn (within_v _ _ _) rfl rfl SubRC.sub) (fun h11 => ?_) (fun h11 => ?_)
  all_goals
    refine o_q _ rfl rfl rfl (v_move rfl rfl) ?_
    first | refine o_gn rfl rfl rfl rfl ?_ | refine o_g _ rfl rfl rfl rfl (v_fieldAddr rfl Try.underlying26 inf3 rfl rfl rfl rfl) ?_
    first | refine o_gn rfl rfl rfl rfl ?_ | refine o_g _ rfl rfl rfl rfl (v_ld1 rfl Try.underlying3 rfl rfl rfl) ?_
    first | refine o_gn rfl rfl rfl rfl ?_ | refine o_gtest rfl rfl rfl rfl (OpQ.fn (within_v _ _ _) rfl rfl SubRC.sub) (fun h15 => ?_) (fun h15 => ?_)
    all_goals
      first | refine o_q _ rfl rfl rfl (v_pick_t rfl rfl rfl) ?_ | refine o_q _ rfl rfl rfl (v_pick_f rfl rfl rfl) ?_
      refine o_q _ rfl rfl rfl (v_move rfl rfl) ?_
      first | refine o_gn rfl rfl rfl rfl ?_ | refine o_g _ rfl rfl rfl rfl (v_fieldAddr rfl Try.underlying26 inf24 rfl rfl rfl rfl) ?_
      first | refine o_gn rfl rfl rfl rfl ?_ | refine o_g _ rfl rfl rfl rfl (v_ld1 rfl Try.underlying24 rfl rfl rfl) ?_
      first | refine o_gn rfl rfl rfl rfl ?_ | refine o_g _ rfl rfl rfl rfl (v_len rfl rfl Try.underlying24 rfl) ?_
      first | refine o_gn rfl rfl rfl rfl ?_ | refine o_gtest rfl rfl rfl rfl (v_leq rfl rfl rfl) (fun h21 => ?_) (fun h21 => ?_)
      all_goals
        first | refine o_q _ rfl rfl rfl (v_pick_t rfl rfl rfl) ?_ | refine o_q _ rfl rfl rfl (v_pick_f rfl rfl rfl) ?_
        first | refine o_q _ rfl rfl rfl (OpQ.fn (ask_t _) rfl rfl SubRC.sub) ?_ | refine o_fnx (ask_f _) rfl rfl rfl SubRC.sub ?_
        repeat (first | with_reducible refine r_then_panic ?_)
        try (first | exact r_retx2 (chk_2 (by assumption) ⟨by omega, by omega, by omega, goodrain (by assumption), fun j hj => hI0.2 j (by omega), fun j hj => hI1.2 j (by omega)⟩).symm SelMC.sel SubRC.sub | exact r_retx2 (chk_1 (fun g => by obtain ⟨g1, g2, g3, g4, g5, g6⟩ := g; first | omega | exact absurd rfl (by assumption) | exact norain (by assumption) g4 | (have g9 := g5 k1 (by omega); omega) | (have g9 := g6 k2 (by omega); omega))).symm SelMC.sel SubRC.sub)
        all_goals
          refine o_nil ?_
          with_reducible refine r_then ?_
          refine r_seq ?_
          refine r_region ?_
          refine o_q _ rfl rfl rfl (v_fieldAddr rfl Try.underlying26 inf22 rfl rfl rfl rfl) ?_
          refine o_q _ rfl rfl rfl (v_ld1 rfl Try.underlying22 rfl rfl rfl) ?_
          refine o_test rfl rfl rfl (OpQ.fn (spans_c (fun s => ¬ SpanOk s 10) F.rain ro rc 83 [] [] (by omega) (fun k _ => open1_v _)) rfl rfl SubRC.sub) (fun h26 => ?_) (fun h26 => ?_)
          all_goals
            refine o_q _ rfl rfl rfl (v_not rfl rfl) ?_
            first | refine o_q _ rfl rfl rfl (OpQ.fn (ask_t _) rfl rfl SubRC.sub) ?_ | refine o_fnx (ask_f _) rfl rfl rfl SubRC.sub ?_
            repeat (first | with_reducible refine r_then_panic ?_)
            try (first | exact r_retx2 (chk_2 (by assumption) ⟨by omega, by omega, by omega, goodrain (by assumption), fun j hj => hI0.2 j (by omega), fun j hj => hI1.2 j (by omega)⟩).symm SelMC.sel SubRC.sub | exact r_retx2 (chk_1 (fun g => by obtain ⟨g1, g2, g3, g4, g5, g6⟩ := g; first | omega | exact absurd rfl (by assumption) | exact norain (by assumption) g4 | (have g9 := g5 k1 (by omega); omega) | (have g9 := g6 k2 (by omega); omega))).symm SelMC.sel SubRC.sub)
            all_goals
              refine o_nil ?_
              with_reducible refine r_then ?_
              refine r_seq ?_
              refine r_seq ?_
              refine r_region ?_
              refine o_q _ rfl rfl rfl (v_move rfl rfl) ?_
              refine o_nil ?_
              with_reducible refine r_then ?_
              refine r_block ?_
              refine r_loop (ι := Nat) (fun k1 => k1 ≤ 3 ∧ ∀ j, j < k1 → (0 ≤ F.lim.at j ∧ F.lim.at j ≤ 60) ∧ (0 ≤ F.dr.at j ∧ F.dr.at j ≤ 10)) (fun k1 => [(1, .bool v), (2, pt b2 0), (29, i64 k1)]) (fun k1 => bx b2 26 (cellsF F ro rc ho hc) :: M) (fun k1 => [rowD ro 2 encS F.rain, rowD ho 3 encH F.heaps] ++ Rf) (fun k1 => 3 - k1) 0 ?_ ?_ ?_
              ·
                exact r_here (by repeat (first | exact FSub.nil | refine FSub.cons rfl ?_)) SelMC.sel SubRC.sub
              ·
                exact ⟨by omega, fun j hj => absurd hj (by omega)⟩
              ·
                rintro k1 hI0
                refine r_seq ?_
                refine r_region ?_
                refine o_q _ rfl rfl rfl (v_lss rfl rfl rfl) ?_
                refine o_nil ?_
                with_reducible refine r_then ?_
                refine r_seq ?_
                refine r_condd rfl (fun hc30 => ?_) (fun hc30 => ?_)
                ·
                  refine r_skip ?_
                  with_reducible refine r_then ?_
                  refine r_seq ?_
                  refine r_block ?_
                  refine r_seq ?_
                  refine r_region ?_
                  refine o_q _ rfl rfl rfl (v_move rfl rfl) ?_
                  refine o_q _ rfl rfl rfl (v_assign rfl rfl) ?_
                  refine o_nil ?_
                  with_reducible refine r_then ?_
                  refine r_region ?_
                  refine o_q _ rfl rfl rfl (v_move rfl rfl) ?_
                  refine o_q _ rfl rfl rfl (v_fieldAddr rfl Try.underlying26 inf23 rfl rfl rfl rfl) ?_
                  refine o_q _ rfl rfl rfl (v_indexAddrAn rfl Try.underlying23 inf3 rfl rfl (by omega)) ?_
                  refine o_q _ rfl rfl rfl (v_ld1 rfl Try.underlying3 rfl rfl (F_limn (by omega))) ?_
                  refine o_test rfl rfl rfl (OpQ.fn (within_v _ _ _) rfl rfl SubRC.sub) (fun h36 => ?_) (fun h36 => ?_)
                  all_goals
                    refine o_q _ rfl rfl rfl (v_move rfl rfl) ?_
                    first | refine o_gn rfl rfl rfl rfl ?_ | refine o_g _ rfl rfl rfl rfl (v_move rfl rfl) ?_
                    first | refine o_gn rfl rfl rfl rfl ?_ | refine o_g _ rfl rfl rfl rfl (v_fieldAddr rfl Try.underlying26 inf23 rfl rfl rfl rfl) ?_
                    first | refine o_gn rfl rfl rfl rfl ?_ | refine o_g _ rfl rfl rfl rfl (v_indexAddrAn rfl Try.underlying23 inf3 rfl rfl (by omega)) ?_
                    first | refine o_gn rfl rfl rfl rfl ?_ | refine o_g _ rfl rfl rfl rfl (v_ld1 rfl Try.underlying3 rfl rfl (F_drn (by omega))) ?_
                    first | refine o_gn rfl rfl rfl rfl ?_ | refine o_gtest rfl rfl rfl rfl (OpQ.fn (within_v _ _ _) rfl rfl SubRC.sub) (fun h42 => ?_) (fun h42 => ?_)
                    all_goals
                      first | refine o_q _ rfl rfl rfl (v_pick_t rfl rfl rfl) ?_ | refine o_q _ rfl rfl rfl (v_pick_f rfl rfl rfl) ?_
                      first | refine o_q _ rfl rfl rfl (OpQ.fn (ask_t _) rfl rfl SubRC.sub) ?_ | refine o_fnx (ask_f _) rfl rfl rfl SubRC.sub ?_
                      repeat (first | with_reducible refine r_then_panic ?_ | with_reducible refine r_in_panic ?_)
                      try (first | exact r_retx2 (chk_2 (by assumption) ⟨by omega, by omega, by omega, goodrain (by assumption), fun j hj => hI0.2 j (by omega), fun j hj => hI1.2 j (by omega)⟩).symm SelMC.sel SubRC.sub | exact r_retx2 (chk_1 (fun g => by obtain ⟨g1, g2, g3, g4, g5, g6⟩ := g; first | omega | exact absurd rfl (by assumption) | exact norain (by assumption) g4 | (have g9 := g5 k1 (by omega); omega) | (have g9 := g6 k2 (by omega); omega))).symm SelMC.sel SubRC.sub)
                      all_goals
                        refine o_nil ?_
                        with_reducible refine r_in_normal ?_; refine r_then ?_
                        refine r_region ?_
                        refine o_q _ rfl rfl rfl (v_add rfl rfl rfl (by omega)) ?_
                        refine o_q _ rfl rfl rfl (v_move rfl rfl) ?_
                        refine o_nil ?_
                        with_reducible refine r_then ?_
                        refine r_next (k1 + 1) ?_ ?_ ?_
                        ·
                          exact r_here (by repeat (first | exact FSub.nil | refine FSub.cons rfl ?_)) SelMC.sel SubRC.sub
                        ·
                          exact ⟨by omega, all_step hI0.2 ⟨by assumption, by assumption⟩⟩
                        ·
                          omega
                ·
                  refine r_exit ?_
                  with_reducible refine r_then_exit ?_; refine r_then_exit ?_; refine r_in_here ?_; refine r_then ?_
                  refine r_seq ?_
                  refine r_seq ?_
                  refine r_region ?_
                  refine o_q _ rfl rfl rfl (v_fieldAddr rfl Try.underlying26 inf24 rfl rfl rfl rfl) ?_
                  refine o_q _ rfl rfl rfl (v_ld1 rfl Try.underlying24 rfl rfl rfl) ?_
                  refine o_q _ rfl rfl rfl (v_len rfl rfl Try.underlying24 rfl) ?_
                  refine o_q _ rfl rfl rfl (v_move rfl rfl) ?_
                  refine o_nil ?_
                  with_reducible refine r_then ?_
                  refine r_block ?_
                  refine r_loop (ι := Nat) (fun k2 => k2 ≤ F.heaps.length ∧ ∀ j, j < k2 → (0 ≤ (F.heaps.getD j default).lo ∧ (F.heaps.getD j default).lo ≤ (F.heaps.getD j default).hi ∧ (F.heaps.getD j default).hi ≤ 60) ∧ (0 ≤ (F.heaps.getD j default).sods ∧ (F.heaps.getD j default).sods ≤ 500)) (fun k2 => [(1, .bool v), (2, pt b2 0), (47, .slice ho F.heaps.length hc), (48, i64 F.heaps.length), (49, i64 k2)]) (fun k2 => bx b2 26 (cellsF F ro rc ho hc) :: M) (fun k2 => [rowD ro 2 encS F.rain, rowD ho 3 encH F.heaps] ++ Rf) (fun k2 => F.heaps.length - k2) 0 ?_ ?_ ?_
                  ·
                    exact r_here (by repeat (first | exact FSub.nil | refine FSub.cons rfl ?_)) SelMC.sel SubRC.sub
                  ·
                    exact ⟨by omega, fun j hj => absurd hj (by omega)⟩
                  ·
                    rintro k2 hI1
                    refine r_seq ?_
                    refine r_region ?_
                    refine o_q _ rfl rfl rfl (v_lss rfl rfl rfl) ?_
                    refine o_nil ?_
                    with_reducible refine r_then ?_
                    refine r_seq ?_
                    refine r_condd rfl (fun hc50 => ?_) (fun hc50 => ?_)
                    ·
                      refine r_skip ?_
                      with_reducible refine r_then ?_
                      refine r_seq ?_
                      refine r_block ?_
                      refine r_seq ?_
                      refine r_region ?_
                      refine o_q _ rfl rfl rfl (v_indexAddrSn rfl Try.underlying24 inf73 rfl rfl rfl (by omega) rfl) ?_
                      refine o_q _ rfl rfl rfl (v_loadEN rfl Try.underlying73 rfl inf73 rfl (by omega) rfl rfl rfl) ?_
                      refine o_alloc rfl inf73 rfl rfl rfl rfl rfl (fun b7 => ?_)
                      refine o_st rfl inf73 rfl rfl rfl rfl rfl rfl rfl rfl ?_
                      refine o_nil ?_
                      with_reducible refine r_then ?_
                      refine r_region ?_
                      refine o_q _ rfl rfl rfl (v_fieldAddr rfl Try.underlying73 inf31 rfl rfl rfl rfl) ?_
                      refine o_q _ rfl rfl rfl (v_ldN rfl Try.underlying31 rfl inf31 rfl rfl rfl) ?_
                      refine o_test rfl rfl rfl (OpQ.fn (isSpan_v _ _ _ _) rfl rfl SubRC.sub) (fun h55 => ?_) (fun h55 => ?_)
                      all_goals
                        refine o_q _ rfl rfl rfl (v_move rfl rfl) ?_
                        first | refine o_gn rfl rfl rfl rfl ?_ | refine o_g _ rfl rfl rfl rfl (v_fieldAddr rfl Try.underlying73 inf3 rfl rfl rfl rfl) ?_
                        first | refine o_gn rfl rfl rfl rfl ?_ | refine o_g _ rfl rfl rfl rfl (v_ld1 rfl Try.underlying3 rfl rfl rfl) ?_
                        first | refine o_gn rfl rfl rfl rfl ?_ | refine o_gtest rfl rfl rfl rfl (OpQ.fn (within_v _ _ _) rfl rfl SubRC.sub) (fun h59 => ?_) (fun h59 => ?_)
                        all_goals
                          first | refine o_q _ rfl rfl rfl (v_pick_t rfl rfl rfl) ?_ | refine o_q _ rfl rfl rfl (v_pick_f rfl rfl rfl) ?_
                          first | refine o_q _ rfl rfl rfl (OpQ.fn (ask_t _) rfl rfl SubRC.sub) ?_ | refine o_fnx (ask_f _) rfl rfl rfl SubRC.sub ?_
                          repeat (first | with_reducible refine r_then_panic ?_ | with_reducible refine r_in_panic ?_)
                          try (first | exact r_retx2 (chk_2 (by assumption) ⟨by omega, by omega, by omega, goodrain (by assumption), fun j hj => hI0.2 j (by omega), fun j hj => hI1.2 j (by omega)⟩).symm SelMC.sel SubRC.sub | exact r_retx2 (chk_1 (fun g => by obtain ⟨g1, g2, g3, g4, g5, g6⟩ := g; first | omega | exact absurd rfl (by assumption) | exact norain (by assumption) g4 | (have g9 := g5 k1 (by omega); omega) | (have g9 := g6 k2 (by omega); omega))).symm SelMC.sel SubRC.sub)
                          all_goals
                            refine o_nil ?_
                            with_reducible refine r_in_normal ?_; refine r_then ?_
                            refine r_region ?_
                            refine o_q _ rfl rfl rfl (v_add rfl rfl rfl (by omega)) ?_
                            refine o_q _ rfl rfl rfl (v_move rfl rfl) ?_
                            refine o_nil ?_
                            with_reducible refine r_then ?_
                            refine r_next (k2 + 1) ?_ ?_ ?_
                            ·
                              exact r_here (by repeat (first | exact FSub.nil | refine FSub.cons rfl ?_)) SelMC.sel SubRC.sub
                            ·
                              exact ⟨by omega, all_step hI1.2 ⟨by assumption, by assumption⟩⟩
                            ·
                              omega
                    ·
                      refine r_exit ?_
                      with_reducible refine r_then_exit ?_; refine r_then_exit ?_; refine r_in_here ?_; refine r_then ?_
                      refine r_seq ?_
                      refine r_region ?_
                      refine o_test rfl rfl rfl (OpQ.asTest (v_move rfl rfl)) (fun h63 => ?_) (fun h63 => ?_)
                      all_goals
                        first | refine o_q _ rfl rfl rfl (OpQ.fn (ask_t _) rfl rfl SubRC.sub) ?_ | refine o_fnx (ask_f _) rfl rfl rfl SubRC.sub ?_
                        repeat (first | with_reducible refine r_then_panic ?_)
                        try (first | exact r_retx2 (chk_2 (by assumption) ⟨by omega, by omega, by omega, goodrain (by assumption), fun j hj => hI0.2 j (by omega), fun j hj => hI1.2 j (by omega)⟩).symm SelMC.sel SubRC.sub | exact r_retx2 (chk_1 (fun g => by obtain ⟨g1, g2, g3, g4, g5, g6⟩ := g; first | omega | exact absurd rfl (by assumption) | exact norain (by assumption) g4 | (have g9 := g5 k1 (by omega); omega) | (have g9 := g6 k2 (by omega); omega))).symm SelMC.sel SubRC.sub)
                        all_goals
                          refine o_nil ?_
                          with_reducible refine r_then ?_
                          refine r_seq ?_
                          refine r_region ?_
                          refine o_q _ rfl rfl rfl (v_ldW rfl Try.underlying26 rfl inf26 rfl rfl) ?_
                          refine o_q _ rfl rfl rfl (v_bS rfl Try.underlying126 inf126 plt126 rfl rfl rfl (by repeat (first | exact trivial | refine ⟨rfl, ?_⟩)) (by rfl)) ?_
                          refine o_boxA rfl rfl rfl rfl rfl (fun b67 => ?_)
                          refine o_q _ rfl rfl rfl (v_assign rfl rfl) ?_
                          refine o_nil ?_
                          with_reducible refine r_then ?_
                          refine r_ret ?_
                          exfalso
                          apply hx
                          exact chk_0 (by assumption) ⟨by omega, by omega, by omega, goodrain (by assumption), fun j hj => hI0.2 j (by omega), fun j hj => hI1.2 j (by omega)⟩
end Go.Proofs.Ytienjlmnakbfmaa


namespace Go.Proofs.Ytienjlmnakbfmaa
open Go.G Foot4
set_option maxRecDepth 1000000
attribute [local irreducible] G.ParO G.Fin
theorem canF_iff {sel : Int → Int → Int} {F : Work} {heap : Nat} {p : T3} {k : Nat} (h : ¬ p.at k < 0) : wetF sel F heap p (p.at k).toNat ≤ F.lim.at k ↔ canF sel F heap p k := ⟨Or.inr, fun x => x.resolve_left h⟩
theorem keptF_not {sel : Int → Int → Int} {F : Work} {heap : Nat} {p : T3} {k : Nat} (h : ¬ canF sel F heap p k) (hk : k < 3) : ¬ keptF sel F heap p := by
  rintro ⟨x, y, z⟩
  obtain rfl | rfl | rfl : k = 0 ∨ k = 1 ∨ k = 2 := by omega
  · exact h x
  · exact h y
  · exact h z
set_option maxHeartbeats 4000000 in
theorem wet_v (t : Tr Try.prog "bogworks/foot.of") (F : Work) (ro ho : Option Addr) (rc hc : Nat) (fb : Nat) (heap : Int) (a b c : Int) (y : Int) (h0 : 0 ≤ heap) (h1 : heap < F.heaps.length) (hb : Bnd F) (hy : 0 ≤ y ∧ y ≤ (F.rain.length : Int)) : FnV Try.prog 51 [pt fb 0, i64 heap, .agg #[i64 a, i64 b, i64 c], i64 y, t.i] [boxF fb 126 (cellsF F ro rc ho hc), rowD ro 2 encS F.rain, rowD ho 3 encH F.heaps] (i64 (wetF t.sel F heap.toNat ⟨a, b, c⟩ y.toNat)) := by
  have hlen := hb.len
  refine FnV.intro Try.call51 Try.func51 rfl Try.ntmps51 rfl ?_
  intro W M Rf
  refine r_seq ?_
  refine r_region ?_
  refine o_boxA rfl rfl rfl rfl rfl (fun b7 => ?_)
  refine o_q _ rfl rfl rfl (v_assign rfl rfl) ?_
  refine o_nil ?_
  with_reducible refine r_then ?_
  refine r_seq ?_
  refine r_region_q mixed (by kernel_rfl) ?_
  refine q_q _ rfl rfl rfl (v_move rfl rfl) ?_
  refine q_q _ rfl rfl rfl (v_move rfl rfl) ?_
  refine q_q _ rfl rfl rfl (v_nilCheck rfl rfl) ?_
  refine q_q _ rfl rfl rfl (v_fieldAddr rfl Try.underlying126 inf26 rfl rfl rfl rfl) ?_
  refine q_q _ rfl rfl rfl (v_fieldAddr rfl Try.underlying26 inf24 rfl rfl rfl rfl) ?_
  refine q_q _ rfl rfl rfl (v_lf1 rfl Try.underlying24 rfl rfl rfl) ?_
  refine q_q _ rfl rfl rfl (v_move rfl rfl) ?_
  refine q_q _ rfl rfl rfl (v_indexAddrS rfl Try.underlying24 inf73 rfl rfl rfl (by omega) (by omega) rfl) ?_
  refine q_q _ rfl rfl rfl (v_fieldAddr rfl Try.underlying73 inf31 rfl rfl rfl rfl) ?_
  refine q_q _ rfl rfl rfl (v_loadEN rfl Try.underlying31 rfl inf31 rfl (by omega) rfl rfl rfl) ?_
  refine q_q _ rfl rfl rfl (v_makeFunc rfl rfl rfl) ?_
  refine q_q _ rfl rfl rfl (v_nilCheckM (t.hm) rfl rfl) ?_
  refine q_q _ rfl rfl rfl (v_move rfl rfl) ?_
  refine q_q _ rfl rfl rfl (OpQ.invoke (t.hv _ _ (by have := hb.heap heap.toNat; omega) (by have := hb.heap heap.toNat; omega) (by have := hb.heap heap.toNat; omega) (by have := hb.heap heap.toNat; omega)) t.hm rfl rfl rfl rfl SubRC.sub) ?_
  refine q_q _ rfl rfl rfl (v_assign rfl rfl) ?_
  refine q_q _ rfl rfl rfl (v_assign rfl rfl) ?_
  refine q_nil ?_
  with_reducible refine r_then ?_
  refine r_seq ?_
  refine r_region ?_
  refine o_q _ rfl rfl rfl (v_assign rfl rfl) ?_
  refine o_nil ?_
  with_reducible refine r_then ?_
  refine r_seq ?_
  refine r_seq ?_
  refine r_region ?_
  refine o_q _ rfl rfl rfl (v_move rfl rfl) ?_
  refine o_q _ rfl rfl rfl (v_move rfl rfl) ?_
  refine o_nil ?_
  with_reducible refine r_then ?_
  refine r_block ?_
  refine r_loop (ι := Nat) (fun d => d ≤ y.toNat ∧ (wetS t.sel F heap.toNat ⟨a, b, c⟩ d).2 ≠ 3) (fun d => [(0, pt fb 0), (4, t.i), (7, pt b7 0), (13, .func (.func 85) #[] #[]), (29, i64 y), (11, i64 (wetF t.sel F heap.toNat ⟨a, b, c⟩ d)), (12, i64 (wetS t.sel F heap.toNat ⟨a, b, c⟩ d).2), (30, i64 d)]) (fun d => bx b7 27 [i64 a, i64 b, i64 c] :: M) (fun d => [boxF fb 126 (cellsF F ro rc ho hc), rowD ro 2 encS F.rain, rowD ho 3 encH F.heaps] ++ Rf) (fun d => y.toNat - d) 0 ?_ ?_ ?_
  ·
    exact r_here (by repeat (first | exact FSub.nil | refine FSub.cons rfl ?_)) SelMC.sel SubRC.sub
  ·
    exact ⟨Nat.zero_le _, by simp [wetS]⟩
  ·
    rintro d hI0
    refine r_seq ?_
    refine r_region ?_
    refine o_q _ rfl rfl rfl (v_lss rfl rfl rfl) ?_
    refine o_nil ?_
    with_reducible refine r_then ?_
    refine r_seq ?_
    refine r_condd rfl (fun hc31 => ?_) (fun hc31 => ?_)
    ·
      refine r_skip ?_
      with_reducible refine r_then ?_
      refine r_seq ?_
      refine r_block ?_
      refine r_seq ?_
      refine r_region ?_
      refine o_q _ rfl rfl rfl (v_move rfl rfl) ?_
      refine o_q _ rfl rfl rfl (v_assign rfl rfl) ?_
      refine o_nil ?_
      with_reducible refine r_then ?_
      refine r_seq ?_
      refine r_block ?_
      refine r_loop (ι := Nat) (fun j => j ≤ 3 ∧ adv ⟨a, b, c⟩ d (wetS t.sel F heap.toNat ⟨a, b, c⟩ d).2 = adv ⟨a, b, c⟩ d j) (fun j => [(0, pt fb 0), (4, t.i), (7, pt b7 0), (13, .func (.func 85) #[] #[]), (29, i64 y), (11, i64 (wetF t.sel F heap.toNat ⟨a, b, c⟩ d)), (12, i64 j), (30, i64 d), (14, i64 d)]) (fun j => bx b7 27 [i64 a, i64 b, i64 c] :: M) (fun j => [boxF fb 126 (cellsF F ro rc ho hc), rowD ro 2 encS F.rain, rowD ho 3 encH F.heaps] ++ Rf) (fun j => 3 - j) (wetS t.sel F heap.toNat ⟨a, b, c⟩ d).2 ?_ ?_ ?_
      ·
        exact r_here (by repeat (first | exact FSub.nil | refine FSub.cons rfl ?_)) SelMC.sel SubRC.sub
      ·
        exact ⟨wetS_le _ _ _ _ _, rfl⟩
      ·
        rintro j hI1
        refine r_seq ?_
        refine r_seq ?_
        refine r_region ?_
        refine o_q _ rfl rfl rfl (v_move rfl rfl) ?_
        refine o_test rfl rfl rfl (v_lss rfl rfl rfl) (fun h34 => ?_) (fun h34 => ?_)
        all_goals
          refine o_q _ rfl rfl rfl (v_move rfl rfl) ?_
          first | refine o_gn rfl rfl rfl rfl ?_ | refine o_g _ rfl rfl rfl rfl (v_move rfl rfl) ?_
          first | refine o_gn rfl rfl rfl rfl ?_ | refine o_g _ rfl rfl rfl rfl (v_indexAddrAn rfl Try.underlying27 inf3 rfl rfl (by omega)) ?_
          first | refine o_gn rfl rfl rfl rfl ?_ | refine o_g _ rfl rfl rfl rfl (v_ld1 rfl Try.underlying3 rfl rfl (t3_atn (by omega))) ?_
          first | refine o_gn rfl rfl rfl rfl ?_ | refine o_gtest rfl rfl rfl rfl (v_geq rfl rfl rfl) (fun h39 => ?_) (fun h39 => ?_)
          all_goals
            first | refine o_q _ rfl rfl rfl (v_pick_t rfl rfl rfl) ?_ | refine o_q _ rfl rfl rfl (v_pick_f rfl rfl rfl) ?_
            refine o_q _ rfl rfl rfl (v_move rfl rfl) ?_
            first | refine o_gn rfl rfl rfl rfl ?_ | refine o_g _ rfl rfl rfl rfl (v_move rfl rfl) ?_
            first | refine o_gn rfl rfl rfl rfl ?_ | refine o_g _ rfl rfl rfl rfl (v_indexAddrAn rfl Try.underlying27 inf3 rfl rfl (by omega)) ?_
            first | refine o_gn rfl rfl rfl rfl ?_ | refine o_g _ rfl rfl rfl rfl (v_ld1 rfl Try.underlying3 rfl rfl (t3_atn (by omega))) ?_
            first | refine o_gn rfl rfl rfl rfl ?_ | refine o_g _ rfl rfl rfl rfl (v_move rfl rfl) ?_
            first | refine o_gn rfl rfl rfl rfl ?_ | refine o_gtest rfl rfl rfl rfl (v_leq rfl rfl rfl) (fun h46 => ?_) (fun h46 => ?_)
            all_goals
              first | refine o_q _ rfl rfl rfl (v_pick_t rfl rfl rfl) ?_ | refine o_q _ rfl rfl rfl (v_pick_f rfl rfl rfl) ?_
              refine o_nil ?_
              with_reducible refine r_then ?_
              refine r_cond rfl (fun hc47 => ?_) (fun hc47 => ?_)
              ·
                first
                | (exfalso; revert hc47; decide)
                | skip
                  refine r_skip ?_
                  with_reducible refine r_then ?_
                  refine r_block ?_
                  refine r_region ?_
                  refine o_q _ rfl rfl rfl (v_move rfl rfl) ?_
                  refine o_q _ rfl rfl rfl (v_add rfl rfl rfl (by omega)) ?_
                  refine o_q _ rfl rfl rfl (v_assign rfl rfl) ?_
                  refine o_nil ?_
                  with_reducible refine r_in_normal ?_; refine r_then ?_
                  refine r_next (j + 1) ?_ ?_ ?_
                  ·
                    exact r_here (by repeat (first | exact FSub.nil | refine FSub.cons rfl ?_)) SelMC.sel SubRC.sub
                  ·
                    exact ⟨by omega, hI1.2.trans (adv_go (by omega))⟩
                  ·
                    omega
              ·
                first
                | (exfalso; revert hc47; decide)
                | skip
                  refine r_exit ?_
                  with_reducible refine r_then_exit ?_; refine r_then_exit ?_; refine r_in_here ?_; refine r_then ?_
                  refine r_seq ?_
                  refine r_seq ?_
                  have hk : adv ⟨a, b, c⟩ d (wetS t.sel F heap.toNat ⟨a, b, c⟩ d).2 = j := hI1.2.trans (adv_stop (by omega))
                  refine r_region ?_
                  refine o_q _ rfl rfl rfl (v_move rfl rfl) ?_
                  refine o_q _ rfl rfl rfl (v_eql rfl rfl rfl) ?_
                  refine o_nil ?_
                  with_reducible refine r_then ?_
                  refine r_condd rfl (fun hc51 => ?_) (fun hc51 => ?_)
                  ·
                    first
                    | (exfalso; omega)
                    | skip
                      refine r_seq ?_
                      refine r_region ?_
                      refine o_q _ rfl rfl rfl (v_move rfl rfl) ?_
                      refine o_q _ rfl rfl rfl (v_assign rfl rfl) ?_
                      refine o_nil ?_
                      with_reducible refine r_then ?_
                      refine r_ret ?_
                      with_reducible refine r_then_ret ?_; refine r_in_ret ?_; refine r_then_ret ?_; refine r_then_ret ?_; refine r_in_ret ?_; refine r_then_ret ?_
                      exact r_retv2 (Rd.tmp rfl rfl) (congrArg (Value.int .i64) (wetS_end (hk.trans (by omega)) _ (by omega)).symm) SelMC.sel SubRC.sub
                  ·
                    first
                    | (exfalso; omega)
                    | skip
                      refine r_skip ?_
                      with_reducible refine r_then ?_
                      refine r_region_q mixed (by kernel_rfl) ?_
                      refine q_q _ rfl rfl rfl (v_move rfl rfl) ?_
                      refine q_q _ rfl rfl rfl (v_move rfl rfl) ?_
                      refine q_q _ rfl rfl rfl (v_move rfl rfl) ?_
                      refine q_q _ rfl rfl rfl (v_move rfl rfl) ?_
                      refine q_q _ rfl rfl rfl (v_nilCheck rfl rfl) ?_
                      refine q_q _ rfl rfl rfl (v_fieldAddr rfl Try.underlying126 inf26 rfl rfl rfl rfl) ?_
                      refine q_q _ rfl rfl rfl (v_fieldAddr rfl Try.underlying26 inf22 rfl rfl rfl rfl) ?_
                      refine q_q _ rfl rfl rfl (v_lf1 rfl Try.underlying22 rfl rfl rfl) ?_
                      refine q_q _ rfl rfl rfl (v_move rfl rfl) ?_
                      refine q_q _ rfl rfl rfl (v_indexAddrSn rfl Try.underlying22 inf31 rfl rfl rfl (by omega) rfl) ?_
                      refine q_q _ rfl rfl rfl (v_loadEN rfl Try.underlying31 rfl inf31 rfl (by omega) rfl rfl rfl) ?_
                      refine q_q _ rfl rfl rfl (v_makeFunc rfl rfl rfl) ?_
                      refine q_q _ rfl rfl rfl (v_nilCheckM (t.hm) rfl rfl) ?_
                      refine q_q _ rfl rfl rfl (v_move rfl rfl) ?_
                      refine q_q _ rfl rfl rfl (OpQ.invoke (t.hv _ _ (by have := hb.rain d; omega) (by have := hb.rain d; omega) (by have := hb.rain d; omega) (by have := hb.rain d; omega)) t.hm rfl rfl rfl rfl SubRC.sub) ?_
                      refine q_q _ rfl rfl rfl (v_move rfl rfl) ?_
                      refine q_q _ rfl rfl rfl (v_move rfl rfl) ?_
                      refine q_q _ rfl rfl rfl (v_nilCheck rfl rfl) ?_
                      refine q_q _ rfl rfl rfl (v_fieldAddr rfl Try.underlying126 inf26 rfl rfl rfl rfl) ?_
                      refine q_q _ rfl rfl rfl (v_fieldAddr rfl Try.underlying26 inf23 rfl rfl rfl rfl) ?_
                      refine q_q _ rfl rfl rfl (v_indexAddrAn rfl Try.underlying23 inf3 rfl rfl (by omega)) ?_
                      refine q_q _ rfl rfl rfl (v_lf1 rfl Try.underlying3 rfl rfl (F_drn (by omega))) ?_
                      refine q_q _ rfl rfl rfl (OpQ.call (after_v _ _ _ (by have := wetS_bd t hb heap.toNat ⟨a, b, c⟩ d; have := hb.rain d; have := hb.dr j; have := hb.len; rcases t.hs (F.rain.getD d default).lo (F.rain.getD d default).hi with e | e <;> rw [e] <;> omega)) rfl [] [] rfl rfl rfl SubRC.sub) ?_
                      refine q_q _ rfl rfl rfl (v_assign rfl rfl) ?_
                      refine q_nil ?_
                      with_reducible refine r_in_normal ?_; refine r_then ?_
                      refine r_region ?_
                      refine o_q _ rfl rfl rfl (v_add rfl rfl rfl (by omega)) ?_
                      refine o_q _ rfl rfl rfl (v_move rfl rfl) ?_
                      refine o_nil ?_
                      with_reducible refine r_then ?_
                      refine r_next (d + 1) ?_ ?_ ?_
                      ·
                        exact r_here (by repeat (first | exact FSub.nil | refine FSub.cons rfl ?_ | refine FSub.cons2 rfl (congrArg (Value.int .i64) (by first | omega | (unfold wetF; rw [wetS_next hk (by omega)]; rfl) | (rw [wetS_next hk (by omega)]))) ?_)) SelMC.sel SubRC.sub
                      ·
                        exact ⟨by omega, by rw [wetS_next hk (by omega)]; show j ≠ 3; omega⟩
                      ·
                        omega
    ·
      refine r_exit ?_
      with_reducible refine r_then_exit ?_; refine r_then_exit ?_; refine r_in_here ?_; refine r_then ?_
      refine r_seq ?_
      refine r_region ?_
      refine o_q _ rfl rfl rfl (v_move rfl rfl) ?_
      refine o_q _ rfl rfl rfl (v_assign rfl rfl) ?_
      refine o_nil ?_
      with_reducible refine r_then ?_
      refine r_ret ?_
      exact r_retv2 (Rd.tmp rfl rfl) (congrArg (fun z => Value.int .i64 (wetF t.sel F heap.toNat ⟨a, b, c⟩ z)) (by omega : d = y.toNat)) SelMC.sel SubRC.sub
set_option maxHeartbeats 4000000 in
theorem can_v (t : Tr Try.prog "bogworks/foot.of") (F : Work) (ro ho : Option Addr) (rc hc : Nat) (fb : Nat) (heap : Int) (a b c : Int) (k : Nat) (hk : k < 3) (h0 : 0 ≤ heap) (h1 : heap < F.heaps.length) (hb : Bnd F) (hd : (⟨a, b, c⟩ : T3).at k ≤ (F.rain.length : Int) - 1) : FnV Try.prog 70 [pt fb 0, i64 heap, .agg #[i64 a, i64 b, i64 c], i64 k, t.i] [boxF fb 126 (cellsF F ro rc ho hc), rowD ro 2 encS F.rain, rowD ho 3 encH F.heaps] (.bool (decide (canF t.sel F heap.toNat ⟨a, b, c⟩ k))) := by
  refine FnV.intro Try.call70 Try.func70 rfl Try.ntmps70 rfl ?_
  intro W M Rf
  refine r_seq ?_
  refine r_region ?_
  refine o_boxA rfl rfl rfl rfl rfl (fun b7 => ?_)
  refine o_q _ rfl rfl rfl (v_assign rfl rfl) ?_
  refine o_nil ?_
  with_reducible refine r_then ?_
  refine r_seq ?_
  refine r_seq ?_
  refine r_region ?_
  refine o_q _ rfl rfl rfl (v_move rfl rfl) ?_
  refine o_q _ rfl rfl rfl (v_indexAddrAn rfl Try.underlying27 inf3 rfl rfl (by omega)) ?_
  refine o_q _ rfl rfl rfl (v_ld1 rfl Try.underlying3 rfl rfl (t3_atn (by omega))) ?_
  refine o_q _ rfl rfl rfl (v_lss rfl rfl rfl) ?_
  refine o_nil ?_
  with_reducible refine r_then ?_
  refine r_condd rfl (fun hc15 => ?_) (fun hc15 => ?_)
  ·
    refine r_seq ?_
    refine r_region ?_
    refine o_q _ rfl rfl rfl (v_assign rfl rfl) ?_
    refine o_nil ?_
    with_reducible refine r_then ?_
    refine r_ret ?_
    with_reducible refine r_then_ret ?_
    exact r_retv2 (Rd.tmp rfl rfl) (congrArg Value.bool (decide_eq_true (Or.inl (by assumption))).symm) SelMC.sel SubRC.sub
  ·
    refine r_skip ?_
    with_reducible refine r_then ?_
    refine r_seq ?_
    refine r_region_q mixed (by kernel_rfl) ?_
    refine q_q _ rfl rfl rfl (v_move rfl rfl) ?_
    refine q_q _ rfl rfl rfl (v_move rfl rfl) ?_
    refine q_q _ rfl rfl rfl (v_ldW rfl Try.underlying27 rfl inf27 rfl rfl) ?_
    refine q_q _ rfl rfl rfl (v_move rfl rfl) ?_
    refine q_q _ rfl rfl rfl (v_indexAddrAn rfl Try.underlying27 inf3 rfl rfl (by omega)) ?_
    refine q_q _ rfl rfl rfl (v_ld1 rfl Try.underlying3 rfl rfl (t3_atn (by omega))) ?_
    refine q_q _ rfl rfl rfl (v_move rfl rfl) ?_
    refine q_q _ rfl rfl rfl (OpQ.fn (wet_v t F ro ho rc hc fb _ _ _ _ _ h0 h1 hb (by omega)) rfl rfl SubRC.sub) ?_
    refine q_q _ rfl rfl rfl (v_makeFunc rfl rfl rfl) ?_
    refine q_q _ rfl rfl rfl (v_assign rfl rfl) ?_
    refine q_nil ?_
    with_reducible refine r_then ?_
    refine r_seq ?_
    refine r_region ?_
    refine o_q _ rfl rfl rfl (v_move rfl rfl) ?_
    refine o_q _ rfl rfl rfl (v_move rfl rfl) ?_
    refine o_q _ rfl rfl rfl (v_move rfl rfl) ?_
    refine o_q _ rfl rfl rfl (v_nilCheck rfl rfl) ?_
    refine o_q _ rfl rfl rfl (v_fieldAddr rfl Try.underlying126 inf26 rfl rfl rfl rfl) ?_
    refine o_q _ rfl rfl rfl (v_fieldAddr rfl Try.underlying26 inf23 rfl rfl rfl rfl) ?_
    refine o_q _ rfl rfl rfl (v_indexAddrAn rfl Try.underlying23 inf3 rfl rfl (by omega)) ?_
    refine o_q _ rfl rfl rfl (v_lf1 rfl Try.underlying3 rfl rfl (F_limn (by omega))) ?_
    refine o_q _ rfl rfl rfl (OpQ.call (fits_v _ _) rfl [i64 (wetF t.sel F heap.toNat ⟨a, b, c⟩ ((⟨a, b, c⟩ : T3).at k).toNat)] [] rfl rfl rfl SubRC.sub) ?_
    refine o_q _ rfl rfl rfl (v_assign rfl rfl) ?_
    refine o_nil ?_
    with_reducible refine r_then ?_
    refine r_ret ?_
    exact r_retv2 (Rd.tmp rfl rfl) (congrArg Value.bool (decide_eq_decide.2 (canF_iff (by assumption)))) SelMC.sel SubRC.sub
set_option maxHeartbeats 4000000 in
theorem kept_fv (t : Tr Try.prog "bogworks/foot.of") (F : Work) (ro ho : Option Addr) (rc hc : Nat) (fb : Nat) (heap : Int) (a b c : Int) (h0 : 0 ≤ heap) (h1 : heap < F.heaps.length) (hb : Bnd F) (hd : ∀ k, k < 3 → (⟨a, b, c⟩ : T3).at k ≤ (F.rain.length : Int) - 1) : FnV Try.prog 57 [pt fb 0, i64 heap, .agg #[i64 a, i64 b, i64 c], t.i] [boxF fb 126 (cellsF F ro rc ho hc), rowD ro 2 encS F.rain, rowD ho 3 encH F.heaps] (.bool (decide (keptF t.sel F heap.toNat ⟨a, b, c⟩))) := by
  refine FnV.intro Try.call57 Try.func57 rfl Try.ntmps57 rfl ?_
  intro W M Rf
  refine r_seq ?_
  refine r_region ?_
  refine o_boxA rfl rfl rfl rfl rfl (fun b6 => ?_)
  refine o_q _ rfl rfl rfl (v_assign rfl rfl) ?_
  refine o_nil ?_
  with_reducible refine r_then ?_
  refine r_seq ?_
  refine r_seq ?_
  refine r_region ?_
  refine o_q _ rfl rfl rfl (v_move rfl rfl) ?_
  refine o_nil ?_
  with_reducible refine r_then ?_
  refine r_block ?_
  refine r_loop (ι := Nat) (fun k => k ≤ 3 ∧ ∀ j, j < k → canF t.sel F heap.toNat ⟨a, b, c⟩ j) (fun k => [(0, pt fb 0), (1, i64 heap), (3, t.i), (6, pt b6 0), (10, i64 k)]) (fun k => bx b6 27 [i64 a, i64 b, i64 c] :: M) (fun k => [boxF fb 126 (cellsF F ro rc ho hc), rowD ro 2 encS F.rain, rowD ho 3 encH F.heaps] ++ Rf) (fun k => 3 - k) 0 ?_ ?_ ?_
  ·
    exact r_here (by repeat (first | exact FSub.nil | refine FSub.cons rfl ?_)) SelMC.sel SubRC.sub
  ·
    exact ⟨by omega, fun j hj => absurd hj (by omega)⟩
  ·
    rintro k hI0
    refine r_seq ?_
    refine r_region ?_
    refine o_q _ rfl rfl rfl (v_lss rfl rfl rfl) ?_
    refine o_nil ?_
    with_reducible refine r_then ?_
    refine r_seq ?_
    refine r_condd rfl (fun hc11 => ?_) (fun hc11 => ?_)
    ·
      refine r_skip ?_
      with_reducible refine r_then ?_
      refine r_seq ?_
      refine r_block ?_
      refine r_seq ?_
      refine r_region ?_
      refine o_q _ rfl rfl rfl (v_move rfl rfl) ?_
      refine o_q _ rfl rfl rfl (v_assign rfl rfl) ?_
      refine o_nil ?_
      with_reducible refine r_then ?_
      refine r_seq ?_
      refine r_region ?_
      refine o_q _ rfl rfl rfl (v_move rfl rfl) ?_
      refine o_q _ rfl rfl rfl (v_move rfl rfl) ?_
      refine o_q _ rfl rfl rfl (v_ldW rfl Try.underlying27 rfl inf27 rfl rfl) ?_
      refine o_q _ rfl rfl rfl (v_move rfl rfl) ?_
      refine o_q _ rfl rfl rfl (v_move rfl rfl) ?_
      refine o_test rfl rfl rfl (OpQ.fn (can_v t F ro ho rc hc fb _ _ _ _ k (by omega) h0 h1 hb (hd k (by omega))) rfl rfl SubRC.sub) (fun h18 => ?_) (fun h18 => ?_)
      all_goals
        refine o_q _ rfl rfl rfl (v_not rfl rfl) ?_
        refine o_nil ?_
        with_reducible refine r_then ?_
        refine r_cond rfl (fun hc19 => ?_) (fun hc19 => ?_)
        ·
          first
          | (exfalso; revert hc19; decide)
          | skip
            refine r_seq ?_
            refine r_region ?_
            refine o_q _ rfl rfl rfl (v_assign rfl rfl) ?_
            refine o_nil ?_
            with_reducible refine r_then ?_
            refine r_ret ?_
            with_reducible refine r_in_ret ?_; refine r_then_ret ?_; refine r_then_ret ?_; refine r_in_ret ?_; refine r_then_ret ?_
            exact r_retv2 (Rd.tmp rfl rfl) (congrArg Value.bool (decide_eq_false (fun h => keptF_not (by assumption) (by omega) h)).symm) SelMC.sel SubRC.sub
        ·
          first
          | (exfalso; revert hc19; decide)
          | skip
            refine r_skip ?_
            with_reducible refine r_in_normal ?_; refine r_then ?_
            refine r_region ?_
            refine o_q _ rfl rfl rfl (v_add rfl rfl rfl (by omega)) ?_
            refine o_q _ rfl rfl rfl (v_move rfl rfl) ?_
            refine o_nil ?_
            with_reducible refine r_then ?_
            refine r_next (k + 1) ?_ ?_ ?_
            ·
              exact r_here (by repeat (first | exact FSub.nil | refine FSub.cons rfl ?_)) SelMC.sel SubRC.sub
            ·
              exact ⟨by omega, all_step hI0.2 (by assumption)⟩
            ·
              omega
    ·
      refine r_exit ?_
      with_reducible refine r_then_exit ?_; refine r_then_exit ?_; refine r_in_here ?_; refine r_then ?_
      refine r_seq ?_
      refine r_region ?_
      refine o_q _ rfl rfl rfl (v_assign rfl rfl) ?_
      refine o_nil ?_
      with_reducible refine r_then ?_
      refine r_ret ?_
      exact r_retv2 (Rd.tmp rfl rfl) (congrArg Value.bool (decide_eq_true ⟨hI0.2 0 (by omega), hI0.2 1 (by omega), hI0.2 2 (by omega)⟩).symm) SelMC.sel SubRC.sub
end Go.Proofs.Ytienjlmnakbfmaa


namespace Go.Proofs.Ytienjlmnakbfmaa
open Go.G Foot4
set_option maxRecDepth 1000000
attribute [local irreducible] G.ParO G.Fin
set_option maxHeartbeats 4000000 in
theorem whole_fr (F : Work) (ro ho : Option Addr) (rc hc : Nat) (fb : Nat) : FnR Try.prog 89 [pt fb 0] [boxF fb 126 (cellsF F ro rc ho hc), rowD ro 2 encS F.rain, rowD ho 3 encH F.heaps] (fun v => v = .func (.func 104) #[] #[pt (capB v) 0]) (fun v => [boxF (capB v) 3 [i64 F.rain.length]]) := by
  refine FnR.intro Try.call89 Try.func89 rfl Try.ntmps89 rfl ?_
  intro W M Rf
  refine r_seq ?_
  refine r_region ?_
  refine o_q _ rfl rfl rfl (v_assign rfl rfl) ?_
  refine o_nil ?_
  with_reducible refine r_then ?_
  refine r_seq ?_
  refine r_region ?_
  refine o_q _ rfl rfl rfl (v_move rfl rfl) ?_
  refine o_q _ rfl rfl rfl (v_nilCheck rfl rfl) ?_
  refine o_q _ rfl rfl rfl (v_fieldAddr rfl Try.underlying126 inf26 rfl rfl rfl rfl) ?_
  refine o_q _ rfl rfl rfl (v_fieldAddr rfl Try.underlying26 inf22 rfl rfl rfl rfl) ?_
  refine o_q _ rfl rfl rfl (v_lf1 rfl Try.underlying22 rfl rfl rfl) ?_
  refine o_q _ rfl rfl rfl (v_len rfl rfl Try.underlying22 rfl) ?_
  refine o_alloc rfl inf3 rfl rfl rfl rfl rfl (fun b3 => ?_)
  refine o_st rfl inf3 rfl rfl rfl rfl rfl rfl rfl rfl ?_
  refine o_nil ?_
  with_reducible refine r_then ?_
  refine r_seq ?_
  refine r_region ?_
  refine o_q _ rfl rfl rfl (v_makeFunc rfl rfl rfl) ?_
  refine o_q _ rfl rfl rfl (v_assign rfl rfl) ?_
  refine o_nil ?_
  with_reducible refine r_then ?_
  refine r_ret ?_
  refine Imp.sealB b3 ?_
  exact r_retr (Rd.tmp rfl rfl) rfl SelMC.sel (fun _ h => h)
set_option maxHeartbeats 4000000 in
theorem whole1_s (n cb : Nat) (hn : n ≤ 8) : IsSeq Try.prog 104 [pt cb 0] [boxF cb 3 [i64 n]] encP (whole n) := by
  refine IsSeq.intro Try.call104 Try.func104 rfl Try.ntmps104 rfl ?_
  intro l J Jx W Rf hY
  refine r_scope ?_
  refine r_seq ?_
  refine r_label ?_
  with_reducible refine r_then ?_
  refine r_seq ?_
  refine r_region ?_
  refine o_q _ rfl rfl rfl (v_lf1 rfl Try.underlying3 rfl rfl rfl) ?_
  refine o_q _ rfl rfl rfl (v_move rfl rfl) ?_
  refine o_nil ?_
  with_reducible refine r_then ?_
  refine r_block ?_
  refine r_loop (ι := Nat) (fun k1 => k1 ≤ n) (fun k1 => [(0, .func (.yield l) #[] #[]), (1, pt cb 0), (6, i64 n), (7, i64 k1)]) (fun k1 => [J (wholeA n k1).length]) (fun k1 => [boxF cb 3 [i64 n]] ++ Rf) (fun k1 => n - k1) 0 ?_ ?_ ?_
  ·
    show Imp _ _ _ _ [J (wholeA n 0).length] _ _
    exact r_here (by repeat (first | exact FSub.nil | refine FSub.cons rfl ?_)) SelMC.sel SubRC.sub
  ·
    omega
  ·
    rintro k1 hI0
    refine r_seq ?_
    refine r_region ?_
    refine o_q _ rfl rfl rfl (v_lss rfl rfl rfl) ?_
    refine o_nil ?_
    with_reducible refine r_then ?_
    refine r_seq ?_
    refine r_condd rfl (fun hc8 => ?_) (fun hc8 => ?_)
    ·
      refine r_skip ?_
      with_reducible refine r_then ?_
      refine r_seq ?_
      refine r_block ?_
      refine r_seq ?_
      refine r_region ?_
      refine o_q _ rfl rfl rfl (v_move rfl rfl) ?_
      refine o_q _ rfl rfl rfl (v_assign rfl rfl) ?_
      refine o_nil ?_
      with_reducible refine r_then ?_
      refine r_seq ?_
      refine r_region ?_
      refine o_q _ rfl rfl rfl (v_move rfl rfl) ?_
      refine o_q _ rfl rfl rfl (v_add rfl rfl rfl (by omega)) ?_
      refine o_q _ rfl rfl rfl (v_assign rfl rfl) ?_
      refine o_nil ?_
      with_reducible refine r_then ?_
      refine r_block ?_
      refine r_loop (ι := Nat) (fun k2 => k1 < k2 ∧ k2 ≤ max n (k1 + 1)) (fun k2 => [(0, .func (.yield l) #[] #[]), (1, pt cb 0), (6, i64 n), (7, i64 k1), (3, i64 k1), (4, i64 k2)]) (fun k2 => [J (wholeB n k1 k2).length]) (fun k2 => [boxF cb 3 [i64 n]] ++ Rf) (fun k2 => n - k2) (k1 + 1) ?_ ?_ ?_
      ·
        rw [wholeB_0]
        exact r_here (by repeat (first | exact FSub.nil | refine FSub.cons rfl ?_)) SelMC.sel SubRC.sub
      ·
        omega
      ·
        rintro k2 hI1
        refine r_seq ?_
        refine r_seq ?_
        refine r_region ?_
        refine o_q _ rfl rfl rfl (v_move rfl rfl) ?_
        refine o_q _ rfl rfl rfl (v_lf1 rfl Try.underlying3 rfl rfl rfl) ?_
        refine o_q _ rfl rfl rfl (v_lss rfl rfl rfl) ?_
        refine o_nil ?_
        with_reducible refine r_then ?_
        refine r_condd rfl (fun hc14 => ?_) (fun hc14 => ?_)
        ·
          refine r_skip ?_
          with_reducible refine r_then ?_
          refine r_seq ?_
          refine r_block ?_
          refine r_seq ?_
          refine r_region ?_
          refine o_q _ rfl rfl rfl (v_move rfl rfl) ?_
          refine o_q _ rfl rfl rfl (v_add rfl rfl rfl (by omega)) ?_
          refine o_q _ rfl rfl rfl (v_assign rfl rfl) ?_
          refine o_nil ?_
          with_reducible refine r_then ?_
          refine r_block ?_
          refine r_loop (ι := Nat) (fun k3 => k2 < k3 ∧ k3 ≤ max n (k2 + 1)) (fun k3 => [(0, .func (.yield l) #[] #[]), (1, pt cb 0), (6, i64 n), (7, i64 k1), (3, i64 k1), (4, i64 k2), (5, i64 k3)]) (fun k3 => [J (wholeC n k1 k2 k3).length]) (fun k3 => [boxF cb 3 [i64 n]] ++ Rf) (fun k3 => n - k3) (k2 + 1) ?_ ?_ ?_
          ·
            rw [wholeC_0]
            exact r_here (by repeat (first | exact FSub.nil | refine FSub.cons rfl ?_)) SelMC.sel SubRC.sub
          ·
            omega
          ·
            rintro k3 hI2
            refine r_seq ?_
            refine r_seq ?_
            refine r_region ?_
            refine o_q _ rfl rfl rfl (v_move rfl rfl) ?_
            refine o_q _ rfl rfl rfl (v_lf1 rfl Try.underlying3 rfl rfl rfl) ?_
            refine o_q _ rfl rfl rfl (v_lss rfl rfl rfl) ?_
            refine o_nil ?_
            with_reducible refine r_then ?_
            refine r_condd rfl (fun hc21 => ?_) (fun hc21 => ?_)
            ·
              refine r_skip ?_
              with_reducible refine r_then ?_
              refine r_seq ?_
              refine r_block ?_
              refine r_seq ?_
              have hat := whole_at (n := n) (a := k1) (b := k2) (c := k3) (by omega) (by omega) (by omega)
              have hlt := whole_lt (n := n) (a := k1) (b := k2) (c := k3) (by omega) (by omega) (by omega)
              refine r_region_in ?_
              refine oi_lift wideF rfl (fun _ _ h => by obtain ⟨⟨v, hv⟩, _⟩ := h; cases hv) ?_
              refine o_q _ rfl rfl rfl (v_move rfl rfl) ?_
              refine o_nil ?_
              refine r_then ?_
              refine oi_lift wideF rfl (fun _ _ h => by obtain ⟨⟨v, hv⟩, _⟩ := h; cases hv) ?_
              refine o_q _ rfl rfl rfl (v_move rfl rfl) ?_
              refine o_nil ?_
              refine r_then ?_
              refine oi_lift wideF rfl (fun _ _ h => by obtain ⟨⟨v, hv⟩, _⟩ := h; cases hv) ?_
              refine o_q _ rfl rfl rfl (v_move rfl rfl) ?_
              refine o_nil ?_
              refine r_then ?_
              refine oi_lift wideF rfl (fun _ _ h => by obtain ⟨⟨v, hv⟩, _⟩ := h; cases hv) ?_
              refine o_q _ rfl rfl rfl (v_move rfl rfl) ?_
              refine o_nil ?_
              refine r_then ?_
              refine oi_lift wideF rfl (fun _ _ h => by obtain ⟨⟨v, hv⟩, _⟩ := h; cases hv) ?_
              refine o_q _ rfl rfl rfl (v_bA rfl Try.underlying27 inf27 inf3 rfl rfl rfl (by repeat (first | exact trivial | refine ⟨rfl, ?_⟩)) (by rfl)) ?_
              refine o_nil ?_
              refine r_then ?_
              refine oi_yields (Ri := [boxF cb 3 [i64 n]]) hY hat rfl rfl rfl rfl rfl rfl rfl ?_ ?_
              all_goals
                refine oi_lift wideF rfl (fun _ _ h => by obtain ⟨⟨v, hv⟩, _⟩ := h; cases hv) ?_
                refine o_q _ rfl rfl rfl (v_not rfl rfl) ?_
                refine o_nil ?_
                refine r_then ?_
                refine oi_nil ?_
                with_reducible refine r_then ?_
                refine r_cond rfl (fun hc30 => ?_) (fun hc30 => ?_)
                ·
                  first
                  | (exfalso; revert hc30; decide)
                  | skip
                    refine r_exit ?_
                    with_reducible (refine r_in_past (by decide) ?_); refine r_then_exit ?_; refine r_then_exit ?_; (refine r_in_past (by decide) ?_); (refine r_in_past (by decide) ?_); refine r_then_exit ?_; refine r_then_exit ?_; (refine r_in_past (by decide) ?_); (refine r_in_past (by decide) ?_); refine r_then_exit ?_; refine r_then_exit ?_; refine r_in_here ?_; refine r_sc_normal ?_
                    exact r_retseqx (Rd.none rfl) ⟨hlt, by omega⟩ SelMC.sel SubRC.sub
                ·
                  first
                  | (exfalso; revert hc30; decide)
                  | skip
                    refine r_skip ?_
                    with_reducible refine r_in_normal ?_; refine r_then ?_
                    refine r_region ?_
                    refine o_q _ rfl rfl rfl (v_move rfl rfl) ?_
                    refine o_q _ rfl rfl rfl (v_add rfl rfl rfl (by omega)) ?_
                    refine o_q _ rfl rfl rfl (v_assign rfl rfl) ?_
                    refine o_nil ?_
                    with_reducible refine r_then ?_
                    refine r_next (k3 + 1) ?_ ?_ ?_
                    ·
                      rw [wholeC_len1 (by omega)]
                      exact r_here (by repeat (first | exact FSub.nil | refine FSub.cons rfl ?_)) SelMC.sel SubRC.sub
                    ·
                      omega
                    ·
                      omega
            ·
              refine r_exit ?_
              with_reducible refine r_then_exit ?_; refine r_then_exit ?_; refine r_in_here ?_; refine r_in_normal ?_; refine r_then ?_
              refine r_region ?_
              refine o_q _ rfl rfl rfl (v_move rfl rfl) ?_
              refine o_q _ rfl rfl rfl (v_add rfl rfl rfl (by omega)) ?_
              refine o_q _ rfl rfl rfl (v_assign rfl rfl) ?_
              refine o_nil ?_
              with_reducible refine r_then ?_
              refine r_next (k2 + 1) ?_ ?_ ?_
              ·
                have hk3 : k3 = max n (k2 + 1) := by omega
                subst hk3
                rw [wholeB_step (by omega)]
                exact r_here (by repeat (first | exact FSub.nil | refine FSub.cons rfl ?_)) SelMC.sel SubRC.sub
              ·
                omega
              ·
                omega
        ·
          refine r_exit ?_
          with_reducible refine r_then_exit ?_; refine r_then_exit ?_; refine r_in_here ?_; refine r_in_normal ?_; refine r_then ?_
          refine r_region ?_
          refine o_q _ rfl rfl rfl (v_add rfl rfl rfl (by omega)) ?_
          refine o_q _ rfl rfl rfl (v_move rfl rfl) ?_
          refine o_nil ?_
          with_reducible refine r_then ?_
          refine r_next (k1 + 1) ?_ ?_ ?_
          ·
            have hk2 : k2 = max n (k1 + 1) := by omega
            subst hk2
            rw [wholeA_step]
            exact r_here (by repeat (first | exact FSub.nil | refine FSub.cons rfl ?_)) SelMC.sel SubRC.sub
          ·
            omega
          ·
            omega
    ·
      refine r_exit ?_
      with_reducible refine r_then_exit ?_; refine r_then_exit ?_; refine r_in_here ?_; refine r_sc_normal ?_
      exact r_retseq2 (wholeA n k1).length (by rw [show k1 = n from by omega]; rfl) (Rd.none rfl) SelMC.sel SubRC.sub
set_option maxHeartbeats 4000000 in
theorem sure_fr (t : Tr Try.prog "bogworks/foot.of") (F : Work) (ro ho : Option Addr) (rc hc : Nat) (fb : Nat) (heap : Int) (h0 : 0 ≤ heap) (h1 : heap < F.heaps.length) (hb : Bnd F) : FnR Try.prog 60 [pt fb 0, i64 heap, t.i] [boxF fb 126 (cellsF F ro rc ho hc), rowD ro 2 encS F.rain, rowD ho 3 encH F.heaps] (isSl (sureF t.sel F heap.toNat).length) (fun v => [rowD (adr v) 3 encT (sureF t.sel F heap.toNat)]) := by
  refine FnR.introM Try.call60 Try.func60 rfl Try.ntmps60 rfl ?_
  intro W M Rf
  refine r_seq ?_
  refine r_region ?_
  refine o_box1 rfl rfl rfl rfl rfl rfl (fun b3 => ?_)
  refine o_box1 rfl rfl rfl rfl rfl rfl (fun b4 => ?_)
  refine o_box1 rfl rfl rfl rfl rfl rfl (fun b5 => ?_)
  refine o_alloc rfl inf40 rfl rfl rfl rfl rfl (fun b6 => ?_)
  refine o_nil ?_
  with_reducible refine r_then ?_
  refine r_seq ?_
  refine r_seq ?_
  refine Imp.sealB b3 ?_
  refine Imp.sealB b4 ?_
  refine Imp.sealB b5 ?_
  refine Imp.nilL 27 3 encT ?_
  refine r_region ?_
  refine o_q _ rfl rfl rfl (v_lf1 rfl Try.underlying81 rfl rfl rfl) ?_
  refine o_fn (whole_fr F ro ho rc hc fb) rfl rfl rfl rfl rfl SubRC.sub (fun v9 hv9 => ?_)
  (obtain ⟨cb, hcb⟩ : ∃ cb, capB v9 = cb := ⟨_, rfl⟩); rw [hcb] at hv9 ⊢; clear hcb; subst hv9
  all_goals
    refine o_nil ?_
    with_reducible refine r_then ?_
    refine r_block ?_
    refine r_range (whole1_s F.rain.length cb hb.len) rfl SubRC.sub (fun _ => rfl) rfl (fun i => exR fun v => [bx b6 40 [v], ownL v 27 3 encT (sureT t.sel F heap.toNat (i))]) (fun _ _ => noR) (M0 := M) (M1 := bx b6 40 (Value.slice none 0 0).cells.toList :: ownL (.slice none 0 0) 27 3 encT ([] : List T3) :: M) SelMC.sel (fun w h => St.pk (.slice none 0 0) h) ?_ ?_ ?_
    ·
      intro l i x hx Mi Ri rdy bsy hbg
      refine Imp.unpk2 (fun v => ?_)
      refine Imp.own_is v (fun hs => ?_)
      obtain ⟨oav, cpv, rfl⟩ := hs
      refine ri_region ?_
      refine oi_lift wideR rfl (fun _ _ h => h) ?_
      refine o_alloc rfl inf27 rfl rfl rfl rfl rfl (fun b7 => ?_)
      refine o_nil ?_
      refine r_then ?_
      refine oi_lift wideR rfl (fun _ _ h => h) ?_
      refine o_st rfl inf27 rfl rfl rfl rfl rfl rfl rfl rfl ?_
      refine o_nil ?_
      refine r_then ?_
      refine oi_nil ?_
      with_reducible refine r_then ?_
      refine r_begin hbg ?_
      refine ri_block ?_
      refine ri_seq ?_
      have hle := sureT_le (sel := t.sel) (F := F) (heap := heap.toNat) (i := i) hb.len
      refine ri_region ?_
      refine oi_lift wideR rfl (fun _ _ h => h) ?_
      refine o_q _ rfl rfl rfl (v_lf1 rfl Try.underlying81 rfl rfl rfl) ?_
      refine o_nil ?_
      refine r_then ?_
      refine oi_lift wideR rfl (fun _ _ h => h) ?_
      refine o_q _ rfl rfl rfl (v_lf1 rfl Try.underlying3 rfl rfl rfl) ?_
      refine o_nil ?_
      refine r_then ?_
      refine oi_lift wideR rfl (fun _ _ h => h) ?_
      refine o_q _ rfl rfl rfl (v_ldW rfl Try.underlying27 rfl inf27 rfl rfl) ?_
      refine o_nil ?_
      refine r_then ?_
      refine oi_lift wideR rfl (fun _ _ h => h) ?_
      refine o_q _ rfl rfl rfl (v_lf1 rfl Try.underlying128 rfl rfl rfl) ?_
      refine o_nil ?_
      refine r_then ?_
      refine oi_lift wideR rfl (fun _ _ h => h) ?_
      refine o_q _ rfl rfl rfl (OpQ.fn (kept_fv t F ro ho rc hc fb _ _ _ _ h0 h1 hb (fun k hk => (whole_days (List.mem_of_getElem? hx) k hk).2)) rfl rfl SubRC.sub) ?_
      refine o_nil ?_
      refine r_then ?_
      refine oi_nil ?_
      with_reducible refine r_then ?_
      refine ri_condd rfl (fun hc15 => ?_) (fun hc15 => ?_)
      ·
        refine ri_region ?_
        refine oi_lift wideR rfl (fun _ _ h => h) ?_
        refine o_q _ rfl rfl rfl (v_ld1 rfl Try.underlying40 rfl rfl rfl) ?_
        refine o_nil ?_
        refine r_then ?_
        refine oi_lift wideR rfl (fun _ _ h => h) ?_
        refine o_q _ rfl rfl rfl (v_ldW rfl Try.underlying27 rfl inf27 rfl rfl) ?_
        refine o_nil ?_
        refine r_then ?_
        refine oi_lift wideR rfl (fun _ _ h => h) ?_
        refine o_lit rfl Try.underlying40 inf27 rfl rfl rfl rfl rfl rfl rfl rfl (by repeat (first | exact trivial | refine ⟨rfl, ?_⟩)) (by rfl) (fun b18 => ?_)
        refine o_nil ?_
        refine r_then ?_
        refine oi_lift wideR rfl (fun _ _ h => h) ?_
        refine o_app1 (x) rfl Try.underlying40 inf27 rfl (by rfl) (by rfl) rfl rfl rfl rfl rfl (by rfl) (by rfl) (by rfl) (by first | omega | (constructor <;> first | omega | decide)) (fun v19 => ?_)
        refine o_nil ?_
        refine r_then ?_
        refine Imp.own_is v19 (fun hs => ?_)
        obtain ⟨oa19, cp19, rfl⟩ := hs
        refine oi_lift wideR rfl (fun _ _ h => h) ?_
        refine o_st rfl inf40 rfl rfl rfl rfl rfl rfl rfl rfl ?_
        refine o_nil ?_
        refine r_then ?_
        refine oi_nil ?_
        with_reducible refine r_in_normal ?_
        (refine Imp.own_to (.slice oa19 (sureT t.sel F heap.toNat (i) ++ [x]).length cp19) (sureT t.sel F heap.toNat (i + 1)) (sureT_yes hx (by assumption)) ?_; refine Imp.box_to b6 [.slice oa19 (sureT t.sel F heap.toNat (i) ++ [x]).length cp19] rfl ?_; exact r_round2 (.slice oa19 (sureT t.sel F heap.toNat (i) ++ [x]).length cp19) SelMC.sel SubRC.sub)
      ·
        refine ri_skip ?_
        with_reducible refine r_in_normal ?_
        (refine Imp.own_to (.slice oav (sureT t.sel F heap.toNat (i)).length cpv) (sureT t.sel F heap.toNat (i + 1)) (sureT_no hx (by assumption)) ?_; exact r_round2 (.slice oav (sureT t.sel F heap.toNat (i)).length cpv) SelMC.sel SubRC.sub)
    ·
      intro db
      refine Imp.unpk2 (fun v => ?_)
      refine Imp.own_is v (fun hs => ?_)
      obtain ⟨oav, cpv, rfl⟩ := hs
      with_reducible refine r_in_normal ?_; refine r_then ?_
      refine r_seq ?_
      refine r_region ?_
      refine o_q _ rfl rfl rfl (v_ld1 rfl Try.underlying40 rfl rfl rfl) ?_
      refine o_st rfl inf40 rfl rfl rfl rfl rfl rfl rfl rfl ?_
      refine o_nil ?_
      with_reducible refine r_then ?_
      refine r_ret ?_
      refine Imp.own_to (.slice oav (sureT t.sel F heap.toNat ((whole F.rain.length).length)).length cpv) (sureF t.sel F heap.toNat) sureT_all ?_
      refine Imp.settleL (.slice oav (sureT t.sel F heap.toNat ((whole F.rain.length).length)).length cpv) encT_len (fun hsl => ?_)
      exact m_retr (Rd.one rfl (RdI.cell1 Try.underlying40 rfl rfl rfl)) hsl SelMC.sel SubRC.sub
    ·
      intro db i c _
      exact Imp.noR
end Go.Proofs.Ytienjlmnakbfmaa


namespace Go.Proofs.Ytienjlmnakbfmaa
open Go.G Foot4
set_option maxRecDepth 1000000
attribute [local irreducible] G.ParO G.Fin
theorem hm88 : HasM Try.prog 88 "bogworks/foot.of" 121 := HasM.mk' inf88 (by kernel_rfl) Try.underlying88 rfl
theorem hm90 : HasM Try.prog 90 "bogworks/foot.of" 122 := HasM.mk' inf90 (by kernel_rfl) Try.underlying90 rfl
abbrev dryT : Tr Try.prog "bogworks/foot.of" := ⟨88, .agg #[], 121, selD, hm88, fun lo hi _ _ _ _ => dry_v lo hi, fun _ _ => .inl rfl⟩
abbrev wetT : Tr Try.prog "bogworks/foot.of" := ⟨90, .agg #[], 122, selW, hm90, fun lo hi h1 h2 h3 h4 => wet0_v lo hi ⟨h1, h2⟩ ⟨h3, h4⟩, fun _ _ => .inr rfl⟩
set_option maxHeartbeats 4000000 in
theorem WetP_v (F : Work) (ro ho : Option Addr) (rc hc : Nat) (x : Int) (a b c : Int) (y : Int) (hr : F.rain.length ≤ 40) (hh : F.heaps.length ≤ 40) : FnV Try.prog 15 [valF F ro rc ho hc, i64 x, .agg #[i64 a, i64 b, i64 c], i64 y] [rowD ro 2 encS F.rain, rowD ho 3 encH F.heaps] (.tuple #[.agg #[i64 (wetP F x ⟨a, b, c⟩ y).1.lo, i64 (wetP F x ⟨a, b, c⟩ y).1.hi], i64 (wetP F x ⟨a, b, c⟩ y).2]) := by
  refine FnV.introD Try.call15 Try.func15 rfl Try.ntmps15 rfl ?_
  intro W M Rf
  refine r_seq ?_
  refine r_region ?_
  refine o_boxA rfl rfl rfl rfl rfl (fun b4 => ?_)
  refine o_boxA rfl rfl rfl rfl rfl (fun b6 => ?_)
  refine o_alloc rfl inf31 rfl rfl rfl rfl rfl (fun b8 => ?_)
  refine o_alloc rfl inf32 rfl rfl rfl rfl rfl (fun b9 => ?_)
  refine o_nil ?_
  with_reducible refine r_then ?_
  refine r_seq ?_
  refine r_region ?_
  refine o_defer rfl rfl rfl rfl ?_
  refine o_nil ?_
  with_reducible refine r_then ?_
  refine r_seq ?_
  refine r_par' 16 mixed (by kernel_rfl) (by rfl) ?_
  refine p_q _ rfl rfl rfl (fun _ _ => v_ldW rfl Try.underlying26 rfl inf26 rfl rfl) ?_
  refine p_q _ rfl rfl rfl (fun _ _ => v_ldW rfl Try.underlying26 rfl inf26 rfl rfl) ?_
  refine p_q _ rfl rfl rfl (fun _ _ => v_move rfl rfl) ?_
  refine p_test rfl rfl rfl (fun _ _ => OpQ.fn (isHeap_v F ro ho rc hc _ hr hh) rfl rfl SubRC.sub) (fun h14 => ?_) (fun h14 => ?_)
  all_goals
    refine p_q _ rfl rfl rfl (fun _ _ => v_move rfl rfl) ?_
    first | refine p_gn rfl rfl rfl rfl ?_ | refine p_g _ rfl rfl rfl rfl (fun _ _ => v_ldW rfl Try.underlying26 rfl inf26 rfl rfl) ?_
    first | refine p_gn rfl rfl rfl rfl ?_ | refine p_g _ rfl rfl rfl rfl (fun _ _ => v_ldW rfl Try.underlying27 rfl inf27 rfl rfl) ?_
    first | refine p_gn rfl rfl rfl rfl ?_ | refine p_gtest rfl rfl rfl rfl (fun _ _ => OpQ.fn (isPlan_v F ro ho rc hc _ _ _ hr hh) rfl rfl SubRC.sub) (fun h18 => ?_) (fun h18 => ?_)
    all_goals
      first | refine p_q _ rfl rfl rfl (fun _ _ => v_pick_t rfl rfl rfl) ?_ | refine p_q _ rfl rfl rfl (fun _ _ => v_pick_f rfl rfl rfl) ?_
      refine p_q _ rfl rfl rfl (fun _ _ => v_move rfl rfl) ?_
      first | refine p_gn rfl rfl rfl rfl ?_ | refine p_g _ rfl rfl rfl rfl (fun _ _ => v_move rfl rfl) ?_
      first | refine p_gn rfl rfl rfl rfl ?_ | refine p_g _ rfl rfl rfl rfl (fun _ _ => v_fieldAddr rfl Try.underlying26 inf22 rfl rfl rfl rfl) ?_
      first | refine p_gn rfl rfl rfl rfl ?_ | refine p_g _ rfl rfl rfl rfl (fun _ _ => v_ld1 rfl Try.underlying22 rfl rfl rfl) ?_
      first | refine p_gn rfl rfl rfl rfl ?_ | refine p_g _ rfl rfl rfl rfl (fun _ _ => v_len rfl rfl Try.underlying22 rfl) ?_
      first | refine p_gn rfl rfl rfl rfl ?_ | refine p_gtest rfl rfl rfl rfl (fun _ _ => OpQ.fn (within_v _ _ _) rfl rfl SubRC.sub) (fun h25 => ?_) (fun h25 => ?_)
      all_goals
        first | refine p_q _ rfl rfl rfl (fun _ _ => v_pick_t rfl rfl rfl) ?_ | refine p_q _ rfl rfl rfl (fun _ _ => v_pick_f rfl rfl rfl) ?_
        refine p_nil2 (by simp only [List.nil_append, List.cons_append]; rfl) rfl ?_
        refine f_q rfl ?_
        refine f_q rfl ?_
        refine f_q rfl ?_
        refine f_q rfl ?_
        refine f_q rfl ?_
        refine f_q rfl ?_
        refine f_q rfl ?_
        refine f_q rfl ?_
        refine f_q rfl ?_
        refine f_q rfl ?_
        refine f_q rfl ?_
        refine f_q rfl ?_
        refine f_q rfl ?_
        refine f_q rfl ?_
        refine f_q rfl ?_
        refine f_q rfl ?_
        refine f_nil ?_
        by_cases hg : GoodF F
        all_goals
          first | refine o_fnp (open_ok F ro ho rc hc hr hh hg) rfl rfl rfl rfl rfl SubRC.sub (fun fb => ?_) | refine o_fnx (open_x F ro ho rc hc _ hr hh (by first | exact chk_false F | exact chk_ne hg)) rfl rfl rfl SubRC.sub ?_
          all_goals
            repeat (first | with_reducible refine r_then_panic ?_)
            try (first | (rw [wetP_ok hg (by simp [*])]; exact d_panv answer_ans (Rd.two rfl (RdI.cellW Try.underlying31 rfl inf31 rfl rfl) (RdI.cell1 Try.underlying32 rfl rfl rfl)) rfl SelMC.sel SubRC.sub) | (rw [wetP_of true (by simp [*]) (chk_ne hg)]; exact d_panv answer_ans (Rd.two rfl (RdI.cellW Try.underlying31 rfl inf31 rfl rfl) (RdI.cell1 Try.underlying32 rfl rfl rfl)) rfl SelMC.sel SubRC.sub) | (rw [wetP_of false (by simp [*]) (chk_false F)]; exact d_panv answer_ans (Rd.two rfl (RdI.cellW Try.underlying31 rfl inf31 rfl rfl) (RdI.cell1 Try.underlying32 rfl rfl rfl)) rfl SelMC.sel SubRC.sub))
            all_goals
              refine o_q _ rfl rfl rfl (v_assign rfl rfl) ?_
              refine o_nil ?_
              with_reducible refine r_then ?_
              refine r_seq ?_
              have hb := hg.bnd
              refine r_par' 13 mixed (by kernel_rfl) (by rfl) ?_
              refine p_q _ rfl rfl rfl (fun _ _ => v_move rfl rfl) ?_
              refine p_q _ rfl rfl rfl (fun _ _ => v_move rfl rfl) ?_
              refine p_q _ rfl rfl rfl (fun _ _ => v_ldW rfl Try.underlying27 rfl inf27 rfl rfl) ?_
              refine p_q _ rfl rfl rfl (fun _ _ => v_move rfl rfl) ?_
              refine p_q _ rfl rfl rfl (fun _ _ => v_bS0 rfl Try.underlying88 inf88 plt88 rfl rfl) ?_
              refine p_q _ rfl rfl rfl (fun _ _ => v_makeIface rfl Try.underlying88 rfl rfl) ?_
              refine p_q _ rfl rfl rfl (fun _ _ => OpQ.fn (wet_v dryT F ro ho rc hc fb _ _ _ _ _ (by omega) (by omega) hb (by omega)) rfl rfl SubRC.sub) ?_
              refine p_q _ rfl rfl rfl (fun _ _ => v_move rfl rfl) ?_
              refine p_q _ rfl rfl rfl (fun _ _ => v_move rfl rfl) ?_
              refine p_q _ rfl rfl rfl (fun _ _ => v_ldW rfl Try.underlying27 rfl inf27 rfl rfl) ?_
              refine p_q _ rfl rfl rfl (fun _ _ => v_move rfl rfl) ?_
              refine p_q _ rfl rfl rfl (fun _ _ => v_bS0 rfl Try.underlying90 inf90 plt90 rfl rfl) ?_
              refine p_q _ rfl rfl rfl (fun _ _ => v_makeIface rfl Try.underlying90 rfl rfl) ?_
              refine p_nil2 (by simp only [List.nil_append, List.cons_append]; rfl) rfl ?_
              refine f_q rfl ?_
              refine f_q rfl ?_
              refine f_q rfl ?_
              refine f_q rfl ?_
              refine f_q rfl ?_
              refine f_q rfl ?_
              refine f_q rfl ?_
              refine f_q rfl ?_
              refine f_q rfl ?_
              refine f_q rfl ?_
              refine f_q rfl ?_
              refine f_q rfl ?_
              refine f_q rfl ?_
              refine f_nil ?_
              refine o_q _ rfl rfl rfl (OpQ.fn (wet_v wetT F ro ho rc hc fb _ _ _ _ _ (by omega) (by omega) hb (by omega)) rfl rfl SubRC.sub) ?_
              refine o_q _ rfl rfl rfl (v_bS rfl Try.underlying31 inf31 plt31 rfl rfl rfl (by repeat (first | exact trivial | refine ⟨rfl, ?_⟩)) (by rfl)) ?_
              refine o_st rfl inf31 rfl rfl rfl rfl rfl rfl rfl rfl ?_
              refine o_st rfl inf32 rfl rfl rfl rfl rfl rfl rfl rfl ?_
              refine o_nil ?_
              with_reducible refine r_then ?_
              refine r_ret ?_
              (rw [wetP_ok hg (by simp [*])]; exact d_retv answer_ans (Rd.two rfl (RdI.cellW Try.underlying31 rfl inf31 rfl rfl) (RdI.cell1 Try.underlying32 rfl rfl rfl)) rfl SelMC.sel SubRC.sub)
end Go.Proofs.Ytienjlmnakbfmaa


namespace Go.Proofs.Ytienjlmnakbfmaa
open Go.G Foot4
set_option maxRecDepth 1000000
attribute [local irreducible] G.ParO G.Fin
set_option maxHeartbeats 4000000 in
theorem CanP_v (F : Work) (ro ho : Option Addr) (rc hc : Nat) (x : Int) (a b c : Int) (hr : F.rain.length ≤ 40) (hh : F.heaps.length ≤ 40) : FnV Try.prog 17 [valF F ro rc ho hc, i64 x, .agg #[i64 a, i64 b, i64 c]] [rowD ro 2 encS F.rain, rowD ho 3 encH F.heaps] (.tuple #[i64 (canP F x ⟨a, b, c⟩).1, i64 (canP F x ⟨a, b, c⟩).2]) := by
  refine FnV.introD Try.call17 Try.func17 rfl Try.ntmps17 rfl ?_
  intro W M Rf
  refine r_seq ?_
  refine r_region ?_
  refine o_boxA rfl rfl rfl rfl rfl (fun b3 => ?_)
  refine o_boxA rfl rfl rfl rfl rfl (fun b5 => ?_)
  refine o_q _ rfl rfl rfl (v_assign rfl rfl) ?_
  refine o_alloc rfl inf32 rfl rfl rfl rfl rfl (fun b7 => ?_)
  refine o_nil ?_
  with_reducible refine r_then ?_
  refine r_seq ?_
  refine r_region ?_
  refine o_defer rfl rfl rfl rfl ?_
  refine o_nil ?_
  with_reducible refine r_then ?_
  refine r_seq ?_
  refine r_par' 9 mixed (by kernel_rfl) (by rfl) ?_
  refine p_q _ rfl rfl rfl (fun _ _ => v_ldW rfl Try.underlying26 rfl inf26 rfl rfl) ?_
  refine p_q _ rfl rfl rfl (fun _ _ => v_ldW rfl Try.underlying26 rfl inf26 rfl rfl) ?_
  refine p_q _ rfl rfl rfl (fun _ _ => v_move rfl rfl) ?_
  refine p_test rfl rfl rfl (fun _ _ => OpQ.fn (isHeap_v F ro ho rc hc _ hr hh) rfl rfl SubRC.sub) (fun h12 => ?_) (fun h12 => ?_)
  all_goals
    refine p_q _ rfl rfl rfl (fun _ _ => v_move rfl rfl) ?_
    first | refine p_gn rfl rfl rfl rfl ?_ | refine p_g _ rfl rfl rfl rfl (fun _ _ => v_ldW rfl Try.underlying26 rfl inf26 rfl rfl) ?_
    first | refine p_gn rfl rfl rfl rfl ?_ | refine p_g _ rfl rfl rfl rfl (fun _ _ => v_ldW rfl Try.underlying27 rfl inf27 rfl rfl) ?_
    first | refine p_gn rfl rfl rfl rfl ?_ | refine p_gtest rfl rfl rfl rfl (fun _ _ => OpQ.fn (isPlan_v F ro ho rc hc _ _ _ hr hh) rfl rfl SubRC.sub) (fun h16 => ?_) (fun h16 => ?_)
    all_goals
      first | refine p_q _ rfl rfl rfl (fun _ _ => v_pick_t rfl rfl rfl) ?_ | refine p_q _ rfl rfl rfl (fun _ _ => v_pick_f rfl rfl rfl) ?_
      refine p_nil2 (by simp only [List.nil_append, List.cons_append]; rfl) rfl ?_
      refine f_q rfl ?_
      refine f_q rfl ?_
      refine f_q rfl ?_
      refine f_q rfl ?_
      refine f_q rfl ?_
      refine f_q rfl ?_
      refine f_q rfl ?_
      refine f_q rfl ?_
      refine f_q rfl ?_
      refine f_nil ?_
      by_cases hg : GoodF F
      all_goals
        first | refine o_fnp (open_ok F ro ho rc hc hr hh hg) rfl rfl rfl rfl rfl SubRC.sub (fun fb => ?_) | refine o_fnx (open_x F ro ho rc hc _ hr hh (by first | exact chk_false F | exact chk_ne hg)) rfl rfl rfl SubRC.sub ?_
        all_goals
          repeat (first | with_reducible refine r_then_panic ?_)
          try (first | (rw [canP_ok hg (by simp [*])]; exact d_panv answer_ans (Rd.two rfl (RdI.tmp rfl) (RdI.cell1 Try.underlying32 rfl rfl rfl)) rfl SelMC.sel SubRC.sub) | (rw [canP_of true (by simp [*]) (chk_ne hg)]; exact d_panv answer_ans (Rd.two rfl (RdI.tmp rfl) (RdI.cell1 Try.underlying32 rfl rfl rfl)) rfl SelMC.sel SubRC.sub) | (rw [canP_of false (by simp [*]) (chk_false F)]; exact d_panv answer_ans (Rd.two rfl (RdI.tmp rfl) (RdI.cell1 Try.underlying32 rfl rfl rfl)) rfl SelMC.sel SubRC.sub))
          all_goals
            refine o_q _ rfl rfl rfl (v_assign rfl rfl) ?_
            refine o_nil ?_
            with_reducible refine r_then ?_
            refine r_seq ?_
            refine r_block ?_
            refine r_seq ?_
            have hb := hg.bnd
            have hpl : IsPlan F.rain.length ⟨a, b, c⟩ := by assumption
            refine r_region ?_
            refine o_q _ rfl rfl rfl (v_move rfl rfl) ?_
            refine o_q _ rfl rfl rfl (v_move rfl rfl) ?_
            refine o_q _ rfl rfl rfl (v_ldW rfl Try.underlying27 rfl inf27 rfl rfl) ?_
            refine o_q _ rfl rfl rfl (v_bS0 rfl Try.underlying90 inf90 plt90 rfl rfl) ?_
            refine o_q _ rfl rfl rfl (v_makeIface rfl Try.underlying90 rfl rfl) ?_
            refine o_test rfl rfl rfl (OpQ.fn (kept_fv wetT F ro ho rc hc fb _ _ _ _ (by omega) (by omega) hb (fun k hk => (hpl.1 k hk).2)) rfl rfl SubRC.sub) (fun h25 => ?_) (fun h25 => ?_)
            all_goals
              refine o_q _ rfl rfl rfl (v_assign rfl rfl) ?_
              refine o_nil ?_
              with_reducible refine r_then ?_
              refine r_cond rfl (fun hc19 => ?_) (fun hc19 => ?_)
              ·
                first
                | (exfalso; revert hc19; decide)
                | skip
                  refine r_seq ?_
                  refine r_region ?_
                  refine o_q _ rfl rfl rfl (v_assign rfl rfl) ?_
                  refine o_st rfl inf32 rfl rfl rfl rfl rfl rfl rfl rfl ?_
                  refine o_nil ?_
                  with_reducible refine r_then ?_
                  refine r_ret ?_
                  with_reducible refine r_in_ret ?_; refine r_then_ret ?_
                  (rw [canP_ok hg (by simp [*])]; unfold keptP; rw [if_pos (by assumption)]; exact d_retv answer_ans (Rd.two rfl (RdI.tmp rfl) (RdI.cell1 Try.underlying32 rfl rfl rfl)) rfl SelMC.sel SubRC.sub)
              ·
                first
                | (exfalso; revert hc19; decide)
                | skip
                  refine r_seq ?_
                  refine r_region ?_
                  refine o_q _ rfl rfl rfl (v_move rfl rfl) ?_
                  refine o_q _ rfl rfl rfl (v_move rfl rfl) ?_
                  refine o_q _ rfl rfl rfl (v_ldW rfl Try.underlying27 rfl inf27 rfl rfl) ?_
                  refine o_q _ rfl rfl rfl (v_bS0 rfl Try.underlying88 inf88 plt88 rfl rfl) ?_
                  refine o_q _ rfl rfl rfl (v_makeIface rfl Try.underlying88 rfl rfl) ?_
                  refine o_test rfl rfl rfl (OpQ.fn (kept_fv dryT F ro ho rc hc fb _ _ _ _ (by omega) (by omega) hb (fun k hk => (hpl.1 k hk).2)) rfl rfl SubRC.sub) (fun h32 => ?_) (fun h32 => ?_)
                  all_goals
                    refine o_q _ rfl rfl rfl (v_assign rfl rfl) ?_
                    refine o_nil ?_
                    with_reducible refine r_then ?_
                    refine r_cond rfl (fun hc26 => ?_) (fun hc26 => ?_)
                    ·
                      first
                      | (exfalso; revert hc26; decide)
                      | skip
                        refine r_seq ?_
                        refine r_region ?_
                        refine o_q _ rfl rfl rfl (v_assign rfl rfl) ?_
                        refine o_st rfl inf32 rfl rfl rfl rfl rfl rfl rfl rfl ?_
                        refine o_nil ?_
                        with_reducible refine r_then ?_
                        refine r_ret ?_
                        with_reducible refine r_in_ret ?_; refine r_then_ret ?_
                        (rw [canP_ok hg (by simp [*])]; unfold keptP; rw [if_neg (by assumption), if_pos (by assumption)]; exact d_retv answer_ans (Rd.two rfl (RdI.tmp rfl) (RdI.cell1 Try.underlying32 rfl rfl rfl)) rfl SelMC.sel SubRC.sub)
                    ·
                      first
                      | (exfalso; revert hc26; decide)
                      | skip
                        refine r_skip ?_
                        with_reducible refine r_in_normal ?_; refine r_then ?_
                        refine r_seq ?_
                        refine r_region ?_
                        refine o_q _ rfl rfl rfl (v_assign rfl rfl) ?_
                        refine o_st rfl inf32 rfl rfl rfl rfl rfl rfl rfl rfl ?_
                        refine o_nil ?_
                        with_reducible refine r_then ?_
                        refine r_ret ?_
                        (rw [canP_ok hg (by simp [*])]; unfold keptP; rw [if_neg (by assumption), if_neg (by assumption)]; exact d_retv answer_ans (Rd.two rfl (RdI.tmp rfl) (RdI.cell1 Try.underlying32 rfl rfl rfl)) rfl SelMC.sel SubRC.sub)
set_option maxHeartbeats 4000000 in
theorem soon_v (a b c d e f : Int) : FnV Try.prog 61 [.agg #[i64 a, i64 b, i64 c], .agg #[i64 d, i64 e, i64 f]] [] (.bool (decide (c < f))) := by
  refine FnV.intro Try.call61 Try.func61 rfl Try.ntmps61 rfl ?_
  intro W M Rf
  refine r_seq ?_
  refine r_region ?_
  refine o_boxA rfl rfl rfl rfl rfl (fun b2 => ?_)
  refine o_boxA rfl rfl rfl rfl rfl (fun b3 => ?_)
  refine o_q _ rfl rfl rfl (v_assign rfl rfl) ?_
  refine o_nil ?_
  with_reducible refine r_then ?_
  refine r_seq ?_
  refine r_region ?_
  refine o_q _ rfl rfl rfl (v_indexAddrA rfl Try.underlying27 inf3 rfl rfl (by omega)) ?_
  refine o_q _ rfl rfl rfl (v_ld1 rfl Try.underlying3 rfl rfl rfl) ?_
  refine o_q _ rfl rfl rfl (v_indexAddrA rfl Try.underlying27 inf3 rfl rfl (by omega)) ?_
  refine o_q _ rfl rfl rfl (v_ld1 rfl Try.underlying3 rfl rfl rfl) ?_
  refine o_q _ rfl rfl rfl (v_lss rfl rfl rfl) ?_
  refine o_q _ rfl rfl rfl (v_assign rfl rfl) ?_
  refine o_nil ?_
  with_reducible refine r_then ?_
  refine r_ret ?_
  exact r_retv2 (Rd.tmp rfl rfl) rfl SelMC.sel SubRC.sub
set_option maxHeartbeats 4000000 in
theorem chosen_v (xs : List T3) (oa : Option Addr) (c : Nat) (hl : xs.length ≤ 1000) : FnV Try.prog 59 [.slice oa xs.length c, .agg #[.func (.func 61) #[] #[]]] [rowD oa 3 encT xs] (.tuple #[.agg #[i64 (soonL xs).a, i64 (soonL xs).b, i64 (soonL xs).c], .bool (decide (0 < (xs.length : Int)))]) := by
  refine FnV.intro Try.call59 Try.func59 rfl Try.ntmps59 rfl ?_
  intro W M Rf
  refine r_seq ?_
  refine r_region ?_
  refine o_boxA rfl rfl rfl rfl rfl (fun b3 => ?_)
  refine o_alloc rfl inf27 rfl rfl rfl rfl rfl (fun b4 => ?_)
  refine o_q _ rfl rfl rfl (v_assign rfl rfl) ?_
  refine o_nil ?_
  with_reducible refine r_then ?_
  refine r_seq ?_
  refine r_seq ?_
  refine r_region ?_
  refine o_q _ rfl rfl rfl (v_move rfl rfl) ?_
  refine o_q _ rfl rfl rfl (v_len rfl rfl Try.underlying40 rfl) ?_
  refine o_q _ rfl rfl rfl (v_move rfl rfl) ?_
  refine o_nil ?_
  with_reducible refine r_then ?_
  refine r_block ?_
  refine r_loop (ι := Nat) (fun k => k ≤ xs.length) (fun k => [(0, .slice oa xs.length c), (3, pt b3 0), (4, pt b4 0), (8, .slice oa xs.length c), (9, i64 xs.length), (10, i64 k)]) (fun k => bx b4 27 (encT (best1 soon default xs k)) :: bx b3 100 [.func (.func 61) #[] #[]] :: M) (fun k => [rowD oa 3 encT xs] ++ Rf) (fun k => xs.length - k) 0 ?_ ?_ ?_
  ·
    refine Imp.box_to b4 (encT (best1 soon default xs 0)) rfl ?_
    exact r_here (by repeat (first | exact FSub.nil | refine FSub.cons rfl ?_)) SelMC.sel SubRC.sub
  ·
    omega
  ·
    rintro k hI0
    refine r_seq ?_
    refine r_region ?_
    refine o_q _ rfl rfl rfl (v_lss rfl rfl rfl) ?_
    refine o_nil ?_
    with_reducible refine r_then ?_
    refine r_seq ?_
    refine r_condd rfl (fun hc11 => ?_) (fun hc11 => ?_)
    ·
      refine r_skip ?_
      with_reducible refine r_then ?_
      refine r_seq ?_
      refine r_block ?_
      refine r_seq ?_
      refine r_region ?_
      refine o_q _ rfl rfl rfl (v_move rfl rfl) ?_
      refine o_q _ rfl rfl rfl (v_indexAddrSn rfl Try.underlying40 inf27 rfl rfl rfl (by omega) rfl) ?_
      refine o_q _ rfl rfl rfl (v_loadEN rfl Try.underlying27 rfl inf27 rfl (by omega) rfl rfl rfl) ?_
      refine o_alloc rfl inf27 rfl rfl rfl rfl rfl (fun b7 => ?_)
      refine o_q _ rfl rfl rfl (v_assign rfl rfl) ?_
      refine o_st rfl inf27 rfl rfl rfl rfl rfl rfl rfl rfl ?_
      refine o_nil ?_
      with_reducible refine r_then ?_
      refine r_seq ?_
      refine r_region ?_
      refine o_q _ rfl rfl rfl (v_move rfl rfl) ?_
      refine o_test rfl rfl rfl (v_eql rfl rfl rfl) (fun h16 => ?_) (fun h16 => ?_)
      all_goals
        refine o_q _ rfl rfl rfl (v_move rfl rfl) ?_
        first | refine o_gn rfl rfl rfl rfl ?_ | refine o_g _ rfl rfl rfl rfl (v_fieldAddr rfl Try.underlying100 inf98 rfl rfl rfl rfl) ?_
        first | refine o_gn rfl rfl rfl rfl ?_ | refine o_g _ rfl rfl rfl rfl (v_ld1 rfl Try.underlying98 rfl rfl rfl) ?_
        first | refine o_gn rfl rfl rfl rfl ?_ | refine o_g _ rfl rfl rfl rfl (v_ldW rfl Try.underlying27 rfl inf27 rfl rfl) ?_
        first | refine o_gn rfl rfl rfl rfl ?_ | refine o_g _ rfl rfl rfl rfl (v_ldW rfl Try.underlying27 rfl inf27 rfl rfl) ?_
        first | refine o_gn rfl rfl rfl rfl ?_ | refine o_gtest rfl rfl rfl rfl (OpQ.call (soon_v _ _ _ _ _ _) rfl [] [] rfl rfl rfl SubRC.sub) (fun h22 => ?_) (fun h22 => ?_)
        all_goals
          first | refine o_q _ rfl rfl rfl (v_pick_t rfl rfl rfl) ?_ | refine o_q _ rfl rfl rfl (v_pick_f rfl rfl rfl) ?_
          refine o_nil ?_
          with_reducible refine r_then ?_
          refine r_cond rfl (fun hc23 => ?_) (fun hc23 => ?_)
          ·
            first
            | (exfalso; revert hc23; decide)
            | skip
              refine r_region ?_
              refine o_q _ rfl rfl rfl (v_ldW rfl Try.underlying27 rfl inf27 rfl rfl) ?_
              refine o_st rfl inf27 rfl rfl rfl rfl rfl rfl rfl rfl ?_
              refine o_nil ?_
              with_reducible refine r_in_normal ?_; refine r_then ?_
              refine r_region ?_
              refine o_q _ rfl rfl rfl (v_add rfl rfl rfl (by omega)) ?_
              refine o_q _ rfl rfl rfl (v_move rfl rfl) ?_
              refine o_nil ?_
              with_reducible refine r_then ?_
              refine r_next (k + 1) ?_ ?_ ?_
              ·
                (refine Imp.box_to b4 (encT (best1 soon default xs (k + 1))) (by rw [best1_yes (by first | (left; omega) | (right; exact decide_eq_true (by assumption)))]; rfl) ?_; exact r_here (by repeat (first | exact FSub.nil | refine FSub.cons rfl ?_)) SelMC.sel SubRC.sub)
              ·
                omega
              ·
                omega
          ·
            first
            | (exfalso; revert hc23; decide)
            | skip
              refine r_skip ?_
              with_reducible refine r_in_normal ?_; refine r_then ?_
              refine r_region ?_
              refine o_q _ rfl rfl rfl (v_add rfl rfl rfl (by omega)) ?_
              refine o_q _ rfl rfl rfl (v_move rfl rfl) ?_
              refine o_nil ?_
              with_reducible refine r_then ?_
              refine r_next (k + 1) ?_ ?_ ?_
              ·
                (refine Imp.box_to b4 (encT (best1 soon default xs (k + 1))) (by rw [best1_no (by omega) (soon_no (by assumption))]) ?_; exact r_here (by repeat (first | exact FSub.nil | refine FSub.cons rfl ?_)) SelMC.sel SubRC.sub)
              ·
                omega
              ·
                omega
    ·
      refine r_exit ?_
      with_reducible refine r_then_exit ?_; refine r_then_exit ?_; refine r_in_here ?_; refine r_then ?_
      refine r_seq ?_
      refine r_region ?_
      refine o_q _ rfl rfl rfl (v_ldW rfl Try.underlying27 rfl inf27 rfl rfl) ?_
      refine o_q _ rfl rfl rfl (v_move rfl rfl) ?_
      refine o_q _ rfl rfl rfl (v_len rfl rfl Try.underlying40 rfl) ?_
      refine o_q _ rfl rfl rfl (v_gtr rfl rfl rfl) ?_
      refine o_st rfl inf27 rfl rfl rfl rfl rfl rfl rfl rfl ?_
      refine o_q _ rfl rfl rfl (v_assign rfl rfl) ?_
      refine o_nil ?_
      with_reducible refine r_then ?_
      refine r_ret ?_
      have hk : k = xs.length := by omega
      subst hk
      exact r_retv2 (Rd.two rfl (RdI.cellW Try.underlying27 rfl inf27 rfl rfl) (RdI.tmp rfl)) rfl SelMC.sel SubRC.sub
set_option maxHeartbeats 4000000 in
theorem SoonP_v (F : Work) (ro ho : Option Addr) (rc hc : Nat) (x : Int) (hr : F.rain.length ≤ 40) (hh : F.heaps.length ≤ 40) : FnV Try.prog 19 [valF F ro rc ho hc, i64 x] [rowD ro 2 encS F.rain, rowD ho 3 encH F.heaps] (.tuple #[.agg #[i64 (soonP F x).1.a, i64 (soonP F x).1.b, i64 (soonP F x).1.c], i64 (soonP F x).2]) := by
  refine FnV.introD Try.call19 Try.func19 rfl Try.ntmps19 rfl ?_
  intro W M Rf
  refine r_seq ?_
  refine r_region ?_
  refine o_boxA rfl rfl rfl rfl rfl (fun b2 => ?_)
  refine o_alloc rfl inf27 rfl rfl rfl rfl rfl (fun b4 => ?_)
  refine o_alloc rfl inf32 rfl rfl rfl rfl rfl (fun b5 => ?_)
  refine o_nil ?_
  with_reducible refine r_then ?_
  refine r_seq ?_
  refine r_region ?_
  refine o_defer rfl rfl rfl rfl ?_
  refine o_nil ?_
  with_reducible refine r_then ?_
  refine r_seq ?_
  refine r_par' 4 mixed (by kernel_rfl) (by rfl) ?_
  refine p_q _ rfl rfl rfl (fun _ _ => v_ldW rfl Try.underlying26 rfl inf26 rfl rfl) ?_
  refine p_q _ rfl rfl rfl (fun _ _ => v_ldW rfl Try.underlying26 rfl inf26 rfl rfl) ?_
  refine p_q _ rfl rfl rfl (fun _ _ => v_move rfl rfl) ?_
  refine p_test rfl rfl rfl (fun _ _ => OpQ.fn (isHeap_v F ro ho rc hc _ hr hh) rfl rfl SubRC.sub) (fun h12 => ?_) (fun h12 => ?_)
  all_goals
    refine p_nil2 (by simp only [List.nil_append, List.cons_append]; rfl) rfl ?_
    refine f_q rfl ?_
    refine f_q rfl ?_
    refine f_q rfl ?_
    refine f_q rfl ?_
    refine f_nil ?_
    by_cases hg : GoodF F
    all_goals
      first | refine o_fnp (open_ok F ro ho rc hc hr hh hg) rfl rfl rfl rfl rfl SubRC.sub (fun fb => ?_) | refine o_fnx (open_x F ro ho rc hc _ hr hh (by first | exact chk_false F | exact chk_ne hg)) rfl rfl rfl SubRC.sub ?_
      all_goals
        repeat (first | with_reducible refine r_then_panic ?_)
        try (first | (rw [soonP_ok hg (by simp [*]) (by assumption)]; exact d_panv answer_ans (Rd.two rfl (RdI.cellW Try.underlying27 rfl inf27 rfl rfl) (RdI.cell1 Try.underlying32 rfl rfl rfl)) rfl SelMC.sel SubRC.sub) | (rw [soonP_none hg (by simp [*]) (by assumption)]; exact d_panv answer_ans (Rd.two rfl (RdI.cellW Try.underlying27 rfl inf27 rfl rfl) (RdI.cell1 Try.underlying32 rfl rfl rfl)) rfl SelMC.sel SubRC.sub) | (rw [soonP_of true (by simp [*]) (chk_ne hg)]; exact d_panv answer_ans (Rd.two rfl (RdI.cellW Try.underlying27 rfl inf27 rfl rfl) (RdI.cell1 Try.underlying32 rfl rfl rfl)) rfl SelMC.sel SubRC.sub) | (rw [soonP_of false (by simp [*]) (chk_false F)]; exact d_panv answer_ans (Rd.two rfl (RdI.cellW Try.underlying27 rfl inf27 rfl rfl) (RdI.cell1 Try.underlying32 rfl rfl rfl)) rfl SelMC.sel SubRC.sub))
        all_goals
          refine o_q _ rfl rfl rfl (v_assign rfl rfl) ?_
          refine o_nil ?_
          with_reducible refine r_then ?_
          refine r_seq ?_
          have hb := hg.bnd
          refine r_region ?_
          refine o_q _ rfl rfl rfl (v_move rfl rfl) ?_
          refine o_q _ rfl rfl rfl (v_move rfl rfl) ?_
          refine o_q _ rfl rfl rfl (v_bS0 rfl Try.underlying90 inf90 plt90 rfl rfl) ?_
          refine o_q _ rfl rfl rfl (v_makeIface rfl Try.underlying90 rfl rfl) ?_
          refine o_fns (sure_fr wetT F ro ho rc hc fb _ (by omega) (by omega) hb) rfl rfl rfl rfl rfl SubRC.sub (fun oa19 cp19 => ?_)
          refine o_q _ rfl rfl rfl (v_bS rfl Try.underlying100 inf100 plt100 rfl rfl rfl (by repeat (first | exact trivial | refine ⟨rfl, ?_⟩)) (by rfl)) ?_
          refine o_q _ rfl rfl rfl (OpQ.fn (chosen_v _ _ _ (sureF_le hb.len)) rfl rfl SubRC.sub) ?_
          refine o_q _ rfl rfl rfl (v_move rfl rfl) ?_
          refine o_q _ rfl rfl rfl (v_extract rfl rfl rfl) ?_
          refine o_q _ rfl rfl rfl (v_extract rfl rfl rfl) ?_
          refine o_alloc rfl inf27 rfl rfl rfl rfl rfl (fun b7 => ?_)
          refine o_st rfl inf27 rfl rfl rfl rfl rfl rfl rfl rfl ?_
          refine o_q _ rfl rfl rfl (v_assign rfl rfl) ?_
          refine o_nil ?_
          with_reducible refine r_then ?_
          refine r_seq ?_
          refine r_region ?_
          refine o_test rfl rfl rfl (v_move rfl rfl) (fun h24 => ?_) (fun h24 => ?_)
          all_goals
            first | refine o_q _ rfl rfl rfl (OpQ.fn (ask_t _) rfl rfl SubRC.sub) ?_ | refine o_fnx (ask_f _) rfl rfl rfl SubRC.sub ?_
            repeat (first | with_reducible refine r_then_panic ?_)
            try (first | (rw [soonP_ok hg (by simp [*]) (by assumption)]; exact d_panv answer_ans (Rd.two rfl (RdI.cellW Try.underlying27 rfl inf27 rfl rfl) (RdI.cell1 Try.underlying32 rfl rfl rfl)) rfl SelMC.sel SubRC.sub) | (rw [soonP_none hg (by simp [*]) (by assumption)]; exact d_panv answer_ans (Rd.two rfl (RdI.cellW Try.underlying27 rfl inf27 rfl rfl) (RdI.cell1 Try.underlying32 rfl rfl rfl)) rfl SelMC.sel SubRC.sub) | (rw [soonP_of true (by simp [*]) (chk_ne hg)]; exact d_panv answer_ans (Rd.two rfl (RdI.cellW Try.underlying27 rfl inf27 rfl rfl) (RdI.cell1 Try.underlying32 rfl rfl rfl)) rfl SelMC.sel SubRC.sub) | (rw [soonP_of false (by simp [*]) (chk_false F)]; exact d_panv answer_ans (Rd.two rfl (RdI.cellW Try.underlying27 rfl inf27 rfl rfl) (RdI.cell1 Try.underlying32 rfl rfl rfl)) rfl SelMC.sel SubRC.sub))
            all_goals
              refine o_nil ?_
              with_reducible refine r_then ?_
              refine r_seq ?_
              refine r_region ?_
              refine o_q _ rfl rfl rfl (v_ldW rfl Try.underlying27 rfl inf27 rfl rfl) ?_
              refine o_st rfl inf27 rfl rfl rfl rfl rfl rfl rfl rfl ?_
              refine o_st rfl inf32 rfl rfl rfl rfl rfl rfl rfl rfl ?_
              refine o_nil ?_
              with_reducible refine r_then ?_
              refine r_ret ?_
              (rw [soonP_ok hg (by simp [*]) (by assumption)]; exact d_retv answer_ans (Rd.two rfl (RdI.cellW Try.underlying27 rfl inf27 rfl rfl) (RdI.cell1 Try.underlying32 rfl rfl rfl)) rfl SelMC.sel SubRC.sub)
end Go.Proofs.Ytienjlmnakbfmaa


namespace Go.G
variable {P : Program} {W : World} {n : Nat} {D : List Deferred} {L : Tm} {M : List Res} {R : List Fact} {Q : Exit → Act → World → Prop} {o : Oper}
theorem run_shl1 {h m : Nat} (hh : h < 62) (hm : m = 2 ^ h) (w : World) : (Op.shift .shl .i64 1 .i64 (h : Int)).run P w = .ok (.int .i64 (m : Int)) w := by
  have h2 : ¬ ((h : Int) < 0) := by omega
  have h3 : min h 64 = h := by omega
  have h4 : (2 : Nat) ^ h ≤ 2 ^ 61 := Nat.pow_le_pow_right (by omega) (by omega)
  have hm' : m ≤ 2305843009213693952 := by rw [hm]; exact h4
  have hw : IntKind.wrap .i64 (m : Int) = (m : Int) := by
    rw [IntKind.wrap_i64]
    omega
  have e : (1 : Int) * 2 ^ (min (h : Int).toNat IntKind.i64.bits) = (m : Int) := by
    rw [show (h : Int).toNat = h from by simp, show IntKind.i64.bits = 64 from rfl, h3, hm]
    simp
  unfold Op.shift
  rw [if_neg h2]
  simp only [e, hw, Sem.run_pure]
theorem v_shl1 {t u : TypeId} {x y : Operand} {h m : Nat} (ho : o.op = .binOp .shl t x y u) (hx : ev L x = some (.int .i64 1)) (hy : ev L y = some (.int .i64 (h : Int))) (hh : h < 62) (hm : m = 2 ^ h) : OpQ P W n L M R o (.int .i64 (m : Int)) :=
  OpQ.of_value fun f w h1 _ => by
    have hs := run_shl1 (P := P) hh hm w
    have hb : (binOp .shl t (.int .i64 1) (.int .i64 (h : Int))).run P w = .ok (.int .i64 (m : Int)) w := hs
    simp [execOp, ho, h1.ev hx, h1.ev hy, eqGuard, hb]
theorem v_orn {t u : TypeId} {x y : Operand} {a b : Nat} (ho : o.op = .binOp .or t x y u) (hx : ev L x = some (.int .i64 (a : Int))) (hy : ev L y = some (.int .i64 (b : Int))) (ha : a < 2 ^ 62) (hb : b < 2 ^ 62) : OpQ P W n L M R o (.int .i64 ((a ||| b : Nat) : Int)) :=
  OpQ.of_value fun f w h1 _ => by
    have hlt : a ||| b < 2 ^ 62 := Nat.or_lt_two_pow ha hb
    have hw : IntKind.wrap .i64 ((a ||| b : Nat) : Int) = ((a ||| b : Nat) : Int) := by
      rw [IntKind.wrap_i64]
      omega
    have hs : (Op.intBits .or .i64 (a : Int) (b : Int)).run P w = .ok (.int .i64 ((a ||| b : Nat) : Int)) w := by
      unfold Op.intBits
      have e1 : (BitVec.ofInt IntKind.i64.bits (a : Int) ||| BitVec.ofInt IntKind.i64.bits (b : Int)).toNat = a ||| b := by
        have h64 : IntKind.i64.bits = 64 := rfl
        rw [BitVec.toNat_or]
        simp only [BitVec.ofInt_natCast, BitVec.toNat_ofNat, h64]
        rw [Nat.mod_eq_of_lt (by omega), Nat.mod_eq_of_lt (by omega)]
      simp only [e1, hw, Sem.run_pure]
    have hb2 : (binOp .or t (.int .i64 (a : Int)) (.int .i64 (b : Int))).run P w = .ok (.int .i64 ((a ||| b : Nat) : Int)) w := hs
    simp [execOp, ho, h1.ev hx, h1.ev hy, eqGuard, hb2]
/-- An array's element, out of the value. -/
theorem v_indexV {T : TypeId} {x ix : Operand} {us : List Value} {len k : Nat} {e : TypeId} {i : TypeInfo} {d : TypeDesc} {v : Value} {kd : IntKind} (ho : o.op = .index T x ix) (hT : P.underlying T = some (.array len e)) (hi : P.info? e = some i) (he : P.underlying e = some d) (hd : aggD d = false)
    (hx : ev L x = some (.agg us.toArray)) (hk : ev L ix = some (.int kd (k : Int))) (h : k < len) (hv : us[k * i.size]? = some v) : OpQ P W n L M R o v :=
  OpQ.of_value fun g w h1 _ => by
    have hagg := run_isAgg' (w := w) he
    rw [hd] at hagg
    have h' : ¬ len ≤ k := by omega
    simp [execOp, ho, h1.ev hx, h1.ev hk, Instr.index, asIntOf, run_underlying hT, run_sizeOf' hi, part, hagg, hv]
    exact fun x => absurd x h'
/-! ### blocks of many numbers -/
theorem splice_map {xs : List Int} {m : Nat} {x : Int} : splice (xs.map (fun z => Value.int .i64 z)) m [Value.int .i64 x] = (xs.set m x).map (fun z => Value.int .i64 z) := by
  simp [splice, List.map_set]
theorem oneCells_map : ∀ (xs : List Int), oneCells (xs.map (fun z => Value.int .i64 z)) = true
  | [] => rfl
  | x :: r => by
    simp only [List.map_cons, oneCells, Bool.and_eq_true]
    exact ⟨rfl, oneCells_map r⟩
theorem splice_app : ∀ (us pre vs : List Value), vs.length = us.length → splice (pre ++ vs) pre.length us = pre ++ us
  | [], pre, vs, h => by
    have : vs = [] := List.eq_nil_of_length_eq_zero (by simpa using h)
    subst this; simp [splice]
  | u :: us, pre, [], h => by simp at h
  | u :: us, pre, v :: vs, h => by
    simp only [splice]
    have hs : (pre ++ v :: vs).set pre.length u = (pre ++ [u]) ++ vs := by
      rw [List.set_append_right _ _ (by omega)]
      simp
    rw [hs]
    have := splice_app us (pre ++ [u]) vs (by simpa using h)
    rw [show (pre ++ [u]).length = pre.length + 1 from by simp] at this
    rw [this]
    simp
theorem splice_all {us vs : List Value} (h : vs.length = us.length) : splice vs 0 us = us := splice_app us [] vs h
end Go.G


namespace Foot4
open Go Go.G
def sureR (F : Work) (heap : Nat) : List T3 := (whole F.rain.length).filter fun p => decide (keptR F heap p = 2)
def sureU (F : Work) (heap i : Nat) : List T3 := ((whole F.rain.length).take i).filter fun p => decide (keptR F heap p = 2)
/-- The best of the first k, from the first one on. -/
def best2 {α : Type} (bt : α → α → Bool) (z : α) (xs : List α) : Nat → α
  | 0 => xs.getD 0 z
  | k + 1 => if bt (xs.getD k z) (best2 bt z xs k) = true then xs.getD k z else best2 bt z xs k
def soonR (F : Work) (x : Int) : T3 × Int :=
  let e := chk F (decide (0 ≤ x ∧ x ≤ (F.heaps.length : Int) - 1))
  if e = 0 then (if 0 < (sureR F x.toNat).length then (soonL (sureR F x.toNat), 0) else (default, 4)) else (default, e)
/-! ### how many steps there are on each day -/
def iv (z : Int) : Value := .int .i64 z
def withTo (B : List Int) (p : T3) : Nat → List Int
  | 0 => B
  | k + 1 => if 0 ≤ p.at k then (withTo B p k).set (p.at k).toNat ((withTo B p k).getD (p.at k).toNat 0 + 1) else withTo B p k
def with_ (B : List Int) (p : T3) : List Int := withTo B p 3
theorem withTo_len (B : List Int) (p : T3) : ∀ k, (withTo B p k).length = B.length
  | 0 => rfl
  | k + 1 => by
    simp only [withTo]
    split
    · simp [withTo_len B p k]
    · exact withTo_len B p k
theorem with_len (B : List Int) (p : T3) : (with_ B p).length = B.length := withTo_len B p 3
def Small (B : List Int) (m : Int) : Prop := ∀ i, 0 ≤ B.getD i 0 ∧ B.getD i 0 ≤ m
theorem withTo_small {B : List Int} {m : Int} (hm : 0 ≤ m) (h : Small B m) (p : T3) : ∀ k, Small (withTo B p k) (m + k)
  | 0 => by simpa [withTo] using h
  | k + 1 => by
    have ih := withTo_small hm h p k
    intro i
    simp only [withTo]
    split
    · have h1 := ih i
      have h2 := ih (p.at k).toNat
      by_cases e : (p.at k).toNat = i
      · subst e
        by_cases hl : (p.at k).toNat < (withTo B p k).length
        · simp only [List.getD_eq_getElem?_getD, List.getElem?_set_self hl, Option.getD_some] at h2 ⊢
          omega
        · rw [List.set_eq_of_length_le (by omega)]
          omega
      · have e3 : ((withTo B p k).set (p.at k).toNat ((withTo B p k).getD (p.at k).toNat 0 + 1)).getD i 0 = (withTo B p k).getD i 0 := by
          simp only [List.getD_eq_getElem?_getD]; rw [List.getElem?_set_ne e]
        rw [e3]; omega
    · have := ih i; omega
theorem with_small {B : List Int} {m : Int} (hm : 0 ≤ m) (h : Small B m) (p : T3) : Small (with_ B p) (m + 3) := withTo_small hm h p 3
theorem map_at {B : List Int} {m : Nat} (h : m < B.length) : (B.map iv)[0 + m * 1]? = some (i64 (B.getD m 0)) := by
  rw [Nat.zero_add, Nat.mul_one, List.getElem?_map, List.getD_eq_getElem?_getD, List.getElem?_eq_getElem h]
  rfl
theorem withTo_yes {B : List Int} {p : T3} {k : Nat} (h : 0 ≤ p.at k) : splice ((withTo B p k).map iv) (0 + (p.at k).toNat * 1) [i64 ((withTo B p k).getD (p.at k).toNat 0 + 1)] = (withTo B p (k + 1)).map iv := by
  rw [Nat.zero_add, Nat.mul_one]
  simp only [withTo, if_pos h]
  exact splice_map
theorem withTo_no {B : List Int} {p : T3} {k : Nat} (h : ¬ 0 ≤ p.at k) : (withTo B p k).map iv = (withTo B p (k + 1)).map iv := by
  simp only [withTo, if_neg h]
/-! ### which heaps can be clamped -/
def clampB (q : Nat → Bool) : Nat → Nat
  | 0 => 0
  | k + 1 => clampB q k ||| (if q k then 2 ^ k else 0)
theorem clampB_lt (q : Nat → Bool) : ∀ k, clampB q k < 2 ^ k
  | 0 => by simp [clampB]
  | k + 1 => by
    have h1 : clampB q k < 2 ^ (k + 1) := Nat.lt_of_lt_of_le (clampB_lt q k) (Nat.pow_le_pow_right (by omega) (by omega))
    refine Nat.or_lt_two_pow h1 ?_
    split
    · exact Nat.pow_lt_pow_right (by omega) (by omega)
    · exact Nat.two_pow_pos _
theorem clampB_sm (q : Nat → Bool) {k : Nat} (h : k ≤ 3) : clampB q k < 8 := Nat.lt_of_lt_of_le (clampB_lt q k) (Nat.pow_le_pow_right (n := 2) (by omega) h)
theorem clampB_yes {q : Nat → Bool} {k : Nat} (h : q k = true) : clampB q k ||| 2 ^ k = clampB q (k + 1) := by simp [clampB, h]
theorem clampB_no {q : Nat → Bool} {k : Nat} (h : ¬ q k = true) : clampB q k = clampB q (k + 1) := by simp [clampB, h]
def sureQ (sel : Int → Int → Int) (F : Work) (h : Nat) : Bool := decide (0 < ((sureF sel F h).length : Int))
def clampP (F : Work) : Int × Int × Int := if chk F true = 0 then ((clampB (sureQ selW F) F.heaps.length : Nat), (clampB (sureQ selD F) F.heaps.length : Nat), 0) else (0, 0, chk F true)
theorem clampP_ok {F : Work} (hg : GoodF F) : clampP F = (((clampB (sureQ selW F) F.heaps.length : Nat) : Int), ((clampB (sureQ selD F) F.heaps.length : Nat) : Int), 0) := by unfold clampP; rw [if_pos (by simp [chk, hg])]
theorem clampP_bad {F : Work} (hg : ¬ GoodF F) : clampP F = (0, 0, chk F true) := by unfold clampP; rw [if_neg (chk_ne hg)]
end Foot4


namespace Go.Proofs.Ytienjlmnakbfmaa
open Go.G Foot4
set_option maxRecDepth 1000000
attribute [local irreducible] G.ParO G.Fin
end Go.Proofs.Ytienjlmnakbfmaa


namespace Go.Proofs.Ytienjlmnakbfmaa
open Go.G Foot4
set_option maxRecDepth 1000000
attribute [local irreducible] G.ParO G.Fin
set_option maxHeartbeats 4000000 in
theorem ClampP_v (F : Work) (ro ho : Option Addr) (rc hc : Nat) (hr : F.rain.length ≤ 40) (hh : F.heaps.length ≤ 40) : FnV Try.prog 21 [valF F ro rc ho hc] [rowD ro 2 encS F.rain, rowD ho 3 encH F.heaps] (.tuple #[i64 (clampP F).1, i64 (clampP F).2.1, i64 (clampP F).2.2]) := by
  refine FnV.introD Try.call21 Try.func21 rfl Try.ntmps21 rfl ?_
  intro W M Rf
  refine r_seq ?_
  refine r_region ?_
  refine o_boxA rfl rfl rfl rfl rfl (fun b1 => ?_)
  refine o_q _ rfl rfl rfl (v_assign rfl rfl) ?_
  refine o_q _ rfl rfl rfl (v_assign rfl rfl) ?_
  refine o_alloc rfl inf32 rfl rfl rfl rfl rfl (fun b4 => ?_)
  refine o_nil ?_
  with_reducible refine r_then ?_
  refine r_seq ?_
  refine r_region ?_
  refine o_defer rfl rfl rfl rfl ?_
  refine o_nil ?_
  with_reducible refine r_then ?_
  refine r_seq ?_
  refine r_region ?_
  refine o_q _ rfl rfl rfl (v_ldW rfl Try.underlying26 rfl inf26 rfl rfl) ?_
  by_cases hg : GoodF F
  all_goals
    first | refine o_fnp (open_ok F ro ho rc hc hr hh hg) rfl rfl rfl rfl rfl SubRC.sub (fun fb => ?_) | refine o_fnx (open_x F ro ho rc hc _ hr hh (by first | exact chk_false F | exact chk_ne hg)) rfl rfl rfl SubRC.sub ?_
    all_goals
      repeat (first | with_reducible refine r_then_panic ?_)
      try (rw [clampP_bad hg]; exact d_panv answer_ans (Rd.three rfl (RdI.tmp rfl) (RdI.tmp rfl) (RdI.cell1 Try.underlying32 rfl rfl rfl)) rfl SelMC.sel SubRC.sub)
      all_goals
        refine o_q _ rfl rfl rfl (v_assign rfl rfl) ?_
        refine o_nil ?_
        with_reducible refine r_then ?_
        refine r_seq ?_
        have hb := hg.bnd
        have hl3 := hg.2.2.1
        refine r_region ?_
        refine o_q _ rfl rfl rfl (v_assign rfl rfl) ?_
        refine o_q _ rfl rfl rfl (v_assign rfl rfl) ?_
        refine o_nil ?_
        with_reducible refine r_then ?_
        refine r_seq ?_
        refine r_seq ?_
        refine r_region ?_
        refine o_q _ rfl rfl rfl (v_fieldAddr rfl Try.underlying26 inf24 rfl rfl rfl rfl) ?_
        refine o_q _ rfl rfl rfl (v_ld1 rfl Try.underlying24 rfl rfl rfl) ?_
        refine o_q _ rfl rfl rfl (v_len rfl rfl Try.underlying24 rfl) ?_
        refine o_q _ rfl rfl rfl (v_move rfl rfl) ?_
        refine o_nil ?_
        with_reducible refine r_then ?_
        refine r_block ?_
        refine r_loop (ι := Nat) (fun k => k ≤ F.heaps.length) (fun k => [(1, pt b1 0), (4, pt b4 0), (5, pt fb 0), (6, i64 (clampB (sureQ selW F) k : Nat)), (7, i64 (clampB (sureQ selD F) k : Nat)), (13, i64 F.heaps.length), (14, i64 k)]) (fun k => bx b4 32 [i64 0] :: bx b1 26 (cellsF F ro rc ho hc) :: M) (fun k => boxF fb 126 (cellsF F ro rc ho hc) :: ([rowD ro 2 encS F.rain, rowD ho 3 encH F.heaps] ++ Rf)) (fun k => F.heaps.length - k) 0 ?_ ?_ ?_
        ·
          refine Imp.box_to b4 [i64 0] rfl ?_
          exact r_here (by repeat (first | exact FSub.nil | refine FSub.cons rfl ?_)) SelMC.sel SubRC.sub
        ·
          omega
        ·
          rintro k hI0
          refine r_seq ?_
          refine r_region ?_
          refine o_q _ rfl rfl rfl (v_lss rfl rfl rfl) ?_
          refine o_nil ?_
          with_reducible refine r_then ?_
          refine r_seq ?_
          refine r_condd rfl (fun hc15 => ?_) (fun hc15 => ?_)
          ·
            refine r_skip ?_
            with_reducible refine r_then ?_
            refine r_seq ?_
            refine r_block ?_
            refine r_seq ?_
            refine r_region ?_
            refine o_q _ rfl rfl rfl (v_move rfl rfl) ?_
            refine o_q _ rfl rfl rfl (v_assign rfl rfl) ?_
            refine o_nil ?_
            with_reducible refine r_then ?_
            refine r_seq ?_
            refine r_seq ?_
            refine r_region ?_
            refine o_q _ rfl rfl rfl (v_move rfl rfl) ?_
            refine o_q _ rfl rfl rfl (v_move rfl rfl) ?_
            refine o_q _ rfl rfl rfl (v_bS0 rfl Try.underlying90 inf90 plt90 rfl rfl) ?_
            refine o_q _ rfl rfl rfl (v_makeIface rfl Try.underlying90 rfl rfl) ?_
            refine o_fns (sure_fr wetT F ro ho rc hc fb _ (by omega) (by omega) hb) rfl rfl rfl rfl rfl SubRC.sub (fun oa21 cp21 => ?_)
            refine o_q _ rfl rfl rfl (v_len rfl rfl Try.underlying40 rfl) ?_
            refine o_q _ rfl rfl rfl (v_gtr rfl rfl rfl) ?_
            refine o_nil ?_
            with_reducible refine r_then ?_
            refine r_condd rfl (fun hc23 => ?_) (fun hc23 => ?_)
            ·
              refine r_region ?_
              refine o_q _ rfl rfl rfl (v_move rfl rfl) ?_
              refine o_q _ rfl rfl rfl (v_move rfl rfl) ?_
              refine o_q _ rfl rfl rfl (v_shl1 rfl rfl rfl (by omega) rfl) ?_
              refine o_q _ rfl rfl rfl (v_orn rfl rfl rfl (by have := clampB_sm (sureQ selW F) (k := k) (by omega); omega) (by have : 2 ^ k ≤ 2 ^ 3 := Nat.pow_le_pow_right (by omega) (by omega); omega)) ?_
              refine o_q _ rfl rfl rfl (v_assign rfl rfl) ?_
              refine o_nil ?_
              with_reducible refine r_then ?_
              refine r_seq ?_
              refine r_region ?_
              refine o_q _ rfl rfl rfl (v_move rfl rfl) ?_
              refine o_q _ rfl rfl rfl (v_move rfl rfl) ?_
              refine o_q _ rfl rfl rfl (v_bS0 rfl Try.underlying88 inf88 plt88 rfl rfl) ?_
              refine o_q _ rfl rfl rfl (v_makeIface rfl Try.underlying88 rfl rfl) ?_
              refine o_fns (sure_fr dryT F ro ho rc hc fb _ (by omega) (by omega) hb) rfl rfl rfl rfl rfl SubRC.sub (fun oa32 cp32 => ?_)
              refine o_q _ rfl rfl rfl (v_len rfl rfl Try.underlying40 rfl) ?_
              refine o_q _ rfl rfl rfl (v_gtr rfl rfl rfl) ?_
              refine o_nil ?_
              with_reducible refine r_then ?_
              refine r_condd rfl (fun hc34 => ?_) (fun hc34 => ?_)
              ·
                refine r_region ?_
                refine o_q _ rfl rfl rfl (v_move rfl rfl) ?_
                refine o_q _ rfl rfl rfl (v_move rfl rfl) ?_
                refine o_q _ rfl rfl rfl (v_shl1 rfl rfl rfl (by omega) rfl) ?_
                refine o_q _ rfl rfl rfl (v_orn rfl rfl rfl (by have := clampB_sm (sureQ selD F) (k := k) (by omega); omega) (by have : 2 ^ k ≤ 2 ^ 3 := Nat.pow_le_pow_right (by omega) (by omega); omega)) ?_
                refine o_q _ rfl rfl rfl (v_assign rfl rfl) ?_
                refine o_nil ?_
                with_reducible refine r_in_normal ?_; refine r_then ?_
                refine r_region ?_
                refine o_q _ rfl rfl rfl (v_add rfl rfl rfl (by omega)) ?_
                refine o_q _ rfl rfl rfl (v_move rfl rfl) ?_
                refine o_nil ?_
                with_reducible refine r_then ?_
                refine r_next (k + 1) ?_ ?_ ?_
                ·
                  exact r_here (by repeat (first | exact FSub.nil | refine FSub.cons rfl ?_ | refine FSub.cons2 rfl (congrArg (fun z : Nat => Value.int .i64 (z : Int)) (by first | exact clampB_yes (decide_eq_true (by assumption)) | exact clampB_no (fun hh => absurd (of_decide_eq_true hh) (by assumption)))) ?_ | refine FSub.cons2 rfl (congrArg (Value.int .i64) (by omega)) ?_)) SelMC.sel SubRC.sub
                ·
                  omega
                ·
                  omega
              ·
                refine r_skip ?_
                with_reducible refine r_in_normal ?_; refine r_then ?_
                refine r_region ?_
                refine o_q _ rfl rfl rfl (v_add rfl rfl rfl (by omega)) ?_
                refine o_q _ rfl rfl rfl (v_move rfl rfl) ?_
                refine o_nil ?_
                with_reducible refine r_then ?_
                refine r_next (k + 1) ?_ ?_ ?_
                ·
                  exact r_here (by repeat (first | exact FSub.nil | refine FSub.cons rfl ?_ | refine FSub.cons2 rfl (congrArg (fun z : Nat => Value.int .i64 (z : Int)) (by first | exact clampB_yes (decide_eq_true (by assumption)) | exact clampB_no (fun hh => absurd (of_decide_eq_true hh) (by assumption)))) ?_ | refine FSub.cons2 rfl (congrArg (Value.int .i64) (by omega)) ?_)) SelMC.sel SubRC.sub
                ·
                  omega
                ·
                  omega
            ·
              refine r_skip ?_
              with_reducible refine r_then ?_
              refine r_seq ?_
              refine r_region ?_
              refine o_q _ rfl rfl rfl (v_move rfl rfl) ?_
              refine o_q _ rfl rfl rfl (v_move rfl rfl) ?_
              refine o_q _ rfl rfl rfl (v_bS0 rfl Try.underlying88 inf88 plt88 rfl rfl) ?_
              refine o_q _ rfl rfl rfl (v_makeIface rfl Try.underlying88 rfl rfl) ?_
              refine o_fns (sure_fr dryT F ro ho rc hc fb _ (by omega) (by omega) hb) rfl rfl rfl rfl rfl SubRC.sub (fun oa32 cp32 => ?_)
              refine o_q _ rfl rfl rfl (v_len rfl rfl Try.underlying40 rfl) ?_
              refine o_q _ rfl rfl rfl (v_gtr rfl rfl rfl) ?_
              refine o_nil ?_
              with_reducible refine r_then ?_
              refine r_condd rfl (fun hc34 => ?_) (fun hc34 => ?_)
              ·
                refine r_region ?_
                refine o_q _ rfl rfl rfl (v_move rfl rfl) ?_
                refine o_q _ rfl rfl rfl (v_move rfl rfl) ?_
                refine o_q _ rfl rfl rfl (v_shl1 rfl rfl rfl (by omega) rfl) ?_
                refine o_q _ rfl rfl rfl (v_orn rfl rfl rfl (by have := clampB_sm (sureQ selD F) (k := k) (by omega); omega) (by have : 2 ^ k ≤ 2 ^ 3 := Nat.pow_le_pow_right (by omega) (by omega); omega)) ?_
                refine o_q _ rfl rfl rfl (v_assign rfl rfl) ?_
                refine o_nil ?_
                with_reducible refine r_in_normal ?_; refine r_then ?_
                refine r_region ?_
                refine o_q _ rfl rfl rfl (v_add rfl rfl rfl (by omega)) ?_
                refine o_q _ rfl rfl rfl (v_move rfl rfl) ?_
                refine o_nil ?_
                with_reducible refine r_then ?_
                refine r_next (k + 1) ?_ ?_ ?_
                ·
                  exact r_here (by repeat (first | exact FSub.nil | refine FSub.cons rfl ?_ | refine FSub.cons2 rfl (congrArg (fun z : Nat => Value.int .i64 (z : Int)) (by first | exact clampB_yes (decide_eq_true (by assumption)) | exact clampB_no (fun hh => absurd (of_decide_eq_true hh) (by assumption)))) ?_ | refine FSub.cons2 rfl (congrArg (Value.int .i64) (by omega)) ?_)) SelMC.sel SubRC.sub
                ·
                  omega
                ·
                  omega
              ·
                refine r_skip ?_
                with_reducible refine r_in_normal ?_; refine r_then ?_
                refine r_region ?_
                refine o_q _ rfl rfl rfl (v_add rfl rfl rfl (by omega)) ?_
                refine o_q _ rfl rfl rfl (v_move rfl rfl) ?_
                refine o_nil ?_
                with_reducible refine r_then ?_
                refine r_next (k + 1) ?_ ?_ ?_
                ·
                  exact r_here (by repeat (first | exact FSub.nil | refine FSub.cons rfl ?_ | refine FSub.cons2 rfl (congrArg (fun z : Nat => Value.int .i64 (z : Int)) (by first | exact clampB_yes (decide_eq_true (by assumption)) | exact clampB_no (fun hh => absurd (of_decide_eq_true hh) (by assumption)))) ?_ | refine FSub.cons2 rfl (congrArg (Value.int .i64) (by omega)) ?_)) SelMC.sel SubRC.sub
                ·
                  omega
                ·
                  omega
          ·
            refine r_exit ?_
            with_reducible refine r_then_exit ?_; refine r_then_exit ?_; refine r_in_here ?_; refine r_then ?_
            refine r_seq ?_
            refine r_region ?_
            refine o_q _ rfl rfl rfl (v_move rfl rfl) ?_
            refine o_q _ rfl rfl rfl (v_move rfl rfl) ?_
            refine o_q _ rfl rfl rfl (v_assign rfl rfl) ?_
            refine o_q _ rfl rfl rfl (v_assign rfl rfl) ?_
            refine o_st rfl inf32 rfl rfl rfl rfl rfl rfl rfl rfl ?_
            refine o_nil ?_
            with_reducible refine r_then ?_
            refine r_ret ?_
            have hk : k = F.heaps.length := by omega
            rw [clampP_ok hg, ← hk]
            exact d_retv answer_ans (Rd.three rfl (RdI.tmp rfl) (RdI.tmp rfl) (RdI.cell1 Try.underlying32 rfl rfl rfl)) rfl SelMC.sel SubRC.sub
end Go.Proofs.Ytienjlmnakbfmaa


namespace Go.Proofs.Ytienjlmnakbfmaa
open Go.G Foot4
set_option maxRecDepth 1000000
attribute [local irreducible] G.ParO G.Fin
theorem t3_atv {a b c : Int} {k : Nat} (h1 : k < 3) : [i64 a, i64 b, i64 c][k * 1]? = some (i64 (T3.at ⟨a, b, c⟩ k)) := by
  obtain rfl | rfl | rfl : k = 0 ∨ k = 1 ∨ k = 2 := by omega
  all_goals rfl
theorem ble1 {xs : List Value} {m : Nat} (h : m < xs.length) : Nat.ble (0 + m * 1 + 1) xs.length = true := Nat.ble_eq_true_of_le (by omega)
set_option maxHeartbeats 4000000 in
theorem with_v (B : List Int) (a b c : Int) (hB : B.length = 8) (hs : Small B 1000) (hd : ∀ k, k < 3 → (⟨a, b, c⟩ : T3).at k ≤ 7) : FnV Try.prog 71 [.agg ((B).map iv).toArray, .agg #[i64 a, i64 b, i64 c]] [] (.agg ((with_ B ⟨a, b, c⟩).map iv).toArray) := by
  refine FnV.intro Try.call71 Try.func71 rfl Try.ntmps71 rfl ?_
  intro W M Rf
  refine r_seq ?_
  refine r_region ?_
  refine o_boxA rfl rfl rfl rfl rfl (fun b2 => ?_)
  refine o_boxA rfl rfl rfl rfl rfl (fun b3 => ?_)
  refine o_alloc rfl inf107 rfl rfl rfl rfl rfl (fun b4 => ?_)
  refine o_nil ?_
  with_reducible refine r_then ?_
  refine r_seq ?_
  refine r_seq ?_
  refine r_region ?_
  refine o_q _ rfl rfl rfl (v_ldW rfl Try.underlying27 rfl inf27 rfl rfl) ?_
  refine o_q _ rfl rfl rfl (v_move rfl rfl) ?_
  refine o_nil ?_
  with_reducible refine r_then ?_
  refine r_block ?_
  refine r_loop (ι := Nat) (fun k => k ≤ 3) (fun k => [(2, pt b2 0), (4, pt b4 0), (7, .agg #[i64 a, i64 b, i64 c]), (8, i64 k)]) (fun k => bx b2 107 ((withTo B ⟨a, b, c⟩ k).map iv) :: bx b4 107 [iv 0, iv 0, iv 0, iv 0, iv 0, iv 0, iv 0, iv 0] :: M) (fun k => [] ++ Rf) (fun k => 3 - k) 0 ?_ ?_ ?_
  ·
    refine Imp.box_to b4 [iv 0, iv 0, iv 0, iv 0, iv 0, iv 0, iv 0, iv 0] rfl ?_
    refine Imp.box_to b2 ((withTo B ⟨a, b, c⟩ 0).map iv) rfl ?_
    exact r_here (by repeat (first | exact FSub.nil | refine FSub.cons rfl ?_)) SelMC.sel SubRC.sub
  ·
    omega
  ·
    rintro k hI0
    refine r_seq ?_
    refine r_region ?_
    refine o_q _ rfl rfl rfl (v_lss rfl rfl rfl) ?_
    refine o_nil ?_
    with_reducible refine r_then ?_
    refine r_seq ?_
    refine r_condd rfl (fun hc9 => ?_) (fun hc9 => ?_)
    ·
      refine r_skip ?_
      with_reducible refine r_then ?_
      refine r_seq ?_
      refine r_block ?_
      refine r_seq ?_
      refine r_region ?_
      refine o_q _ rfl rfl rfl (v_indexV rfl Try.underlying27 inf3 Try.underlying3 rfl rfl rfl (by omega) (by first | rfl | exact t3_atv (by omega))) ?_
      refine o_q _ rfl rfl rfl (v_assign rfl rfl) ?_
      refine o_nil ?_
      with_reducible refine r_then ?_
      refine r_seq ?_
      refine r_region ?_
      refine o_q _ rfl rfl rfl (v_move rfl rfl) ?_
      refine o_q _ rfl rfl rfl (v_geq rfl rfl rfl) ?_
      refine o_nil ?_
      with_reducible refine r_then ?_
      refine r_condd rfl (fun hc12 => ?_) (fun hc12 => ?_)
      ·
        refine r_region ?_
        refine o_q _ rfl rfl rfl (v_move rfl rfl) ?_
        refine o_q _ rfl rfl rfl (v_indexAddrA rfl Try.underlying107 inf3 rfl rfl ⟨by assumption, by have := hd k (by omega); omega⟩) ?_
        refine o_q _ rfl rfl rfl (v_ld1 rfl Try.underlying3 rfl rfl (map_at (by rw [withTo_len, hB]; have := hd k (by omega); omega))) ?_
        refine o_q _ rfl rfl rfl (v_add rfl rfl rfl (by have := withTo_small (by omega) hs ⟨a, b, c⟩ k ((⟨a, b, c⟩ : T3).at k).toNat; omega)) ?_
        refine o_q _ rfl rfl rfl (v_indexAddrA rfl Try.underlying107 inf3 rfl rfl ⟨by assumption, by have := hd k (by omega); omega⟩) ?_
        refine o_st (B := 107) (vs := ((withTo B ⟨a, b, c⟩ k).map iv)) rfl inf3 rfl rfl rfl rfl rfl rfl rfl (ble1 (by rw [List.length_map, withTo_len, hB]; have := hd k (by omega); omega)) ?_
        refine o_nil ?_
        with_reducible refine r_in_normal ?_; refine r_then ?_
        refine r_region ?_
        refine o_q _ rfl rfl rfl (v_add rfl rfl rfl (by omega)) ?_
        refine o_q _ rfl rfl rfl (v_move rfl rfl) ?_
        refine o_nil ?_
        with_reducible refine r_then ?_
        refine r_next (k + 1) ?_ ?_ ?_
        ·
          (refine Imp.box_to b2 ((withTo B ⟨a, b, c⟩ (k + 1)).map iv) (withTo_yes (by assumption)) ?_; exact r_here (by repeat (first | exact FSub.nil | refine FSub.cons rfl ?_)) SelMC.sel SubRC.sub)
        ·
          omega
        ·
          omega
      ·
        refine r_skip ?_
        with_reducible refine r_in_normal ?_; refine r_then ?_
        refine r_region ?_
        refine o_q _ rfl rfl rfl (v_add rfl rfl rfl (by omega)) ?_
        refine o_q _ rfl rfl rfl (v_move rfl rfl) ?_
        refine o_nil ?_
        with_reducible refine r_then ?_
        refine r_next (k + 1) ?_ ?_ ?_
        ·
          (refine Imp.box_to b2 ((withTo B ⟨a, b, c⟩ (k + 1)).map iv) (withTo_no (by assumption)) ?_; exact r_here (by repeat (first | exact FSub.nil | refine FSub.cons rfl ?_)) SelMC.sel SubRC.sub)
        ·
          omega
        ·
          omega
    ·
      refine r_exit ?_
      with_reducible refine r_then_exit ?_; refine r_then_exit ?_; refine r_in_here ?_; refine r_then ?_
      refine r_seq ?_
      have hk : k = 3 := by omega
      subst hk
      refine r_region ?_
      refine o_q _ rfl rfl rfl (v_ldW rfl Try.underlying107 rfl inf107 rfl (by rw [List.length_map, withTo_len, hB]; rfl)) ?_
      refine o_st (us := ((withTo B ⟨a, b, c⟩ 3).map iv)) rfl inf107 rfl rfl rfl rfl rfl (by rw [List.length_map, withTo_len, hB]; rfl) (oneCells_map _) (by rw [List.length_map, withTo_len, hB]; rfl) ?_
      refine o_nil ?_
      with_reducible refine r_then ?_
      refine r_ret ?_
      refine Imp.box_to b4 ((withTo B ⟨a, b, c⟩ 3).map iv) (splice_all (by rw [List.length_map, withTo_len, hB]; rfl)) ?_
      exact r_retv2 (Rd.one rfl (RdI.cellW Try.underlying107 rfl inf107 rfl (by rw [List.length_map, withTo_len, hB]; rfl))) rfl SelMC.sel SubRC.sub
end Go.Proofs.Ytienjlmnakbfmaa


namespace Foot4
open Go Go.G
def busyTo (l : List T3) : Nat → List Int
  | 0 => [0, 0, 0, 0, 0, 0, 0, 0]
  | h + 1 => with_ (busyTo l h) (l.getD h default)
theorem busyTo_len (l : List T3) : ∀ h, (busyTo l h).length = 8
  | 0 => rfl
  | h + 1 => by simp only [busyTo, with_len, busyTo_len l h]
theorem busyTo_small (l : List T3) : ∀ h, Small (busyTo l h) (3 * h)
  | 0 => by
    intro i
    have : (busyTo l 0).getD i 0 = 0 := by
      simp only [busyTo]
      match i with
      | 0 | 1 | 2 | 3 | 4 | 5 | 6 | 7 => rfl
      | n + 8 => rfl
    rw [this]; omega
  | h + 1 => by
    have := with_small (by omega) (busyTo_small l h) (l.getD h default)
    intro i
    have := this i
    simp only [busyTo]
    omega
def ruleP (F : Work) (l : List T3) (h i : Nat) : Int :=
  if (l.getD h default).at i < 0 then 0 else if ¬ Ordered (l.getD h default) i then 1 else if ¬ canF selW F h (l.getD h default) i then 2
  else if F.men ≤ (busyTo l h).getD ((l.getD h default).at i).toNat 0 then 3 else 0
section
variable {F : Work} {l : List T3} {h i : Nat} {p : T3}
theorem rule_n (hp : l.getD h default = p) (h0 : p.at i < 0) : ruleP F l h i = 0 := by unfold ruleP; rw [hp, if_pos h0]
theorem rule_1 (hp : l.getD h default = p) (h0 : ¬ p.at i < 0) (h1 : ¬ Ordered p i) : ruleP F l h i = 1 := by unfold ruleP; rw [hp, if_neg h0, if_pos h1]
theorem rule_2 (hp : l.getD h default = p) (h0 : ¬ p.at i < 0) (h1 : Ordered p i) (h2 : ¬ canF selW F h p i) : ruleP F l h i = 2 := by unfold ruleP; rw [hp, if_neg h0, if_neg (fun x => x h1), if_pos h2]
theorem rule_3 (hp : l.getD h default = p) (h0 : ¬ p.at i < 0) (h1 : Ordered p i) (h2 : canF selW F h p i) (h3 : F.men ≤ (busyTo l h).getD (p.at i).toNat 0) : ruleP F l h i = 3 := by unfold ruleP; rw [hp, if_neg h0, if_neg (fun x => x h1), if_neg (fun x => x h2), if_pos h3]
theorem rule_0 (hp : l.getD h default = p) (h0 : ¬ p.at i < 0) (h1 : Ordered p i) (h2 : canF selW F h p i) (h3 : ¬ F.men ≤ (busyTo l h).getD (p.at i).toNat 0) : ruleP F l h i = 0 := by unfold ruleP; rw [hp, if_neg h0, if_neg (fun x => x h1), if_neg (fun x => x h2), if_neg h3]
end
/-- The first step that breaks a rule. -/
def First (r : Nat → Nat → Int) (n : Nat) (x : Int × Int × Int × Int) : Prop :=
  (∃ h i : Nat, h < n ∧ i < 3 ∧ r h i ≠ 0 ∧ (∀ h', h' < h → ∀ i', i' < 3 → r h' i' = 0) ∧ (∀ i', i' < i → r h i' = 0) ∧ x = ((h : Int), (i : Int), r h i, 0)) ∨ ((∀ h, h < n → ∀ i, i < 3 → r h i = 0) ∧ x = (0, 0, 0, 4))
def ListOk (F : Work) (l : List T3) : Prop := (l.length : Int) = (F.heaps.length : Int) ∧ ∀ k, k < l.length → Days F.rain.length (l.getD k default)
instance (F : Work) (l : List T3) : Decidable (ListOk F l) := by unfold ListOk; infer_instance
def BrokeP (F : Work) (l : List T3) (x : Int × Int × Int × Int) : Prop := if chk F (decide (ListOk F l)) = 0 then First (ruleP F l) l.length x else x = (0, 0, 0, chk F (decide (ListOk F l)))
theorem BrokeP_of {F : Work} {l : List T3} (v : Bool) (hv : decide (ListOk F l) = v) (h : chk F v ≠ 0) : BrokeP F l (0, 0, 0, chk F v) := by unfold BrokeP; rw [hv, if_neg h]
theorem BrokeP_ok {F : Work} {l : List T3} {x : Int × Int × Int × Int} (hg : GoodF F) (hv : ListOk F l) (h : First (ruleP F l) l.length x) : BrokeP F l x := by unfold BrokeP; rw [if_pos (by simp [chk, hg, hv])]; exact h
theorem BrokeP_at {F : Work} {l : List T3} (hg : GoodF F) (hv : ListOk F l) {h i : Nat} {r : Int} (hr : ruleP F l h i = r) (h0 : r ≠ 0) (h1 : h < l.length) (h2 : i < 3) (h3 : ∀ h', h' < h → ∀ i', i' < 3 → ruleP F l h' i' = 0) (h4 : ∀ i', i' < i → ruleP F l h i' = 0) : BrokeP F l ((h : Int), (i : Int), r, 0) :=
  BrokeP_ok hg hv (.inl ⟨h, i, h1, h2, by rw [hr]; exact h0, h3, h4, by rw [hr]⟩)
theorem BrokeP_none {F : Work} {l : List T3} (hg : GoodF F) (hv : ListOk F l) (h3 : ∀ h', h' < l.length → ∀ i', i' < 3 → ruleP F l h' i' = 0) : BrokeP F l (0, 0, 0, 4) :=
  BrokeP_ok hg hv (.inr ⟨h3, rfl⟩)
end Foot4


namespace Go.Proofs.Ytienjlmnakbfmaa
open Go.G Foot4
set_option maxRecDepth 1000000
attribute [local irreducible] G.ParO G.Fin
set_option maxHeartbeats 4000000 in
theorem plans_r (p : T3 → Prop) [DecidablePred p] (xs : List T3) (oa : Option Addr) (c : Nat) (fv : FuncId) (caps : List Value) (Rs : List Fact) (hl : xs.length ≤ 1000) (hf : ∀ k, k < xs.length → FnV Try.prog fv (.agg #[i64 (xs.getD k default).a, i64 (xs.getD k default).b, i64 (xs.getD k default).c] :: caps) Rs (.bool (decide (p (xs.getD k default))))) : FnR Try.prog 90 [.slice oa xs.length c, .func (.func fv) #[] caps.toArray] (rowD oa 3 (encT) xs :: Rs) (fun v => (v = i64 (-1) ∧ ∀ j, j < xs.length → ¬ p (xs.getD j default)) ∨ ∃ k : Nat, v = i64 k ∧ k < xs.length ∧ p (xs.getD k default)) (fun _ => []) := by
  refine FnR.intro Try.call90 Try.func90 rfl Try.ntmps90 rfl ?_
  intro W M Rf
  refine r_seq ?_
  refine r_region ?_
  refine o_q _ rfl rfl rfl (v_assign rfl rfl) ?_
  refine o_nil ?_
  with_reducible refine r_then ?_
  refine r_seq ?_
  refine r_seq ?_
  refine r_region ?_
  refine o_q _ rfl rfl rfl (v_move rfl rfl) ?_
  refine o_q _ rfl rfl rfl (v_len rfl rfl Try.underlying40 rfl) ?_
  refine o_q _ rfl rfl rfl (v_move rfl rfl) ?_
  refine o_nil ?_
  with_reducible refine r_then ?_
  refine r_block ?_
  refine r_loop (ι := Nat) (fun k => k ≤ xs.length ∧ ∀ j, j < k → ¬ p (xs.getD j default)) (fun k => [(0, .slice oa xs.length c), (1, .func (.func fv) #[] caps.toArray), (7, i64 xs.length), (8, i64 k)]) (fun k => M) (fun k => (rowD oa 3 (encT) xs :: Rs) ++ Rf) (fun k => xs.length - k) 0 ?_ ?_ ?_
  ·
    exact r_here (by repeat (first | exact FSub.nil | refine FSub.cons rfl ?_)) SelMC.sel SubRC.sub
  ·
    exact ⟨by omega, fun j hj => absurd hj (by omega)⟩
  ·
    rintro k hI0
    refine r_seq ?_
    refine r_region ?_
    refine o_q _ rfl rfl rfl (v_lss rfl rfl rfl) ?_
    refine o_nil ?_
    with_reducible refine r_then ?_
    refine r_seq ?_
    refine r_condd rfl (fun hc9 => ?_) (fun hc9 => ?_)
    ·
      refine r_skip ?_
      with_reducible refine r_then ?_
      refine r_seq ?_
      refine r_block ?_
      refine r_seq ?_
      refine r_region ?_
      refine o_q _ rfl rfl rfl (v_move rfl rfl) ?_
      refine o_q _ rfl rfl rfl (v_assign rfl rfl) ?_
      refine o_nil ?_
      with_reducible refine r_then ?_
      refine r_seq ?_
      refine r_region ?_
      refine o_q _ rfl rfl rfl (v_move rfl rfl) ?_
      refine o_q _ rfl rfl rfl (v_move rfl rfl) ?_
      refine o_q _ rfl rfl rfl (v_move rfl rfl) ?_
      refine o_q _ rfl rfl rfl (v_indexAddrSn rfl Try.underlying40 inf27 rfl rfl rfl (by omega) rfl) ?_
      refine o_q _ rfl rfl rfl (v_loadEN rfl Try.underlying27 rfl inf27 rfl (by omega) rfl rfl rfl) ?_
      refine o_test rfl rfl rfl (OpQ.call (hf k (by omega)) rfl [] caps rfl rfl rfl SubRC.sub) (fun h16 => ?_) (fun h16 => ?_)
      all_goals
        refine o_nil ?_
        with_reducible refine r_then ?_
        refine r_cond rfl (fun hc16 => ?_) (fun hc16 => ?_)
        ·
          first
          | (exfalso; revert hc16; decide)
          | skip
            refine r_seq ?_
            refine r_region ?_
            refine o_q _ rfl rfl rfl (v_move rfl rfl) ?_
            refine o_q _ rfl rfl rfl (v_assign rfl rfl) ?_
            refine o_nil ?_
            with_reducible refine r_then ?_
            refine r_ret ?_
            with_reducible refine r_in_ret ?_; refine r_then_ret ?_; refine r_then_ret ?_; refine r_in_ret ?_; refine r_then_ret ?_
            exact r_retr (Rd.tmp rfl rfl) (Or.inr ⟨k, rfl, by omega, by assumption⟩) SelMC.sel SubRC.sub
        ·
          first
          | (exfalso; revert hc16; decide)
          | skip
            refine r_skip ?_
            with_reducible refine r_in_normal ?_; refine r_then ?_
            refine r_region ?_
            refine o_q _ rfl rfl rfl (v_add rfl rfl rfl (by omega)) ?_
            refine o_q _ rfl rfl rfl (v_move rfl rfl) ?_
            refine o_nil ?_
            with_reducible refine r_then ?_
            refine r_next (k + 1) ?_ ?_ ?_
            ·
              exact r_here (by repeat (first | exact FSub.nil | refine FSub.cons rfl ?_)) SelMC.sel SubRC.sub
            ·
              exact ⟨by omega, all_step hI0.2 (by assumption)⟩
            ·
              omega
    ·
      refine r_exit ?_
      with_reducible refine r_then_exit ?_; refine r_then_exit ?_; refine r_in_here ?_; refine r_then ?_
      refine r_seq ?_
      refine r_region ?_
      refine o_q _ rfl rfl rfl (v_assign rfl rfl) ?_
      refine o_nil ?_
      with_reducible refine r_then ?_
      refine r_ret ?_
      exact r_retr (Rd.tmp rfl rfl) (Or.inl ⟨rfl, fun j hj => hI0.2 j (by omega)⟩) SelMC.sel SubRC.sub
set_option maxHeartbeats 4000000 in
theorem plans_c (p : T3 → Prop) [DecidablePred p] (xs : List T3) (oa : Option Addr) (c : Nat) (fv : FuncId) (caps : List Value) (Rs : List Fact) (hl : xs.length ≤ 1000) (hf : ∀ k, k < xs.length → FnV Try.prog fv (.agg #[i64 (xs.getD k default).a, i64 (xs.getD k default).b, i64 (xs.getD k default).c] :: caps) Rs (.bool (decide (p (xs.getD k default))))) : FnV Try.prog 66 [.slice oa xs.length c, .func (.func fv) #[] caps.toArray] (rowD oa 3 (encT) xs :: Rs) (.bool (decide (∃ k, k < xs.length ∧ p (xs.getD k default)))) := by
  refine FnV.intro Try.call66 Try.func66 rfl Try.ntmps66 rfl ?_
  intro W M Rf
  refine r_seq ?_
  refine r_region ?_
  refine o_q _ rfl rfl rfl (v_assign rfl rfl) ?_
  refine o_nil ?_
  with_reducible refine r_then ?_
  refine r_seq ?_
  refine r_region ?_
  refine o_q _ rfl rfl rfl (v_move rfl rfl) ?_
  refine o_q _ rfl rfl rfl (v_move rfl rfl) ?_
  refine o_fn (plans_r p xs oa c fv caps Rs hl hf) rfl rfl rfl rfl rfl SubRC.sub (fun v7 hv7 => ?_)
  obtain ⟨rfl, hn⟩ | ⟨k, rfl, hk, hp⟩ := hv7
  all_goals
    refine o_q _ rfl rfl rfl (v_geq rfl rfl rfl) ?_
    refine o_q _ rfl rfl rfl (v_assign rfl rfl) ?_
    refine o_nil ?_
    with_reducible refine r_then ?_
    refine r_ret ?_
    first
    | exact r_retv2 (Rd.tmp rfl rfl) (congrArg Value.bool ((decide_eq_false (by omega)).trans (decide_eq_false (fun ⟨k, hk, hp⟩ => hn k hk hp)).symm)) SelMC.sel SubRC.sub
    | exact r_retv2 (Rd.tmp rfl rfl) (congrArg Value.bool ((decide_eq_true (by omega)).trans (decide_eq_true ⟨k, hk, hp⟩).symm)) SelMC.sel SubRC.sub
set_option maxHeartbeats 4000000 in
theorem broken1_v (F : Work) (ro ho : Option Addr) (rc hc : Nat) (fb : Nat) (a b c : Int) (hr : F.rain.length ≤ 40) (hh : F.heaps.length ≤ 40) : FnV Try.prog 67 [.agg #[i64 a, i64 b, i64 c], pt fb 0] [boxF fb 26 (cellsF F ro rc ho hc), rowD ro 2 encS F.rain, rowD ho 3 encH F.heaps] (.bool (decide (¬ Days F.rain.length ⟨a, b, c⟩))) := by
  refine FnV.intro Try.call67 Try.func67 rfl Try.ntmps67 rfl ?_
  intro W M Rf
  refine r_seq ?_
  refine r_region ?_
  refine o_boxA rfl rfl rfl rfl rfl (fun b2 => ?_)
  refine o_q _ rfl rfl rfl (v_assign rfl rfl) ?_
  refine o_nil ?_
  with_reducible refine r_then ?_
  refine r_seq ?_
  refine r_region ?_
  refine o_q _ rfl rfl rfl (v_lfW rfl Try.underlying26 rfl inf26 rfl rfl) ?_
  refine o_q _ rfl rfl rfl (v_ldW rfl Try.underlying27 rfl inf27 rfl rfl) ?_
  refine o_test rfl rfl rfl (OpQ.fn (isDays_v F ro ho rc hc _ _ _ hr hh) rfl rfl SubRC.sub) (fun h6 => ?_) (fun h6 => ?_)
  all_goals
    refine o_q _ rfl rfl rfl (v_not rfl rfl) ?_
    refine o_q _ rfl rfl rfl (v_assign rfl rfl) ?_
    refine o_nil ?_
    with_reducible refine r_then ?_
    refine r_ret ?_
    exact r_retv2 (Rd.tmp rfl rfl) (congrArg Value.bool (by simp [*])) SelMC.sel SubRC.sub
theorem listok_of {F : Work} {l : List T3} (h1 : (l.length : Int) = (F.heaps.length : Int)) (h2 : ¬ ∃ k, k < l.length ∧ ¬ Days F.rain.length (l.getD k default)) : ListOk F l :=
  ⟨h1, fun k hk => Classical.not_not.1 fun x => h2 ⟨k, hk, x⟩⟩
theorem listok_n1 {F : Work} {l : List T3} (h1 : ¬ (l.length : Int) = (F.heaps.length : Int)) : ¬ ListOk F l := fun x => h1 x.1
theorem listok_n2 {F : Work} {l : List T3} (h2 : ∃ k, k < l.length ∧ ¬ Days F.rain.length (l.getD k default)) : ¬ ListOk F l := fun x => by
  obtain ⟨k, hk, h⟩ := h2
  exact h (x.2 k hk)
set_option maxHeartbeats 4000000 in
theorem BrokenP_r (F : Work) (ro ho : Option Addr) (rc hc : Nat) (hr : F.rain.length ≤ 40) (hh : F.heaps.length ≤ 40) (l : List T3) (lo : Option Addr) (lc : Nat) (hl : l.length ≤ 40) : FnR Try.prog 23 [valF F ro rc ho hc, .slice lo l.length lc] [rowD lo 3 encT l, rowD ro 2 encS F.rain, rowD ho 3 encH F.heaps] (fun v => ∃ x : Int × Int × Int × Int, v = .tuple #[i64 x.1, i64 x.2.1, i64 x.2.2.1, i64 x.2.2.2] ∧ BrokeP F l x) (fun _ => []) := by
  refine FnR.introD Try.call23 Try.func23 rfl Try.ntmps23 rfl ?_
  intro W M Rf
  refine r_seq ?_
  refine r_region ?_
  refine o_boxA rfl rfl rfl rfl rfl (fun b2 => ?_)
  refine o_q _ rfl rfl rfl (v_assign rfl rfl) ?_
  refine o_q _ rfl rfl rfl (v_assign rfl rfl) ?_
  refine o_q _ rfl rfl rfl (v_assign rfl rfl) ?_
  refine o_alloc rfl inf32 rfl rfl rfl rfl rfl (fun b7 => ?_)
  refine o_nil ?_
  with_reducible refine r_then ?_
  refine r_seq ?_
  refine r_region ?_
  refine o_defer rfl rfl rfl rfl ?_
  refine o_nil ?_
  with_reducible refine r_then ?_
  refine r_seq ?_
  refine Imp.sealB b2 ?_
  refine r_par' 13 mixed (by kernel_rfl) (by rfl) ?_
  refine p_q _ rfl rfl rfl (fun _ _ => v_lfW rfl Try.underlying26 rfl inf26 rfl rfl) ?_
  refine p_q _ rfl rfl rfl (fun _ _ => v_move rfl rfl) ?_
  refine p_q _ rfl rfl rfl (fun _ _ => v_len rfl rfl Try.underlying40 rfl) ?_
  refine p_q _ rfl rfl rfl (fun _ _ => v_fieldAddr rfl Try.underlying26 inf24 rfl rfl rfl rfl) ?_
  refine p_q _ rfl rfl rfl (fun _ _ => v_lf1 rfl Try.underlying24 rfl rfl rfl) ?_
  refine p_q _ rfl rfl rfl (fun _ _ => v_len rfl rfl Try.underlying24 rfl) ?_
  refine p_test rfl rfl rfl (fun _ _ => v_eql rfl rfl rfl) (fun h20 => ?_) (fun h20 => ?_)
  all_goals
    refine p_q _ rfl rfl rfl (fun _ _ => v_move rfl rfl) ?_
    first | refine p_gn rfl rfl rfl rfl ?_ | refine p_g _ rfl rfl rfl rfl (fun _ _ => v_move rfl rfl) ?_
    first | refine p_gn rfl rfl rfl rfl ?_ | refine p_g _ rfl rfl rfl rfl (fun _ _ => v_makeFunc rfl rfl rfl) ?_
    first | refine p_gn rfl rfl rfl rfl ?_ | refine p_gtest rfl rfl rfl rfl (fun _ _ => OpQ.fn (plans_c (fun p => ¬ Days F.rain.length p) l lo lc 67 [pt b2 0] [boxF b2 26 (cellsF F ro rc ho hc), rowD ro 2 encS F.rain, rowD ho 3 encH F.heaps] (by omega) (fun k _ => broken1_v F ro ho rc hc b2 _ _ _ hr hh)) rfl rfl SubRC.sub) (fun h24 => ?_) (fun h24 => ?_)
    all_goals
      first | refine p_gn rfl rfl rfl rfl ?_ | refine p_g _ rfl rfl rfl rfl (fun _ _ => v_not rfl rfl) ?_
      first | refine p_q _ rfl rfl rfl (fun _ _ => v_pick_t rfl rfl rfl) ?_ | refine p_q _ rfl rfl rfl (fun _ _ => v_pick_f rfl rfl rfl) ?_
      refine p_nil2 (by simp only [List.nil_append, List.cons_append]; rfl) rfl ?_
      refine f_q rfl ?_
      refine f_q rfl ?_
      refine f_q rfl ?_
      refine f_q rfl ?_
      refine f_q rfl ?_
      refine f_q rfl ?_
      refine f_q rfl ?_
      refine f_q rfl ?_
      refine f_q rfl ?_
      refine f_q rfl ?_
      refine f_q rfl ?_
      refine f_q rfl ?_
      refine f_q rfl ?_
      refine f_nil ?_
      by_cases hg : GoodF F
      all_goals
        first | refine o_fnp (open_ok F ro ho rc hc hr hh hg) rfl rfl rfl rfl rfl SubRC.sub (fun fb => ?_) | refine o_fnx (open_x F ro ho rc hc _ hr hh (by first | exact chk_false F | exact chk_ne hg)) rfl rfl rfl SubRC.sub ?_
        all_goals
          repeat (first | with_reducible refine r_then_panic ?_)
          try (first | exact d_panr answer_ans (Rd.four rfl (RdI.tmp rfl) (RdI.tmp rfl) (RdI.tmp rfl) (RdI.cell1 Try.underlying32 rfl rfl rfl)) ⟨(0, 0, 0, chk F true), rfl, BrokeP_of true (decide_eq_true (listok_of (by assumption) (by assumption))) (chk_ne hg)⟩ SelMC.sel SubRC.sub | exact d_panr answer_ans (Rd.four rfl (RdI.tmp rfl) (RdI.tmp rfl) (RdI.tmp rfl) (RdI.cell1 Try.underlying32 rfl rfl rfl)) ⟨(0, 0, 0, chk F false), rfl, BrokeP_of false (decide_eq_false (listok_n1 (by assumption))) (chk_false F)⟩ SelMC.sel SubRC.sub | exact d_panr answer_ans (Rd.four rfl (RdI.tmp rfl) (RdI.tmp rfl) (RdI.tmp rfl) (RdI.cell1 Try.underlying32 rfl rfl rfl)) ⟨(0, 0, 0, chk F false), rfl, BrokeP_of false (decide_eq_false (listok_n2 (by assumption))) (chk_false F)⟩ SelMC.sel SubRC.sub)
          all_goals
            refine o_q _ rfl rfl rfl (v_assign rfl rfl) ?_
            refine o_nil ?_
            with_reducible refine r_then ?_
            refine r_seq ?_
            have hb := hg.bnd
            have hl3 := hg.2.2.1
            have hlo : ListOk F l := listok_of (by assumption) (by assumption)
            refine r_region ?_
            refine o_alloc rfl inf107 rfl rfl rfl rfl rfl (fun b9 => ?_)
            refine o_nil ?_
            with_reducible refine r_then ?_
            refine r_seq ?_
            refine r_seq ?_
            refine r_region ?_
            refine o_q _ rfl rfl rfl (v_move rfl rfl) ?_
            refine o_q _ rfl rfl rfl (v_len rfl rfl Try.underlying40 rfl) ?_
            refine o_q _ rfl rfl rfl (v_move rfl rfl) ?_
            refine o_nil ?_
            with_reducible refine r_then ?_
            refine r_block ?_
            refine r_loop (ι := Nat) (fun k => k ≤ l.length ∧ ∀ h, h < k → ∀ i, i < 3 → ruleP F l h i = 0) (fun k => [(2, pt b2 0), (7, pt b7 0), (8, pt fb 0), (9, pt b9 0), (28, .slice lo l.length lc), (29, i64 l.length), (30, i64 k)]) (fun k => bx b9 107 ((busyTo l k).map iv) :: bx b7 32 [i64 0] :: M) (fun k => boxF fb 126 (cellsF F ro rc ho hc) :: boxF b2 26 (cellsF F ro rc ho hc) :: ([rowD lo 3 encT l, rowD ro 2 encS F.rain, rowD ho 3 encH F.heaps] ++ Rf)) (fun k => l.length - k) 0 ?_ ?_ ?_
            ·
              refine Imp.box_to b7 [i64 0] rfl ?_
              refine Imp.box_to b9 ((busyTo l 0).map iv) rfl ?_
              exact r_here (by repeat (first | exact FSub.nil | refine FSub.cons rfl ?_)) SelMC.sel SubRC.sub
            ·
              exact ⟨Nat.zero_le _, fun h hh => absurd hh (by omega)⟩
            ·
              rintro k hI0
              obtain ⟨a, b, c, hp⟩ : ∃ a b c, l.getD k default = ⟨a, b, c⟩ := ⟨_, _, _, rfl⟩
              refine r_seq ?_
              refine r_region ?_
              refine o_q _ rfl rfl rfl (v_lss rfl rfl rfl) ?_
              refine o_nil ?_
              with_reducible refine r_then ?_
              refine r_seq ?_
              refine r_condd rfl (fun hc31 => ?_) (fun hc31 => ?_)
              ·
                refine r_skip ?_
                with_reducible refine r_then ?_
                refine r_seq ?_
                refine r_block ?_
                refine r_seq ?_
                have hdl : Days F.rain.length ⟨a, b, c⟩ := hp ▸ hlo.2 k (by omega)
                refine r_region ?_
                refine o_q _ rfl rfl rfl (v_move rfl rfl) ?_
                refine o_q _ rfl rfl rfl (v_indexAddrSn rfl Try.underlying40 inf27 rfl rfl rfl (by omega) rfl) ?_
                refine o_q _ rfl rfl rfl (v_loadEN rfl Try.underlying27 rfl inf27 rfl (by omega) rfl rfl rfl) ?_
                simp only [hp]
                refine o_alloc rfl inf27 rfl rfl rfl rfl rfl (fun b11 => ?_)
                refine o_q _ rfl rfl rfl (v_assign rfl rfl) ?_
                refine o_st rfl inf27 rfl rfl rfl rfl rfl rfl rfl rfl ?_
                refine o_nil ?_
                with_reducible refine r_then ?_
                refine r_seq ?_
                refine r_seq ?_
                refine r_region ?_
                refine o_q _ rfl rfl rfl (v_ldW rfl Try.underlying27 rfl inf27 rfl rfl) ?_
                refine o_q _ rfl rfl rfl (v_move rfl rfl) ?_
                refine o_nil ?_
                with_reducible refine r_then ?_
                refine r_block ?_
                refine r_loop (ι := Nat) (fun j => j ≤ 3 ∧ ∀ i, i < j → ruleP F l k i = 0) (fun j => [(2, pt b2 0), (7, pt b7 0), (8, pt fb 0), (9, pt b9 0), (28, .slice lo l.length lc), (29, i64 l.length), (30, i64 k), (10, i64 k), (11, pt b11 0), (35, .agg #[i64 a, i64 b, i64 c]), (36, i64 j)]) (fun j => bx b11 27 [i64 a, i64 b, i64 c] :: bx b9 107 ((busyTo l k).map iv) :: bx b7 32 [i64 0] :: M) (fun j => boxF fb 126 (cellsF F ro rc ho hc) :: boxF b2 26 (cellsF F ro rc ho hc) :: ([rowD lo 3 encT l, rowD ro 2 encS F.rain, rowD ho 3 encH F.heaps] ++ Rf)) (fun j => 3 - j) 0 ?_ ?_ ?_
                ·
                  refine Imp.box_to b11 [i64 a, i64 b, i64 c] rfl ?_
                  exact r_here (by repeat (first | exact FSub.nil | refine FSub.cons rfl ?_)) SelMC.sel SubRC.sub
                ·
                  exact ⟨Nat.zero_le _, fun h hh => absurd hh (by omega)⟩
                ·
                  rintro j hI1
                  refine r_seq ?_
                  refine r_region ?_
                  refine o_q _ rfl rfl rfl (v_lss rfl rfl rfl) ?_
                  refine o_nil ?_
                  with_reducible refine r_then ?_
                  refine r_seq ?_
                  refine r_condd rfl (fun hc37 => ?_) (fun hc37 => ?_)
                  ·
                    refine r_skip ?_
                    with_reducible refine r_then ?_
                    refine r_seq ?_
                    refine r_block ?_
                    refine r_seq ?_
                    refine r_region ?_
                    refine o_q _ rfl rfl rfl (v_move rfl rfl) ?_
                    refine o_q _ rfl rfl rfl (v_indexV rfl Try.underlying27 inf3 Try.underlying3 rfl rfl rfl (by omega) (t3_atv (by omega))) ?_
                    refine o_q _ rfl rfl rfl (v_assign rfl rfl) ?_
                    refine o_q _ rfl rfl rfl (v_assign rfl rfl) ?_
                    refine o_nil ?_
                    with_reducible refine r_then ?_
                    refine r_block ?_
                    refine r_seq ?_
                    have hdj := (hdl j (by omega)).2
                    refine r_region ?_
                    refine o_q _ rfl rfl rfl (v_move rfl rfl) ?_
                    refine o_q _ rfl rfl rfl (v_lss rfl rfl rfl) ?_
                    refine o_q _ rfl rfl rfl (v_assign rfl rfl) ?_
                    refine o_nil ?_
                    with_reducible refine r_then ?_
                    refine r_condd rfl (fun hc40 => ?_) (fun hc40 => ?_)
                    ·
                      refine r_skip ?_
                      with_reducible refine r_in_normal ?_; refine r_in_normal ?_; refine r_then ?_
                      refine r_region ?_
                      refine o_q _ rfl rfl rfl (v_add rfl rfl rfl (by omega)) ?_
                      refine o_q _ rfl rfl rfl (v_move rfl rfl) ?_
                      refine o_nil ?_
                      with_reducible refine r_then ?_
                      refine r_next (j + 1) ?_ ?_ ?_
                      ·
                        exact r_here (by repeat (first | exact FSub.nil | refine FSub.cons rfl ?_)) SelMC.sel SubRC.sub
                      ·
                        exact ⟨by omega, all_step hI1.2 (by first | exact rule_n hp (by assumption) | exact rule_0 hp (by assumption) (by assumption) (by assumption) (by assumption))⟩
                      ·
                        omega
                    ·
                      refine r_seq ?_
                      refine r_region ?_
                      refine o_q _ rfl rfl rfl (v_ldW rfl Try.underlying27 rfl inf27 rfl rfl) ?_
                      refine o_q _ rfl rfl rfl (v_move rfl rfl) ?_
                      refine o_test rfl rfl rfl (OpQ.fn (ordered_v _ _ _ j (by omega)) rfl rfl SubRC.sub) (fun h46 => ?_) (fun h46 => ?_)
                      all_goals
                        refine o_q _ rfl rfl rfl (v_not rfl rfl) ?_
                        refine o_q _ rfl rfl rfl (v_assign rfl rfl) ?_
                        refine o_nil ?_
                        with_reducible refine r_then ?_
                        refine r_cond rfl (fun hc43 => ?_) (fun hc43 => ?_)
                        ·
                          first
                          | (exfalso; revert hc43; decide)
                          | skip
                            refine r_seq ?_
                            refine r_region ?_
                            refine o_q _ rfl rfl rfl (v_move rfl rfl) ?_
                            refine o_q _ rfl rfl rfl (v_move rfl rfl) ?_
                            refine o_q _ rfl rfl rfl (v_assign rfl rfl) ?_
                            refine o_q _ rfl rfl rfl (v_assign rfl rfl) ?_
                            refine o_q _ rfl rfl rfl (v_assign rfl rfl) ?_
                            refine o_st rfl inf32 rfl rfl rfl rfl rfl rfl rfl rfl ?_
                            refine o_nil ?_
                            with_reducible refine r_then ?_
                            refine r_ret ?_
                            with_reducible refine r_in_ret ?_; refine r_in_ret ?_; refine r_then_ret ?_; refine r_then_ret ?_; refine r_in_ret ?_; refine r_then_ret ?_; refine r_in_ret ?_; refine r_then_ret ?_; refine r_then_ret ?_; refine r_in_ret ?_; refine r_then_ret ?_
                            exact d_retr answer_ans (Rd.four rfl (RdI.tmp rfl) (RdI.tmp rfl) (RdI.tmp rfl) (RdI.cell1 Try.underlying32 rfl rfl rfl)) ⟨((k : Int), (j : Int), 1, 0), rfl, BrokeP_at hg hlo (rule_1 hp (by assumption) (by assumption)) (by decide) (by omega) (by omega) hI0.2 hI1.2⟩ SelMC.sel SubRC.sub
                        ·
                          first
                          | (exfalso; revert hc43; decide)
                          | skip
                            refine r_seq ?_
                            refine r_region ?_
                            refine o_q _ rfl rfl rfl (v_move rfl rfl) ?_
                            refine o_q _ rfl rfl rfl (v_move rfl rfl) ?_
                            refine o_q _ rfl rfl rfl (v_ldW rfl Try.underlying27 rfl inf27 rfl rfl) ?_
                            refine o_q _ rfl rfl rfl (v_move rfl rfl) ?_
                            refine o_q _ rfl rfl rfl (v_bS0 rfl Try.underlying90 inf90 plt90 rfl rfl) ?_
                            refine o_q _ rfl rfl rfl (v_makeIface rfl Try.underlying90 rfl rfl) ?_
                            refine o_test rfl rfl rfl (OpQ.fn (can_v wetT F ro ho rc hc fb _ _ _ _ j (by omega) (by omega) (by omega) hb hdj) rfl rfl SubRC.sub) (fun h57 => ?_) (fun h57 => ?_)
                            all_goals
                              refine o_q _ rfl rfl rfl (v_not rfl rfl) ?_
                              refine o_q _ rfl rfl rfl (v_assign rfl rfl) ?_
                              refine o_nil ?_
                              with_reducible refine r_then ?_
                              refine r_cond rfl (fun hc50 => ?_) (fun hc50 => ?_)
                              ·
                                first
                                | (exfalso; revert hc50; decide)
                                | skip
                                  refine r_seq ?_
                                  refine r_region ?_
                                  refine o_q _ rfl rfl rfl (v_move rfl rfl) ?_
                                  refine o_q _ rfl rfl rfl (v_move rfl rfl) ?_
                                  refine o_q _ rfl rfl rfl (v_assign rfl rfl) ?_
                                  refine o_q _ rfl rfl rfl (v_assign rfl rfl) ?_
                                  refine o_q _ rfl rfl rfl (v_assign rfl rfl) ?_
                                  refine o_st rfl inf32 rfl rfl rfl rfl rfl rfl rfl rfl ?_
                                  refine o_nil ?_
                                  with_reducible refine r_then ?_
                                  refine r_ret ?_
                                  with_reducible refine r_in_ret ?_; refine r_in_ret ?_; refine r_then_ret ?_; refine r_then_ret ?_; refine r_in_ret ?_; refine r_then_ret ?_; refine r_in_ret ?_; refine r_then_ret ?_; refine r_then_ret ?_; refine r_in_ret ?_; refine r_then_ret ?_
                                  exact d_retr answer_ans (Rd.four rfl (RdI.tmp rfl) (RdI.tmp rfl) (RdI.tmp rfl) (RdI.cell1 Try.underlying32 rfl rfl rfl)) ⟨((k : Int), (j : Int), 2, 0), rfl, BrokeP_at hg hlo (rule_2 hp (by assumption) (by assumption) (by assumption)) (by decide) (by omega) (by omega) hI0.2 hI1.2⟩ SelMC.sel SubRC.sub
                              ·
                                first
                                | (exfalso; revert hc50; decide)
                                | skip
                                  refine r_seq ?_
                                  refine r_region_q mixed (by kernel_rfl) ?_
                                  refine q_q _ rfl rfl rfl (v_move rfl rfl) ?_
                                  refine q_q _ rfl rfl rfl (v_indexAddrA rfl Try.underlying107 inf3 rfl rfl (by have := hb.len; omega)) ?_
                                  refine q_q _ rfl rfl rfl (v_ld1 rfl Try.underlying3 rfl rfl (map_at (by rw [busyTo_len]; have := hb.len; omega))) ?_
                                  refine q_q _ rfl rfl rfl (v_fieldAddr rfl Try.underlying26 inf3 rfl rfl rfl rfl) ?_
                                  refine q_q _ rfl rfl rfl (v_lf1 rfl Try.underlying3 rfl rfl rfl) ?_
                                  refine q_q _ rfl rfl rfl (v_geq rfl rfl rfl) ?_
                                  refine q_q _ rfl rfl rfl (v_assign rfl rfl) ?_
                                  refine q_nil ?_
                                  with_reducible refine r_then ?_
                                  refine r_condd rfl (fun hc61 => ?_) (fun hc61 => ?_)
                                  ·
                                    refine r_seq ?_
                                    refine r_region ?_
                                    refine o_q _ rfl rfl rfl (v_move rfl rfl) ?_
                                    refine o_q _ rfl rfl rfl (v_move rfl rfl) ?_
                                    refine o_q _ rfl rfl rfl (v_assign rfl rfl) ?_
                                    refine o_q _ rfl rfl rfl (v_assign rfl rfl) ?_
                                    refine o_q _ rfl rfl rfl (v_assign rfl rfl) ?_
                                    refine o_st rfl inf32 rfl rfl rfl rfl rfl rfl rfl rfl ?_
                                    refine o_nil ?_
                                    with_reducible refine r_then ?_
                                    refine r_ret ?_
                                    with_reducible refine r_in_ret ?_; refine r_in_ret ?_; refine r_then_ret ?_; refine r_then_ret ?_; refine r_in_ret ?_; refine r_then_ret ?_; refine r_in_ret ?_; refine r_then_ret ?_; refine r_then_ret ?_; refine r_in_ret ?_; refine r_then_ret ?_
                                    exact d_retr answer_ans (Rd.four rfl (RdI.tmp rfl) (RdI.tmp rfl) (RdI.tmp rfl) (RdI.cell1 Try.underlying32 rfl rfl rfl)) ⟨((k : Int), (j : Int), 3, 0), rfl, BrokeP_at hg hlo (rule_3 hp (by assumption) (by assumption) (by assumption) (by assumption)) (by decide) (by omega) (by omega) hI0.2 hI1.2⟩ SelMC.sel SubRC.sub
                                  ·
                                    refine r_skip ?_
                                    with_reducible refine r_in_normal ?_; refine r_in_normal ?_; refine r_then ?_
                                    refine r_region ?_
                                    refine o_q _ rfl rfl rfl (v_add rfl rfl rfl (by omega)) ?_
                                    refine o_q _ rfl rfl rfl (v_move rfl rfl) ?_
                                    refine o_nil ?_
                                    with_reducible refine r_then ?_
                                    refine r_next (j + 1) ?_ ?_ ?_
                                    ·
                                      exact r_here (by repeat (first | exact FSub.nil | refine FSub.cons rfl ?_)) SelMC.sel SubRC.sub
                                    ·
                                      exact ⟨by omega, all_step hI1.2 (by first | exact rule_n hp (by assumption) | exact rule_0 hp (by assumption) (by assumption) (by assumption) (by assumption))⟩
                                    ·
                                      omega
                  ·
                    refine r_exit ?_
                    with_reducible refine r_then_exit ?_; refine r_then_exit ?_; refine r_in_here ?_; refine r_then ?_
                    have hsm : Small (busyTo l k) 1000 := fun i => by have := busyTo_small l k i; omega
                    have hd7 : ∀ i, i < 3 → (⟨a, b, c⟩ : T3).at i ≤ 7 := fun i hi => by have := (hdl i hi).2; have := hb.len; omega
                    refine r_region ?_
                    refine o_q _ rfl rfl rfl (v_ldW rfl Try.underlying107 rfl inf107 rfl (by rw [List.length_map, busyTo_len]; rfl)) ?_
                    refine o_q _ rfl rfl rfl (v_ldW rfl Try.underlying27 rfl inf27 rfl rfl) ?_
                    refine o_q _ rfl rfl rfl (OpQ.fn (with_v _ _ _ _ (busyTo_len l k) hsm hd7) rfl rfl SubRC.sub) ?_
                    refine o_st (us := ((busyTo l (k + 1)).map iv)) rfl inf107 rfl rfl rfl rfl (by show List.map iv (with_ (busyTo l k) ⟨a, b, c⟩) = List.map iv (with_ (busyTo l k) (l.getD k default)); rw [hp]) (by rw [List.length_map, busyTo_len]; rfl) (oneCells_map _) (by rw [List.length_map, List.length_map, busyTo_len, busyTo_len]; rfl) ?_
                    refine o_nil ?_
                    with_reducible refine r_in_normal ?_; refine r_then ?_
                    refine r_region ?_
                    refine o_q _ rfl rfl rfl (v_add rfl rfl rfl (by omega)) ?_
                    refine o_q _ rfl rfl rfl (v_move rfl rfl) ?_
                    refine o_nil ?_
                    with_reducible refine r_then ?_
                    refine r_next (k + 1) ?_ ?_ ?_
                    ·
                      refine Imp.box_to b9 ((busyTo l (k + 1)).map iv) (splice_all (by rw [List.length_map, List.length_map, busyTo_len, busyTo_len])) ?_
                      exact r_here (by repeat (first | exact FSub.nil | refine FSub.cons rfl ?_)) SelMC.sel SubRC.sub
                    ·
                      exact ⟨by omega, all_step hI0.2 (fun i hi => hI1.2 i (by omega))⟩
                    ·
                      omega
              ·
                refine r_exit ?_
                with_reducible refine r_then_exit ?_; refine r_then_exit ?_; refine r_in_here ?_; refine r_then ?_
                refine r_seq ?_
                refine r_region ?_
                refine o_q _ rfl rfl rfl (v_assign rfl rfl) ?_
                refine o_q _ rfl rfl rfl (v_assign rfl rfl) ?_
                refine o_q _ rfl rfl rfl (v_assign rfl rfl) ?_
                refine o_st rfl inf32 rfl rfl rfl rfl rfl rfl rfl rfl ?_
                refine o_nil ?_
                with_reducible refine r_then ?_
                refine r_ret ?_
                exact d_retr answer_ans (Rd.four rfl (RdI.tmp rfl) (RdI.tmp rfl) (RdI.tmp rfl) (RdI.cell1 Try.underlying32 rfl rfl rfl)) ⟨(0, 0, 0, 4), rfl, BrokeP_none hg hlo (fun h hh => hI0.2 h (by omega))⟩ SelMC.sel SubRC.sub
end Go.Proofs.Ytienjlmnakbfmaa


namespace Foot4
open Go Go.G
structure Way where
  sods : Int
  plan : T3
  deriving DecidableEq, Inhabited
def encW (w : Way) : List Value := [i64 w.sods, i64 w.plan.a, i64 w.plan.b, i64 w.plan.c]
def more (x y : Way) : Bool := decide (y.sods < x.sods)
theorem more_no {p q : Way} (h : ¬ q.sods < p.sods) : ¬ more p q = true := fun x => h (of_decide_eq_true x)
def wayL (l : List Way) : Way := best1 more default l l.length
def sumTo (xs : List Int) : Nat → Int
  | 0 => 0
  | k + 1 => sumTo xs k + xs.getD k 0
theorem sumTo_bd {xs : List Int} (h : ∀ k, -10000 ≤ xs.getD k 0 ∧ xs.getD k 0 ≤ 10000) : ∀ k : Nat, -10000 * (k : Int) ≤ sumTo xs k ∧ sumTo xs k ≤ 10000 * k
  | 0 => by simp [sumTo]
  | k + 1 => by
    have := sumTo_bd h k
    have := h k
    simp only [sumTo]
    omega
theorem left_at {B : List Int} {hp : Int} {m : Nat} (h : m < B.length) : (i64 hp :: B.map iv)[0 + 1 + m * 1]? = some (i64 (B.getD m 0)) := by
  rw [show 0 + 1 + m * 1 = m + 1 from by omega, List.getElem?_cons_succ, List.getElem?_map, List.getD_eq_getElem?_getD, List.getElem?_eq_getElem h]
  rfl
end Foot4


namespace Go.Proofs.Ytienjlmnakbfmaa
open Go.G Foot4
set_option maxRecDepth 1000000
attribute [local irreducible] G.ParO G.Fin
set_option maxHeartbeats 4000000 in
theorem total_v (xs : List Int) (oa : Option Addr) (c : Nat) (hl : xs.length ≤ 100) (hb : ∀ k, -10000 ≤ xs.getD k 0 ∧ xs.getD k 0 ≤ 10000) : FnV Try.prog 98 [.slice oa xs.length c] [rowD oa 1 (fun x : Int => [i64 x]) xs] (i64 (sumTo xs xs.length)) := by
  refine FnV.intro Try.call98 Try.func98 rfl Try.ntmps98 rfl ?_
  intro W M Rf
  refine r_seq ?_
  refine r_region ?_
  refine o_q _ rfl rfl rfl (v_assign rfl rfl) ?_
  refine o_nil ?_
  with_reducible refine r_then ?_
  refine r_seq ?_
  refine r_seq ?_
  refine r_region ?_
  refine o_q _ rfl rfl rfl (v_move rfl rfl) ?_
  refine o_q _ rfl rfl rfl (v_len rfl rfl Try.underlying52 rfl) ?_
  refine o_q _ rfl rfl rfl (v_move rfl rfl) ?_
  refine o_nil ?_
  with_reducible refine r_then ?_
  refine r_block ?_
  refine r_loop (ι := Nat) (fun k => k ≤ xs.length) (fun k => [(2, i64 (sumTo xs k)), (5, .slice oa xs.length c), (6, i64 xs.length), (7, i64 k)]) (fun k => M) (fun k => [rowD oa 1 (fun x : Int => [i64 x]) xs] ++ Rf) (fun k => xs.length - k) 0 ?_ ?_ ?_
  ·
    exact r_here (by repeat (first | exact FSub.nil | refine FSub.cons rfl ?_)) SelMC.sel SubRC.sub
  ·
    omega
  ·
    rintro k hI0
    have hbk := sumTo_bd hb k
    have hbe := hb k
    refine r_seq ?_
    refine r_region ?_
    refine o_q _ rfl rfl rfl (v_lss rfl rfl rfl) ?_
    refine o_nil ?_
    with_reducible refine r_then ?_
    refine r_seq ?_
    refine r_condd rfl (fun hc8 => ?_) (fun hc8 => ?_)
    ·
      refine r_skip ?_
      with_reducible refine r_then ?_
      refine r_seq ?_
      refine r_block ?_
      refine r_seq ?_
      refine r_region ?_
      refine o_q _ rfl rfl rfl (v_indexAddrSn rfl Try.underlying52 inf3 rfl rfl rfl (by omega) rfl) ?_
      refine o_q _ rfl rfl rfl (v_loadE1 rfl Try.underlying3 rfl rfl (by omega) rfl rfl) ?_
      refine o_q _ rfl rfl rfl (v_assign rfl rfl) ?_
      refine o_nil ?_
      with_reducible refine r_then ?_
      refine r_region ?_
      refine o_q _ rfl rfl rfl (v_move rfl rfl) ?_
      refine o_q _ rfl rfl rfl (v_move rfl rfl) ?_
      refine o_q _ rfl rfl rfl (v_add rfl rfl rfl (by have e : (xs.getD k default) = xs.getD k 0 := rfl; omega)) ?_
      refine o_q _ rfl rfl rfl (v_assign rfl rfl) ?_
      refine o_nil ?_
      with_reducible refine r_in_normal ?_; refine r_then ?_
      refine r_region ?_
      refine o_q _ rfl rfl rfl (v_add rfl rfl rfl (by omega)) ?_
      refine o_q _ rfl rfl rfl (v_move rfl rfl) ?_
      refine o_nil ?_
      with_reducible refine r_then ?_
      refine r_next (k + 1) ?_ ?_ ?_
      ·
        exact r_here (by repeat (first | exact FSub.nil | refine FSub.cons rfl ?_ | refine FSub.cons2 rfl (congrArg (Value.int .i64) (by first | omega | rfl)) ?_)) SelMC.sel SubRC.sub
      ·
        omega
      ·
        omega
    ·
      refine r_exit ?_
      with_reducible refine r_then_exit ?_; refine r_then_exit ?_; refine r_in_here ?_; refine r_then ?_
      refine r_seq ?_
      refine r_region ?_
      refine o_q _ rfl rfl rfl (v_move rfl rfl) ?_
      refine o_q _ rfl rfl rfl (v_assign rfl rfl) ?_
      refine o_nil ?_
      with_reducible refine r_then ?_
      refine r_ret ?_
      have hk : k = xs.length := by omega
      subst hk
      exact r_retv2 (Rd.tmp rfl rfl) rfl SelMC.sel SubRC.sub
set_option maxHeartbeats 4000000 in
theorem busyAt_v (B : List Int) (hp men d : Int) (lb mb : Nat) (hB : B.length = 8) (hd : 0 ≤ d ∧ d ≤ 7) : FnV Try.prog 97 [i64 d, pt lb 0, pt mb 0] [boxF lb 115 (i64 hp :: B.map iv), boxF mb 3 [i64 men]] (.bool (decide (men ≤ B.getD d.toNat 0))) := by
  refine FnV.intro Try.call97 Try.func97 rfl Try.ntmps97 rfl ?_
  intro W M Rf
  refine r_seq ?_
  refine r_region ?_
  refine o_q _ rfl rfl rfl (v_assign rfl rfl) ?_
  refine o_nil ?_
  with_reducible refine r_then ?_
  refine r_seq ?_
  refine r_region_q mixed (by kernel_rfl) ?_
  refine q_q _ rfl rfl rfl (v_move rfl rfl) ?_
  refine q_q _ rfl rfl rfl (v_fieldAddr rfl Try.underlying115 inf107 rfl rfl rfl rfl) ?_
  refine q_q _ rfl rfl rfl (v_indexAddrA rfl Try.underlying107 inf3 rfl rfl (by omega)) ?_
  refine q_q _ rfl rfl rfl (v_lf1 rfl Try.underlying3 rfl rfl (left_at (by omega))) ?_
  refine q_q _ rfl rfl rfl (v_lf1 rfl Try.underlying3 rfl rfl rfl) ?_
  refine q_q _ rfl rfl rfl (v_geq rfl rfl rfl) ?_
  refine q_q _ rfl rfl rfl (v_assign rfl rfl) ?_
  refine q_nil ?_
  with_reducible refine r_then ?_
  refine r_ret ?_
  exact r_retv2 (Rd.tmp rfl rfl) rfl SelMC.sel SubRC.sub
set_option maxHeartbeats 4000000 in
theorem more_v (a b c d e f p q : Int) : FnV Try.prog 100 [.agg #[i64 a, i64 b, i64 c, i64 d], .agg #[i64 e, i64 f, i64 p, i64 q]] [] (.bool (decide (e < a))) := by
  refine FnV.intro Try.call100 Try.func100 rfl Try.ntmps100 rfl ?_
  intro W M Rf
  refine r_seq ?_
  refine r_region ?_
  refine o_boxA rfl rfl rfl rfl rfl (fun b2 => ?_)
  refine o_boxA rfl rfl rfl rfl rfl (fun b3 => ?_)
  refine o_q _ rfl rfl rfl (v_assign rfl rfl) ?_
  refine o_nil ?_
  with_reducible refine r_then ?_
  refine r_seq ?_
  refine r_region ?_
  refine o_q _ rfl rfl rfl (v_fieldAddr rfl Try.underlying117 inf3 rfl rfl rfl rfl) ?_
  refine o_q _ rfl rfl rfl (v_ld1 rfl Try.underlying3 rfl rfl rfl) ?_
  refine o_q _ rfl rfl rfl (v_fieldAddr rfl Try.underlying117 inf3 rfl rfl rfl rfl) ?_
  refine o_q _ rfl rfl rfl (v_ld1 rfl Try.underlying3 rfl rfl rfl) ?_
  refine o_q _ rfl rfl rfl (v_gtr rfl rfl rfl) ?_
  refine o_q _ rfl rfl rfl (v_assign rfl rfl) ?_
  refine o_nil ?_
  with_reducible refine r_then ?_
  refine r_ret ?_
  exact r_retv2 (Rd.tmp rfl rfl) rfl SelMC.sel SubRC.sub
set_option maxHeartbeats 4000000 in
theorem chosenW_v (xs : List Foot4.Way) (oa : Option Addr) (c : Nat) (hl : xs.length ≤ 1001) : FnV Try.prog 99 [.slice oa xs.length c, .agg #[.func (.func 100) #[] #[]]] [rowD oa 4 encW xs] (.tuple #[.agg #[i64 (wayL xs).sods, i64 (wayL xs).plan.a, i64 (wayL xs).plan.b, i64 (wayL xs).plan.c], .bool (decide (0 < (xs.length : Int)))]) := by
  refine FnV.intro Try.call99 Try.func99 rfl Try.ntmps99 rfl ?_
  intro W M Rf
  refine r_seq ?_
  refine r_region ?_
  refine o_boxA rfl rfl rfl rfl rfl (fun b3 => ?_)
  refine o_alloc rfl inf117 rfl rfl rfl rfl rfl (fun b4 => ?_)
  refine o_q _ rfl rfl rfl (v_assign rfl rfl) ?_
  refine o_nil ?_
  with_reducible refine r_then ?_
  refine r_seq ?_
  refine r_seq ?_
  refine r_region ?_
  refine o_q _ rfl rfl rfl (v_move rfl rfl) ?_
  refine o_q _ rfl rfl rfl (v_len rfl rfl Try.underlying143 rfl) ?_
  refine o_q _ rfl rfl rfl (v_move rfl rfl) ?_
  refine o_nil ?_
  with_reducible refine r_then ?_
  refine r_block ?_
  refine r_loop (ι := Nat) (fun k => k ≤ xs.length) (fun k => [(0, .slice oa xs.length c), (3, pt b3 0), (4, pt b4 0), (8, .slice oa xs.length c), (9, i64 xs.length), (10, i64 k)]) (fun k => bx b4 117 (encW (best1 more default xs k)) :: bx b3 148 [.func (.func 100) #[] #[]] :: M) (fun k => [rowD oa 4 encW xs] ++ Rf) (fun k => xs.length - k) 0 ?_ ?_ ?_
  ·
    refine Imp.box_to b4 (encW (best1 more default xs 0)) rfl ?_
    exact r_here (by repeat (first | exact FSub.nil | refine FSub.cons rfl ?_)) SelMC.sel SubRC.sub
  ·
    omega
  ·
    rintro k hI0
    refine r_seq ?_
    refine r_region ?_
    refine o_q _ rfl rfl rfl (v_lss rfl rfl rfl) ?_
    refine o_nil ?_
    with_reducible refine r_then ?_
    refine r_seq ?_
    refine r_condd rfl (fun hc11 => ?_) (fun hc11 => ?_)
    ·
      refine r_skip ?_
      with_reducible refine r_then ?_
      refine r_seq ?_
      refine r_block ?_
      refine r_seq ?_
      refine r_region ?_
      refine o_q _ rfl rfl rfl (v_move rfl rfl) ?_
      refine o_q _ rfl rfl rfl (v_indexAddrSn rfl Try.underlying143 inf117 rfl rfl rfl (by omega) rfl) ?_
      refine o_q _ rfl rfl rfl (v_loadEN rfl Try.underlying117 rfl inf117 rfl (by omega) rfl rfl rfl) ?_
      refine o_alloc rfl inf117 rfl rfl rfl rfl rfl (fun b7 => ?_)
      refine o_q _ rfl rfl rfl (v_assign rfl rfl) ?_
      refine o_st rfl inf117 rfl rfl rfl rfl rfl rfl rfl rfl ?_
      refine o_nil ?_
      with_reducible refine r_then ?_
      refine r_seq ?_
      refine r_region ?_
      refine o_q _ rfl rfl rfl (v_move rfl rfl) ?_
      refine o_test rfl rfl rfl (v_eql rfl rfl rfl) (fun h16 => ?_) (fun h16 => ?_)
      all_goals
        refine o_q _ rfl rfl rfl (v_move rfl rfl) ?_
        first | refine o_gn rfl rfl rfl rfl ?_ | refine o_g _ rfl rfl rfl rfl (v_fieldAddr rfl Try.underlying148 inf146 rfl rfl rfl rfl) ?_
        first | refine o_gn rfl rfl rfl rfl ?_ | refine o_g _ rfl rfl rfl rfl (v_ld1 rfl Try.underlying146 rfl rfl rfl) ?_
        first | refine o_gn rfl rfl rfl rfl ?_ | refine o_g _ rfl rfl rfl rfl (v_ldW rfl Try.underlying117 rfl inf117 rfl rfl) ?_
        first | refine o_gn rfl rfl rfl rfl ?_ | refine o_g _ rfl rfl rfl rfl (v_ldW rfl Try.underlying117 rfl inf117 rfl rfl) ?_
        first | refine o_gn rfl rfl rfl rfl ?_ | refine o_gtest rfl rfl rfl rfl (OpQ.call (more_v _ _ _ _ _ _ _ _) rfl [] [] rfl rfl rfl SubRC.sub) (fun h22 => ?_) (fun h22 => ?_)
        all_goals
          first | refine o_q _ rfl rfl rfl (v_pick_t rfl rfl rfl) ?_ | refine o_q _ rfl rfl rfl (v_pick_f rfl rfl rfl) ?_
          refine o_nil ?_
          with_reducible refine r_then ?_
          refine r_cond rfl (fun hc23 => ?_) (fun hc23 => ?_)
          ·
            first
            | (exfalso; revert hc23; decide)
            | skip
              refine r_region ?_
              refine o_q _ rfl rfl rfl (v_ldW rfl Try.underlying117 rfl inf117 rfl rfl) ?_
              refine o_st rfl inf117 rfl rfl rfl rfl rfl rfl rfl rfl ?_
              refine o_nil ?_
              with_reducible refine r_in_normal ?_; refine r_then ?_
              refine r_region ?_
              refine o_q _ rfl rfl rfl (v_add rfl rfl rfl (by omega)) ?_
              refine o_q _ rfl rfl rfl (v_move rfl rfl) ?_
              refine o_nil ?_
              with_reducible refine r_then ?_
              refine r_next (k + 1) ?_ ?_ ?_
              ·
                (refine Imp.box_to b4 (encW (best1 more default xs (k + 1))) (by rw [best1_yes (by first | (left; omega) | (right; exact decide_eq_true (by assumption)))]; rfl) ?_; exact r_here (by repeat (first | exact FSub.nil | refine FSub.cons rfl ?_)) SelMC.sel SubRC.sub)
              ·
                omega
              ·
                omega
          ·
            first
            | (exfalso; revert hc23; decide)
            | skip
              refine r_skip ?_
              with_reducible refine r_in_normal ?_; refine r_then ?_
              refine r_region ?_
              refine o_q _ rfl rfl rfl (v_add rfl rfl rfl (by omega)) ?_
              refine o_q _ rfl rfl rfl (v_move rfl rfl) ?_
              refine o_nil ?_
              with_reducible refine r_then ?_
              refine r_next (k + 1) ?_ ?_ ?_
              ·
                (refine Imp.box_to b4 (encW (best1 more default xs (k + 1))) (by rw [best1_no (by omega) (more_no (by assumption))]) ?_; exact r_here (by repeat (first | exact FSub.nil | refine FSub.cons rfl ?_)) SelMC.sel SubRC.sub)
              ·
                omega
              ·
                omega
    ·
      refine r_exit ?_
      with_reducible refine r_then_exit ?_; refine r_then_exit ?_; refine r_in_here ?_; refine r_then ?_
      refine r_seq ?_
      refine r_region ?_
      refine o_q _ rfl rfl rfl (v_ldW rfl Try.underlying117 rfl inf117 rfl rfl) ?_
      refine o_q _ rfl rfl rfl (v_move rfl rfl) ?_
      refine o_q _ rfl rfl rfl (v_len rfl rfl Try.underlying143 rfl) ?_
      refine o_q _ rfl rfl rfl (v_gtr rfl rfl rfl) ?_
      refine o_st rfl inf117 rfl rfl rfl rfl rfl rfl rfl rfl ?_
      refine o_q _ rfl rfl rfl (v_assign rfl rfl) ?_
      refine o_nil ?_
      with_reducible refine r_then ?_
      refine r_ret ?_
      have hk : k = xs.length := by omega
      subst hk
      exact r_retv2 (Rd.two rfl (RdI.cellW Try.underlying117 rfl inf117 rfl rfl) (RdI.tmp rfl)) rfl SelMC.sel SubRC.sub
end Go.Proofs.Ytienjlmnakbfmaa


namespace Go.G
variable {P : Program} {W : World} {n : Nat} {D : List Deferred} {L : Tm} {M : List Res} {R : List Fact} {Q : Exit → Act → World → Prop} {o : Oper}

/-- It hands back a value of which something holds, and keeps a resource. -/
structure FnM (P : Program) (k : FuncId) (args : List Value) (m : Res) (R0 : List Fact) (val : Value → Prop) : Prop where
  enter : ∀ (ag : Array Value) (w : World), (callFunc k ag).run P w = .ok (.enter k ag) w
  calls : ∀ W M Rf w, St W (m :: M) (R0 ++ Rf) w → Calls P k args.toArray w fun e w' => ∃ v, e = .returned v ∧ val v ∧ St W (m :: M) (R0 ++ Rf) w'
theorem FnM.use {k : FuncId} {args : List Value} {m : Res} {R0 : List Fact} {val : Value → Prop} {M' : List Res} (h : FnM P k args m R0 val) (hs : SubR R R0) (hd : Del M m M') {w : World} (hw : St W M R w) :
    Calls P k args.toArray w fun e w' => ∃ v, e = .returned v ∧ val v ∧ St W M R w' :=
  (h.calls W M' R w ((hw.perm hd.perm).both hs)).mono fun _ _ ⟨v, he, hv, hs'⟩ => ⟨v, he, hv, (hs'.weak (fun _ hφ => List.mem_append_right _ hφ)).perm hd.perm.symm⟩
def RetM (W : World) (m : Res) (M : List Res) (R : List Fact) (val : Value → Prop) (e : Ending) (w' : World) : Prop := ∃ v, e = .returned v ∧ val v ∧ St W (m :: M) R w'
theorem FnM.intro {k : FuncId} {args : List Value} {m : Res} {R0 : List Fact} {val : Value → Prop} {fn : Func} {c : Code} (he : ∀ (ag : Array Value) (w : World), (callFunc k ag).run P w = .ok (.enter k ag) w)
    (hf : P.funcs[k]? = some fn) (hb : fn.body = some c) (hn : fn.ntmps = n) (ha : Nat.ble args.length n = true)
    (h : ∀ W M Rf, Imp W n [] (argsL args 0) (m :: M) (R0 ++ Rf) (c.wp P (bodyPost P fn (RetM W m M (R0 ++ Rf) val)))) : FnM P k args m R0 val := by
  refine ⟨he, fun W M Rf w hw => calls_of_wp hf hb ?_⟩
  rw [hn]
  exact h W M Rf _ w (FSat.entry (Nat.le_of_ble_eq_true ha)) rfl hw
theorem r_retm {fn : Func} {m : Res} {M0 : List Res} {R0 : List Fact} {val : Value → Prop} {v : Value} (hr : Rd P W n L M R fn v) (hv : val v) (hM : SelM M (m :: M0)) (hR : SubR R R0) : Imp W n [] L M R (bodyPost P fn (RetM W m M0 R0 val) .ret) :=
  fun a w h1 h2 h3 => ⟨h2, v, hr a w h1 h3, v, rfl, hv, (h3.sel hM).weak hR⟩
/-! ### what a map remembers -/
def memo (P : Program) (k : TypeId) (ok : Value → Value → Prop) (b : Nat) : Res := fun s => ∃ es clock, s = [(b, .map es clock)] ∧ ∀ e ∈ es.toList, (∃ l, keyOf P k e.key = some l) ∧ ok e.key e.val
theorem o_makeMap {ops : Array Oper} {rest : List Oper} {T k : TypeId} {d : Nat} (ok : Value → Value → Prop) (ho : o.op = .makeMap T none) (hg : o.guard = none) (hdst : o.dst = some d) (hd : Nat.blt d n = true)
    (h : ∀ b, Imp W n D ((d, .map (some b)) :: L) (memo P k ok b :: M) R (wpList P ops Q rest)) : Imp W n D L M R (wpList P ops Q (o :: rest)) := by
  intro a w h1 h2 h3
  refine wpList_plain hg fun K hK => ?_
  unfold Oper.wp
  have hrun : (execOp a.eval o).run P w = .ok (.value (.map (some w.heap.size))) (w.alloc (.map #[] 0)) := by
    unfold execOp
    simp only [ho]
    rfl
  rw [hrun, Oper.upon_value, hdst]
  refine hK _ _ (h w.heap.size _ _ (h1.put (by simpa using hd) _) (by rw [put_defers]; exact h2) ?_)
  have h4 := h3.push (.map #[] 0)
  obtain ⟨s, ⟨s1, s2, rfl, hs1, hM⟩, hO, hR⟩ := h4.mem
  exact ⟨h4.os, h4.tape, h4.output, s1 ++ s2, ⟨s1, s2, rfl, ⟨#[], 0, hs1, by simp⟩, hM⟩, hO, hR⟩
theorem memo_at {k : TypeId} {ok : Value → Value → Prop} {b : Nat} {M' : List Res} {w : World} (h : St W M R w) (hd : Del M (memo P k ok b) M') : ∃ es clock, w.heap[b]? = some (.map es clock) ∧ ∀ e ∈ es.toList, (∃ l, keyOf P k e.key = some l) ∧ ok e.key e.val := by
  obtain ⟨A, B, rfl, _⟩ := hd
  obtain ⟨s, ⟨es, clock, hs, hall⟩, hO⟩ := h.res (Upd.of_mem (List.mem_append_right A (List.mem_cons_self ..)))
  subst hs
  exact ⟨es, clock, hO.at_ (b, .map es clock) (by simp), hall⟩
theorem o_lookup {ops : Array Oper} {rest : List Oper} {T k e : TypeId} {x y : Operand} {b d : Nat} {kv z : Value} {l : Lit} {i : TypeInfo} {ok : Value → Value → Prop} {M' : List Res} [hM : DelC M (memo P k ok b) M'] (hl : WideMaps.KeyLaw P k) (hk : keyOf P k kv = some l)
    (ho : o.op = .lookup T x y true) (hT : P.underlying T = some (.map k e)) (hi : P.info? e = some i) (hz : i.zero = some z) (hg : o.guard = none) (hdst : o.dst = some d) (hd : Nat.blt d n = true)
    (hx : ev L x = some (.map (some b))) (hy : ev L y = some kv)
    (hyes : ∀ v, ok kv v → Imp W n D ((d, .tuple #[v, .bool true]) :: L) M R (wpList P ops Q rest)) (hno : Imp W n D ((d, .tuple #[z, .bool false]) :: L) M R (wpList P ops Q rest)) : Imp W n D L M R (wpList P ops Q (o :: rest)) := by
  intro a w h1 h2 h3
  refine wpList_plain hg fun K hK => ?_
  unfold Oper.wp
  obtain ⟨es, clock, hb, hall⟩ := memo_at h3 hM.del
  have hz' : (zeroValue e).run P w = .ok z w := run_zeroValue' hi hz
  have key : ∀ ρ : Operand → Value, ρ x = .map (some b) → ρ y = kv → (∃ v, ok kv v ∧ (execOp ρ o).run P w = .ok (.value (.tuple #[v, .bool true])) w) ∨ (execOp ρ o).run P w = .ok (.value (.tuple #[z, .bool false])) w := by
    intro ρ e1 e2
    rcases hl.find w hk es.toList (fun e he => (hall e he).1) with ⟨hf, _⟩ | ⟨j, e', hf, hj, he'⟩
    · right
      unfold execOp
      simp [ho, e1, e2, Instr.lookup, run_underlying hT, getObj, Sem.run, hb, hl.check w _ hk, hf, hz', Sem.run_bind, Sem.run_pure, Result.andThen]
    · left
      have hm := hall e' (List.mem_of_getElem? hj)
      rw [he'] at hm
      refine ⟨e'.val, hm.2, ?_⟩
      unfold execOp
      simp [ho, e1, e2, Instr.lookup, run_underlying hT, getObj, Sem.run, hb, hl.check w _ hk, hf, Sem.run_bind, Sem.run_pure, Result.andThen]
  rcases key _ (h1.ev hx) (h1.ev hy) with ⟨v, hv, hr⟩ | hr
  · rw [hr, Oper.upon_value, hdst]
    exact hK _ _ (hyes v hv _ w (h1.put (by simpa using hd) _) (by rw [put_defers]; exact h2) h3)
  · rw [hr, Oper.upon_value, hdst]
    exact hK _ _ (hno _ w (h1.put (by simpa using hd) _) (by rw [put_defers]; exact h2) h3)
theorem o_mapUpdate {ops : Array Oper} {rest : List Oper} {T k e : TypeId} {x y v : Operand} {b : Nat} {kv u : Value} {l : Lit} {ok : Value → Value → Prop} {M' : List Res} [hM : DelC M (memo P k ok b) M'] (hl : WideMaps.KeyLaw P k) (hk : keyOf P k kv = some l)
    (ho : o.op = .mapUpdate T x y v) (hT : P.underlying T = some (.map k e)) (hg : o.guard = none) (hdst : o.dst = none)
    (hx : ev L x = some (.map (some b))) (hy : ev L y = some kv) (hv : ev L v = some u) (hok : ok kv u)
    (h : Imp W n D L (memo P k ok b :: M') R (wpList P ops Q rest)) : Imp W n D L M R (wpList P ops Q (o :: rest)) := by
  intro a w h1 h2 h3
  refine wpList_plain hg fun K hK => ?_
  unfold Oper.wp
  obtain ⟨es, clock, hb, hall⟩ := memo_at h3 hM.del
  have hlt : b < w.heap.size := (Array.getElem?_eq_some_iff.1 hb).1
  have key : ∀ ρ : Operand → Value, ρ x = .map (some b) → ρ y = kv → ρ v = u → ∃ es' clock', (execOp ρ o).run P w = .ok .skip (w.putObj b (.map es' clock')) ∧ ∀ e ∈ es'.toList, (∃ l, keyOf P k e.key = some l) ∧ ok e.key e.val := by
    intro ρ e1 e2 e3
    rcases hl.find w hk es.toList (fun e he => (hall e he).1) with ⟨hf, _⟩ | ⟨j, e', hf, hj, he'⟩
    · refine ⟨es.push { key := kv, val := u, born := clock }, clock + 1, ?_, ?_⟩
      · unfold execOp
        simp [ho, e1, e2, e3, Instr.mapUpdate, run_underlying hT, getObj, setObj, Sem.run, hb, hl.check w _ hk, hf, Sem.run_bind, Sem.run_pure, Result.andThen, World.putObj]
      · intro e he
        rcases List.mem_append.1 (by simpa using he : e ∈ es.toList ++ [{ key := kv, val := u, born := clock }]) with he | he
        · exact hall e he
        · have : e = { key := kv, val := u, born := clock } := by simpa using he
          subst this
          exact ⟨⟨l, hk⟩, hok⟩
    · have hst := hl.stays w hk
      have hj' : es[j]? = some e' := by simpa using hj
      refine ⟨es.modify j fun e => { e with key := kv, val := u }, clock, ?_, ?_⟩
      · unfold execOp
        simp [ho, e1, e2, e3, Instr.mapUpdate, run_underlying hT, getObj, setObj, Sem.run, hb, hl.check w _ hk, hf, hj', he', hst, Sem.run_bind, Sem.run_pure, Result.andThen, World.putObj]
      · intro e he
        obtain ⟨m, hm⟩ := List.mem_iff_getElem?.1 he
        have hm' : (es.modify j fun e => { e with key := kv, val := u })[m]? = some e := by rw [← Array.getElem?_toList]; exact hm
        by_cases hjm : j = m
        · subst hjm
          rw [Array.getElem?_modify, if_pos rfl, hj'] at hm'
          have : e = { e' with key := kv, val := u } := by simpa using hm'.symm
          subst this
          exact ⟨⟨l, hk⟩, hok⟩
        · rw [Array.getElem?_modify, if_neg hjm] at hm'
          exact hall e (List.mem_of_getElem? (by simpa using hm'))
  obtain ⟨es', clock', hr, hall'⟩ := key _ (h1.ev hx) (h1.ev hy) (h1.ev hv)
  rw [hr, Oper.upon_skip, hdst]
  have h4 := h3.perm hM.del.perm
  refine hK _ _ (h a _ h1 h2 ?_)
  refine h4.replace Upd.here rfl rfl rfl ?_
  rintro s ⟨es1, clock1, rfl, _⟩ hO
  refine ⟨[(b, .map es' clock')], ⟨es', clock', rfl, hall'⟩, ⟨by simp [keys], ?_⟩, ?_, ?_⟩
  · intro p hp
    have : p = (b, .map es' clock') := by simpa using hp
    subst this
    exact World.putObj_heap_same hlt
  · intro c hc; exact .inl (by simpa [keys] using hc)
  · intro c _ hc
    exact World.putObj_heap_other (by intro e; subst e; exact hc (by simp [keys]))
end Go.G


namespace Foot4
open Go Go.G
/-- On none of a plan's days are all men busy. -/
def freeB (men : Int) (B : List Int) (p : T3) : Bool := ![p.a, p.b, p.c].any fun d => decide (men ≤ B.getD d.toNat 0)
def noneT : T3 := ⟨-1, -1, -1⟩
def waysW (F : Work) (men : Int) (h : Nat) (B : List Int) (rec : List Int → Int) (l : List T3) : List Way :=
  ⟨rec B, noneT⟩ :: (l.filter (freeB men B)).map fun p => ⟨(F.heaps.getD h default).sods + rec (with_ B p), p⟩
/-- r heaps are left. -/
def bestW (F : Work) (men : Int) : Nat → List Int → Way
  | 0, _ => default
  | r + 1, B => wayL (waysW F men (F.heaps.length - (r + 1)) B (fun C => (bestW F men r C).sods) (sureF selW F (F.heaps.length - (r + 1))))
theorem best1_mem {α : Type} {bt : α → α → Bool} {z : α} {xs : List α} : ∀ k, 0 < k → k ≤ xs.length → best1 bt z xs k ∈ xs
  | 0, h, _ => absurd h (by omega)
  | k + 1, _, hk => by
    have hx : xs.getD k z ∈ xs := by
      rw [List.getD_eq_getElem?_getD, List.getElem?_eq_getElem (by omega)]
      exact List.getElem_mem _
    simp only [best1]
    split
    · exact hx
    · rename_i h
      exact best1_mem k (by omega) (by omega)
theorem wayL_mem {l : List Way} (h : 0 < l.length) : wayL l ∈ l := best1_mem _ h (Nat.le_refl _)
theorem bestW_bd {F : Work} (g : GoodF F) (men : Int) : ∀ r B, r ≤ F.heaps.length → 0 ≤ (bestW F men r B).sods ∧ (bestW F men r B).sods ≤ 500 * r
  | 0, _, _ => by simp [bestW, default, instInhabitedWay.default]
  | r + 1, B, hr => by
    have hm := wayL_mem (l := waysW F men (F.heaps.length - (r + 1)) B (fun C => (bestW F men r C).sods) (sureF selW F (F.heaps.length - (r + 1)))) (by simp [waysW])
    have hs := (g.2.2.2.2.2 (F.heaps.length - (r + 1)) (by omega)).2
    show 0 ≤ (wayL _).sods ∧ (wayL _).sods ≤ _
    rcases List.mem_cons.1 hm with e | hm'
    · rw [e]
      have := bestW_bd g men r B (by omega)
      simp only
      omega
    · obtain ⟨p, _, e⟩ := List.mem_map.1 hm'
      rw [← e]
      have := bestW_bd g men r (with_ B p) (by omega)
      simp only
      omega
end Foot4


namespace Go.G
variable {P : Program} {W : World} {n : Nat} {D : List Deferred} {L : Tm} {M : List Res} {R : List Fact} {Q : Exit → Act → World → Prop} {o : Oper}
def sblk : Value → Nat
  | .slice (some a) _ _ => a.block
  | _ => 0
theorem p_lit {ops : Array Oper} {K : List Spc → Prop} {rest : List Oper} {acc : List Spc} {t e : TypeId} {ps : List (Nat × Operand)} {vs : List Value} {len : Nat} {i : TypeInfo} {z : Value} {cs : List Value} {d : Nat} (ho : o.op = .buildSlice t len ps.toArray) (ht : P.underlying t = some (.slice e)) (hi : P.info? e = some i) (hz : i.zero = some z)
    (hbig : Nat.ble (len * i.size) 16777216 = true) (hpos : Nat.beq (len * i.size) 0 = false) (hg : o.guard = none) (hdst : o.dst = some d) (hd : Nat.blt d n = true)
    (hx : evs L (ps.map (·.2)) = some vs) (hk : ps.map (·.1) = List.range ps.length) (hp : PlaceOK (fun k => some (k * i.size, i.size)) 0 0 vs) [hc : CatC vs cs] (hl : cs.length = len * i.size)
    (hr : ParO P W n M R ops K rest (acc ++ [Spc.g (fun v => v = .slice (some ⟨sblk v, 0, none⟩) len len) (fun _ => []) (fun v => [boxF (sblk v) e cs])]) L) : ParO P W n M R ops K (o :: rest) acc L := by
  refine ⟨Spc.g (fun v => v = .slice (some ⟨sblk v, 0, none⟩) len len) (fun _ => []) (fun v => [boxF (sblk v) e cs]), by simp [hdst, hd], .inl ⟨rfl, .inl ⟨.inl hg, ?_⟩⟩, by simpa [addL, Spc.g] using hr⟩
  intro Mx Rx a w g1 g3
  have hu := parts_eq g1 hx hk
  have hb1 : ¬ (2 ^ 24 < len * i.size) := by
    have : len * i.size ≤ 16777216 := by simpa using hbig
    omega
  have hb2 : ¬ (len * i.size = 0) := fun e => by rw [e] at hpos; cases hpos
  have hf := fill_all (cells := (Array.range (len * i.size)).map (fun k => z.cells[k % z.cells.size]!)) hp hc.cat (by simpa using hl)
  have hrun : (execOp a.eval o).run P w = .ok (.value (.slice (some ⟨w.heap.size, 0, none⟩) len len)) (w.alloc (.cells cs.toArray e)) := by
    simp only [execOp, ho, Instr.buildSlice, Sem.run_bind, run_underlying ht, run_sizeOf' hi, Result.andThen_ok, gt_iff_lt, hb1, hb2, if_false, run_zeroValue' hi hz, Sem.run_pure, List.map_toArray, hu, hf]
    simp [newRow, newObj, Sem.run]
  rw [hrun]
  refine ⟨rfl, ?_⟩
  have h4 : St W (bx w.heap.size e cs :: (Mx ++ M)) (Rx ++ R) (w.alloc (.cells cs.toArray e)) := g3.push _
  refine (h4.seal_.derive (ψ := boxF w.heap.size e cs) fun V hV => ?_).weak ?_
  · obtain ⟨s, hs, hp⟩ := hV (sealed (bx w.heap.size e cs)) (by simp)
    have hs' : s = [(w.heap.size, .cells cs.toArray e (0, 0))] := hs
    subst hs'
    exact hp (w.heap.size, .cells cs.toArray e (0, 0)) (by simp)
  · intro φ hφ
    rcases List.mem_append.1 hφ with h | h
    · have : φ = boxF w.heap.size e cs := by simpa [Spc.fs, Spc.g, sblk] using h
      subst this; simp
    · exact List.mem_cons_of_mem _ (List.mem_cons_of_mem _ h)
/-- An operation that uses what an earlier one, j, has come to. -/
theorem p_dep {ops : Array Oper} {K : List Spc → Prop} {rest : List Oper} {acc : List Spc} {d : Nat} {v : Value} (j : Nat) {oj : Oper} {sj : Spc} (hoj : ops[j]? = some oj) (hsj : acc[j]? = some sj) (hdj : sj.det = none) (hdep : depOn o j = true) (hg : o.guard = none) (hdst : o.dst = some d) (hd : Nat.blt d n = true)
    (ho : ∀ u, sj.pval u → ∀ Mx Rx, OpQ P W n ((oj.dst.getD 1000000, u) :: L) (Mx ++ M) (Rx ++ (sj.fct u ++ R)) o v) (h : ParO P W n M R ops K rest (acc ++ [Spc.q v]) ((d, v) :: L)) : ParO P W n M R ops K (o :: rest) acc L :=
  ⟨Spc.q v, by simp [hdst, hd], .inl ⟨rfl, .inr (.inr (.inl ⟨hg, j, oj, sj, hoj, hsj, hdj, hdep, fun u hu => OpG.of_q (ho u hu)⟩))⟩, by simpa [addL, Spc.q, hdst] using h⟩
/-- A slice's own block, as an owned slice. -/
theorem Imp.ownBox {α : Type} {enc : α → List Value} {sz : Nat} {T : TypeId} {cs : List Value} {M' : List Res} {X : Act → World → Prop} (b : Nat) (xs : List α) [hd : DelBox b M T cs M'] (e : cs = xs.flatMap enc) (hl : cs.length = xs.length * sz) (hm : xs.length ≤ maxLen)
    (h : Imp W n D L (ownL (.slice (some ⟨b, 0, none⟩) xs.length xs.length) T sz enc xs :: M') R X) : Imp W n D L M R X := by
  intro a w h1 h2 h3
  refine h a w h1 h2 ?_
  have h4 : St W (bx b T cs :: M') R w := h3.perm hd.del.perm
  obtain ⟨s, ⟨s1, s2, rfl, hs1, hM⟩, hO, hR⟩ := h4.mem
  refine ⟨h4.os, h4.tape, h4.output, s1 ++ s2, ⟨s1, s2, rfl, ?_, hM⟩, hO, hR⟩
  have hs' : s1 = [(b, .cells cs.toArray T (0, 0))] := hs1
  subst e
  refine ⟨hl, .inr ⟨b, xs.length, (xs.flatMap enc).toArray, rfl, Nat.le_refl _, hm, by simpa using hl, ?_, hs'⟩⟩
  rw [← hl]; exact List.take_length
end Go.G


namespace Go.G
variable {P : Program} {W : World} {n : Nat} {D : List Deferred} {L : Tm} {M : List Res} {R : List Fact} {Q : Exit → Act → World → Prop} {o : Oper}
instance (priority := 90) DelC.app {A M M' : List Res} {r : Res} [h : DelC M r M'] : DelC (A ++ M) r (A ++ M') := ⟨by
  obtain ⟨X, Y, h1, h2⟩ := h.del
  exact ⟨A ++ X, Y, by simp [h1], by simp [h2]⟩⟩
theorem OpQ.fnm {k : FuncId} {args : List Value} {m : Res} {R0 : List Fact} {v : Value} {f : Operand} {xs : List Operand} {ts : Array TypeId} {vs : List Value} {M' : List Res}
    (h : FnM P k args m R0 (fun u => u = v)) (ho : o.op = .call { callee := .value f, args := xs.toArray, argTypes := ts }) (first captured : List Value) (hf : ev L f = some (.func (.func k) first.toArray captured.toArray))
    (hx : evs L xs = some vs) (ha : first ++ vs ++ captured = args) (hs : SubR R R0) [hM : DelC M m M'] : OpQ P W n L M R o v := by
  intro a w h1 h2
  unfold Oper.quietAt
  rw [exec_call first captured ho (h1.ev hf) (h1.evs hx) h.enter, ha]
  exact ⟨rfl, (h.use hs hM.del h2).mono fun e w' ⟨u, he, hu, hs'⟩ => ⟨by rw [he, hu], hs'⟩⟩
theorem v_cast {u v : Value} (h : OpQ P W n L M R o u) (e : u = v) : OpQ P W n L M R o v := e ▸ h
/-- The contract under facts that say at least as much. -/
theorem FnV.pre {k : FuncId} {args : List Value} {R1 R2 : List Fact} {v : Value} (h : FnV P k args R1 v) (hd : ∀ V, (∀ φ ∈ R2, φ V) → ∀ φ ∈ R1, φ V) : FnV P k args R2 v := by
  refine ⟨h.enter, fun W M Rf w hw => ?_⟩
  have key : ∀ (S : List Fact), (∀ φ ∈ S, φ ∈ R1) → St W M (S ++ (R2 ++ Rf)) w := by
    intro S
    induction S with
    | nil => intro _; exact hw
    | cons φ S ih =>
      intro hS
      exact (ih (fun ψ hψ => hS ψ (by simp [hψ]))).derive fun V hV => hd V (fun ψ hψ => hV ψ (by simp [hψ])) φ (hS φ (by simp))
  exact (h.calls W M (R2 ++ Rf) w (key R1 (fun _ h => h))).mono fun e w' ⟨he, hs⟩ => ⟨he, hs.weak fun φ hφ => List.mem_append_right _ hφ⟩
/-- 'append(s, x)', x's block known for good. -/
theorem o_app1F {α : Type} {enc : α → List Value} {sz : Nat} {v : Value} {xs : List α} {M' : List Res} {ops : Array Oper} {rest : List Oper} {s x : Operand} {t e B : TypeId} {i : TypeInfo} {z : Value} {c d b : Nat} {news : List Value} [hM : HasOwn v M e sz enc xs M'] [hm : HasBoxF b R B news] (y : α) (ho : o.op = .call { callee := .builtin .append, args := #[s, x], argTypes := #[t, t] })
    (ht : P.underlying t = some (.slice e)) (hi : P.info? e = some i) (hz : i.zero = some z) (hsz : i.size = sz) (hzs : z.cells.size = sz) (hg : o.guard = none) (hdst : o.dst = some d) (hd : Nat.blt d n = true)
    (hs : ev L s = some v) (hx : ev L x = some (.slice (some ⟨b, 0, none⟩) 1 c)) (hy : news = enc y) (hl : news.length = sz) (h1 : oneCells news = true) (hbd : xs.length ≤ 1000000 ∧ i.bytes ≤ 1000000)
    (h : ∀ v', Imp W n D ((d, v') :: L) (ownL v' e sz enc (xs ++ [y]) :: M') R (wpList P ops Q rest)) : Imp W n D L M R (wpList P ops Q (o :: rest)) := by
  subst hy
  have hby : (xs.length + 1) * i.bytes ≤ 140737488355328 := by
    have : (xs.length + 1) * i.bytes ≤ 1000001 * 1000000 := Nat.mul_le_mul (by omega) hbd.2
    omega
  intro a w g1 g2 g3
  refine wpList_plain hg fun K hK => ?_
  unfold Oper.wp
  have hM' : Del M (own v e sz xs.length (xs.flatMap enc)) M' := hM.del
  obtain ⟨v', w', hr, hw'⟩ := run_append (P := P) (ty := o.type) (c := c) (k := 1) g3 ht hi hz hsz hzs (fun j u hu => by rw [add_at, g3.cellF hm.mem, Nat.zero_add]; exact hu) (by simpa using hl) (oneCells_mem h1) (by simp only [maxLen]; omega) hby hM'
  have hrun : (execOp a.eval o).run P w = .ok (.value v') w' := by
    unfold execOp
    simp only [ho, resolve, invoke, builtin, Sem.run_bind, Sem.run_pure, Result.andThen_ok, List.map_toArray, List.map_cons, List.map_nil, g1.ev hs, g1.ev hx, hr]
  rw [hrun, Oper.upon_value, hdst]
  have h5 := h v'
  unfold ownL at h5
  refine hK _ _ (h5 _ w' (g1.put (by simpa using hd) v') (by rw [put_defers]; exact g2) ?_)
  simpa using hw'
/-- A look-up in a memo that fixes what is found. -/
theorem o_lookupD {ops : Array Oper} {rest : List Oper} {T k e : TypeId} {x y : Operand} {b d : Nat} {kv z : Value} {l : Lit} {i : TypeInfo} {ok : Value → Value → Prop} {M' : List Res} [hM : DelC M (memo P k ok b) M'] (v : Value) (hv : ∀ u, ok kv u → u = v) (hl : WideMaps.KeyLaw P k) (hk : keyOf P k kv = some l)
    (ho : o.op = .lookup T x y true) (hT : P.underlying T = some (.map k e)) (hi : P.info? e = some i) (hz : i.zero = some z) (hg : o.guard = none) (hdst : o.dst = some d) (hd : Nat.blt d n = true)
    (hx : ev L x = some (.map (some b))) (hy : ev L y = some kv)
    (hyes : Imp W n D ((d, .tuple #[v, .bool true]) :: L) M R (wpList P ops Q rest)) (hno : Imp W n D ((d, .tuple #[z, .bool false]) :: L) M R (wpList P ops Q rest)) : Imp W n D L M R (wpList P ops Q (o :: rest)) :=
  o_lookup hl hk ho hT hi hz hg hdst hd hx hy (fun u hu => by rw [hv u hu]; exact hyes) hno
/-- A slice laid in the free part. -/
abbrev Spc.lit (len : Nat) (e : TypeId) (cs : List Value) : Spc := Spc.g (fun v => v = .slice (some ⟨sblk v, 0, none⟩) len len) (fun _ => []) (fun v => [boxF (sblk v) e cs])
theorem p_depLit {ops : Array Oper} {K : List Spc → Prop} {rest : List Oper} {acc : List Spc} {d : Nat} {v : Value} (j : Nat) {oj : Oper} {len : Nat} {e : TypeId} {cs : List Value} (hoj : ops[j]? = some oj) (hsj : acc[j]? = some (Spc.lit len e cs)) (hdep : depOn o j = true) (hg : o.guard = none) (hdst : o.dst = some d) (hd : Nat.blt d n = true)
    (ho : ∀ b Mx Rx, OpQ P W n ((oj.dst.getD 1000000, .slice (some ⟨b, 0, none⟩) len len) :: L) (Mx ++ M) (Rx ++ (boxF b e cs :: R)) o v) (h : ParO P W n M R ops K rest (acc ++ [Spc.q v]) ((d, v) :: L)) : ParO P W n M R ops K (o :: rest) acc L :=
  p_dep j hoj hsj rfl hdep hg hdst hd (fun u hu Mx Rx => by
    have := ho (sblk u) Mx Rx
    rw [← (show u = .slice (some ⟨sblk u, 0, none⟩) len len from hu)] at this
    exact this) h
theorem p_acc {ops : Array Oper} {K : List Spc → Prop} {l : List Oper} {acc acc' : List Spc} (e : acc = acc') (h : ParO P W n M R ops K l acc' L) : ParO P W n M R ops K l acc L := by
  subst e; exact h
theorem f_lit {X : Act → World → Prop} {os : List Oper} {ss : List Spc} {len : Nat} {e : TypeId} {cs : List Value} {d : Nat} (hdst : o.dst = some d) (h : ∀ b, Fin W n D X os ss ((d, .slice (some ⟨b, 0, none⟩) len len) :: L) M (boxF b e cs :: R)) : Fin W n D X (o :: os) (Spc.lit len e cs :: ss) L M R :=
  f_g hdst (fun v hv => by
    have := h (sblk v)
    rw [← (show v = .slice (some ⟨sblk v, 0, none⟩) len len from hv)] at this
    exact this)
/-- An owned slice is handed over for good, and is seen to be a slice. -/
theorem Imp.settleS {α : Type} {enc : α → List Value} {sz : Nat} {T : TypeId} {xs : List α} {M' : List Res} {X : Act → World → Prop} (v : Value) [hd : HasOwn v M T sz enc xs M'] (henc : ∀ x, (enc x).length = sz) (h : ∀ oa cap, v = .slice oa xs.length cap → Imp W n D L M' (rowD oa sz enc xs :: R) X) : Imp W n D L M R X :=
  Imp.settleL v henc (fun hs => by
    obtain ⟨oa, cap, rfl⟩ := hs
    exact h oa cap rfl)
end Go.G

