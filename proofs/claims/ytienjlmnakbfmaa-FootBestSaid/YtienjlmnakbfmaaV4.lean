/- Part 4 of 4 of what the proofs of this seat stand on: a small logic for walks, what the functions come to, and the walks themselves. No condition of its own. -/
import Derived.Test.YtienjlmnakbfmaaV3
import Derived.Test.YtienjlmnakbfmaaV1
import Derived.Deep.Slices
import Derived.ProofKit
import Derived.OpenShut
import Derived.Test.YtienjlmnakbfmaaRows
set_option linter.unusedVariables false
set_option linter.unusedSimpArgs false
namespace Go.Proofs.Ytienjlmnakbfmaa
open Go.G Foot4
set_option maxRecDepth 1000000
attribute [local irreducible] G.ParO G.Fin
variable (F : Work) (ro ho : Option Addr) (rc hc : Nat)
theorem EBest_s (hg : GoodF F) : FnS Try.prog 26 [valF F ro rc ho hc] [] [rowD ro 2 encS F.rain, rowD ho 3 encH F.heaps] (fun e M' R' => ∃ v, e = .returned (.tuple #[i64 (bestS F F.men), v, i64 0]) ∧ M' = [ownL v 27 3 encT (bestL F)] ∧ R' = []) := by
  have h := Best_s F ro ho rc hc (by have := hg.1; omega) (by have := hg.2.2.1; omega)
  rw [bestP_ok hg] at h; exact h
set_option maxHeartbeats 4000000 in
theorem bests_v (bys : List Int) (ba : Option Addr) (bc : Nat) (hu : U16s bys) (hbl : bys.length ≤ 9223372036854775807) : FnV Try.prog 10 [valF F ro rc ho hc, .slice ba bys.length bc] [rowD ba 1 encU bys, rowD ro 2 encS F.rain, rowD ho 3 encH F.heaps] (.bool true) := by
  refine FnV.intro Try.call10 Try.func10 rfl Try.ntmps10 rfl ?_
  intro W M Rf
  refine r_seq ?_
  refine r_region ?_
  refine o_boxA rfl rfl rfl rfl rfl (fun b2 => ?_)
  refine o_q _ rfl rfl rfl (v_assign rfl rfl) ?_
  refine o_nil ?_
  with_reducible refine r_then ?_
  refine r_seq ?_
  refine r_seq ?_
  refine r_region ?_
  refine o_q _ rfl rfl rfl (v_ldW rfl Try.underlying26 rfl inf26 rfl rfl) ?_
  refine o_test rfl rfl rfl (OpQ.fn (fine_v F ro ho rc hc) rfl rfl SubRC.sub) (fun h29 => ?_) (fun h29 => ?_)
  all_goals
    refine o_q _ rfl rfl rfl (v_not rfl rfl) ?_
    refine o_nil ?_
    with_reducible refine r_then ?_
    refine r_cond rfl (fun hc30 => ?_) (fun hc30 => ?_)
    ·
      first
      | (exfalso; revert hc30; decide)
      | skip
        refine r_seq ?_
        refine r_region ?_
        refine o_q _ rfl rfl rfl (OpQ.fn awake_v rfl rfl SubRC.sub) ?_
        refine o_q _ rfl rfl rfl (v_assign rfl rfl) ?_
        refine o_nil ?_
        with_reducible refine r_then ?_
        refine r_ret ?_
        with_reducible refine r_then_ret ?_
        exact r_retv2 (Rd.tmp rfl rfl) rfl SelMC.sel SubRC.sub
    ·
      first
      | (exfalso; revert hc30; decide)
      | skip
        refine r_skip ?_
        with_reducible refine r_then ?_
        refine r_seq ?_
        have hg : GoodF F := by assumption
        have h8 := hg.1
        have h3 := hg.2.2.1
        have hbn := bestL_len F
        have hrt := bestL_right hg
        have ht : GoodT F (trulyT F bys) := good_truly hg hu
        refine r_region ?_
        refine o_q _ rfl rfl rfl (v_ldW rfl Try.underlying26 rfl inf26 rfl rfl) ?_
        refine o_fnown (EBest_s F ro ho rc hc hg) rfl rfl rfl rfl rfl SubRC.sub (fun v34 => ?_)
        all_goals
          refine Imp.settleS v34 encT_len (fun lo lc hv => ?_)
          subst hv
          refine o_q _ rfl rfl rfl (v_move rfl rfl) ?_
          refine o_q _ rfl rfl rfl (v_extract rfl rfl rfl) ?_
          refine o_q _ rfl rfl rfl (v_extract rfl rfl rfl) ?_
          refine o_q _ rfl rfl rfl (v_extract rfl rfl rfl) ?_
          refine o_q _ rfl rfl rfl (v_assign rfl rfl) ?_
          refine o_q _ rfl rfl rfl (v_assign rfl rfl) ?_
          refine o_q _ rfl rfl rfl (v_assign rfl rfl) ?_
          refine o_nil ?_
          with_reducible refine r_then ?_
          refine r_seq ?_
          refine r_region ?_
          refine o_q _ rfl rfl rfl (v_ldW rfl Try.underlying26 rfl inf26 rfl rfl) ?_
          refine o_q _ rfl rfl rfl (OpQ.fn (EClamp_v F ro ho rc hc hg) rfl rfl SubRC.sub) ?_
          refine o_q _ rfl rfl rfl (v_move rfl rfl) ?_
          refine o_q _ rfl rfl rfl (v_extract rfl rfl rfl) ?_
          refine o_q _ rfl rfl rfl (v_extract rfl rfl rfl) ?_
          refine o_q _ rfl rfl rfl (v_extract rfl rfl rfl) ?_
          refine o_q _ rfl rfl rfl (v_assign rfl rfl) ?_
          refine o_q _ rfl rfl rfl (v_assign rfl rfl) ?_
          refine o_q _ rfl rfl rfl (v_assign rfl rfl) ?_
          refine o_nil ?_
          with_reducible refine r_then ?_
          refine r_seq ?_
          refine r_seq ?_
          refine r_region ?_
          refine o_q _ rfl rfl rfl (v_move rfl rfl) ?_
          refine o_q _ rfl rfl rfl (v_false (v_neq rfl rfl rfl) (by omega)) ?_
          all_goals
            refine o_q _ rfl rfl rfl (v_move rfl rfl) ?_
            refine o_g _ rfl rfl rfl rfl (v_move rfl rfl) ?_
            refine o_g _ rfl rfl rfl rfl (v_false (v_neq rfl rfl rfl) (by omega)) ?_
            all_goals
              refine o_q _ rfl rfl rfl (v_pick_f rfl rfl rfl) ?_
              refine o_q _ rfl rfl rfl (v_move rfl rfl) ?_
              refine o_g _ rfl rfl rfl rfl (v_move rfl rfl) ?_
              refine o_g _ rfl rfl rfl rfl (v_len rfl rfl Try.underlying40 rfl) ?_
              refine o_g _ rfl rfl rfl rfl (v_fieldAddr rfl Try.underlying26 inf24 rfl rfl rfl rfl) ?_
              refine o_g _ rfl rfl rfl rfl (v_ld1 rfl Try.underlying24 rfl rfl rfl) ?_
              refine o_g _ rfl rfl rfl rfl (v_len rfl rfl Try.underlying24 rfl) ?_
              refine o_g _ rfl rfl rfl rfl (v_false (v_neq rfl rfl rfl) (by omega)) ?_
              all_goals
                refine o_q _ rfl rfl rfl (v_pick_f rfl rfl rfl) ?_
                refine o_nil ?_
                with_reducible refine r_then ?_
                refine r_cond rfl (fun hc57 => ?_) (fun hc57 => ?_)
                ·
                  (exfalso; revert hc57; decide)
                ·
                  refine r_skip ?_
                  with_reducible refine r_then ?_
                  refine r_seq ?_
                  refine r_seq ?_
                  refine r_region ?_
                  refine o_q _ rfl rfl rfl (v_ldW rfl Try.underlying26 rfl inf26 rfl rfl) ?_
                  refine o_q _ rfl rfl rfl (v_move rfl rfl) ?_
                  refine o_fn (BrokenP_r F ro ho rc hc (by omega) (by omega) (bestL F) lo lc (by rw [bestL_len]; omega)) rfl rfl rfl rfl rfl SubRC.sub (fun v61 hv61 => ?_)
                  obtain ⟨x61, rfl, hb61⟩ := hv61; obtain rfl := bestL_ok hg hb61; dsimp only
                  all_goals
                    refine o_q _ rfl rfl rfl (v_move rfl rfl) ?_
                    refine o_q _ rfl rfl rfl (v_extract rfl rfl rfl) ?_
                    refine o_q _ rfl rfl rfl (v_extract rfl rfl rfl) ?_
                    refine o_q _ rfl rfl rfl (v_extract rfl rfl rfl) ?_
                    refine o_q _ rfl rfl rfl (v_extract rfl rfl rfl) ?_
                    refine o_q _ rfl rfl rfl (v_assign rfl rfl) ?_
                    refine o_q _ rfl rfl rfl (v_assign rfl rfl) ?_
                    refine o_q _ rfl rfl rfl (v_assign rfl rfl) ?_
                    refine o_q _ rfl rfl rfl (v_assign rfl rfl) ?_
                    refine o_nil ?_
                    with_reducible refine r_then ?_
                    refine r_seq ?_
                    refine r_region ?_
                    refine o_q _ rfl rfl rfl (v_move rfl rfl) ?_
                    refine o_q _ rfl rfl rfl (v_false (v_neq rfl rfl rfl) (by omega)) ?_
                    all_goals
                      refine o_q _ rfl rfl rfl (v_move rfl rfl) ?_
                      refine o_g _ rfl rfl rfl rfl (v_ldW rfl Try.underlying26 rfl inf26 rfl rfl) ?_
                      refine o_g _ rfl rfl rfl rfl (v_move rfl rfl) ?_
                      refine o_g _ rfl rfl rfl rfl (v_cast (v := i64 (bestS F F.men)) (OpQ.fn (Sods_v F ro ho rc hc hg (bestL F) lo lc (by rw [bestL_len]; omega) (by rw [bestL_len]; omega)) rfl rfl SubRC.sub) (congrArg (Value.int .i64) hrt.2.2.1)) ?_
                      refine o_g _ rfl rfl rfl rfl (v_move rfl rfl) ?_
                      refine o_g _ rfl rfl rfl rfl (v_false (v_neq rfl rfl rfl) (by omega)) ?_
                      all_goals
                        refine o_q _ rfl rfl rfl (v_pick_f rfl rfl rfl) ?_
                        refine o_nil ?_
                        with_reducible refine r_then ?_
                        refine r_cond rfl (fun hc74 => ?_) (fun hc74 => ?_)
                        ·
                          (exfalso; revert hc74; decide)
                        ·
                          refine r_skip ?_
                          with_reducible refine r_then ?_
                          refine r_seq ?_
                          refine r_region ?_
                          refine o_q _ rfl rfl rfl (v_ldW rfl Try.underlying26 rfl inf26 rfl rfl) ?_
                          refine o_q _ rfl rfl rfl (v_move rfl rfl) ?_
                          refine o_truth (truly_r F ro ho rc hc hg bys ba bc hu hbl) rfl rfl rfl rfl rfl SubRC.sub (fun r2 q2 f2 c2 => ?_)
                          all_goals
                            refine o_alloc rfl inf54 rfl rfl rfl rfl rfl (fun b15 => ?_)
                            refine o_st rfl inf54 rfl rfl rfl rfl rfl rfl rfl rfl ?_
                            refine o_q _ rfl rfl rfl (v_assign rfl rfl) ?_
                            refine o_nil ?_
                            with_reducible refine r_then ?_
                            refine r_seq ?_
                            refine r_region ?_
                            refine o_q _ rfl rfl rfl (v_assign rfl rfl) ?_
                            refine o_nil ?_
                            with_reducible refine r_then ?_
                            refine r_seq ?_
                            refine r_seq ?_
                            refine r_region ?_
                            refine o_q _ rfl rfl rfl (v_move rfl rfl) ?_
                            refine o_q _ rfl rfl rfl (v_len rfl rfl Try.underlying40 rfl) ?_
                            refine o_q _ rfl rfl rfl (v_move rfl rfl) ?_
                            refine o_nil ?_
                            with_reducible refine r_then ?_
                            refine r_block ?_
                            refine r_loop (ι := Nat × Value) (fun gh => gh.1 ≤ F.heaps.length) (fun gh => [(1, .slice ba bys.length bc), (2, pt b2 0), (5, i64 (bestS F F.men)), (6, .slice lo (bestL F).length lc), (8, i64 (clampB (sureQ selW F) F.heaps.length : Nat)), (15, pt b15 0), (16, i64 (sumSure F gh.1)), (17, gh.2), (78, .slice lo (bestL F).length lc), (79, i64 (bestL F).length), (80, i64 gh.1)]) (fun gh => ownL gh.2 27 3 encT (ownB F.rain.length bys gh.1) :: bx b15 54 [.slice r2 (trulyT F bys).rain.length q2, .slice f2 (trulyT F bys).first.length c2] :: bx b2 26 (cellsF F ro rc ho hc) :: M) (fun gh => [rowD lo 3 encT (bestL F), rowD r2 1 encI (trulyT F bys).rain, rowD f2 1 encI (trulyT F bys).first] ++ ([rowD ba 1 encU bys, rowD ro 2 encS F.rain, rowD ho 3 encH F.heaps] ++ Rf)) (fun gh => F.heaps.length - gh.1) (0, .slice none 0 0) ?_ ?_ ?_
                            ·
                              refine Imp.nilL 27 3 encT ?_
                              refine Imp.own_to (.slice none 0 0) (ownB F.rain.length bys 0) rfl ?_
                              refine Imp.box_to b15 [.slice r2 (trulyT F bys).rain.length q2, .slice f2 (trulyT F bys).first.length c2] rfl ?_
                              exact r_here (by repeat (first | exact FSub.nil | refine FSub.cons rfl ?_)) SelMC.sel SubRC.sub
                            ·
                              exact Nat.zero_le _
                            ·
                              rintro ⟨h, v⟩ hI0
                              dsimp only at hI0
                              dsimp only
                              have hI : h ≤ F.heaps.length := hI0
                              have hoh := ownB_len (rl := F.rain.length) (bys := bys) (k := h)
                              have hsb := sumSure_bd hg h hI
                              obtain ⟨p, hp⟩ : ∃ p, p = (bestL F).getD h default := ⟨_, rfl⟩
                              have hpk : h < F.heaps.length → IsPlan F.rain.length p ∧ keptF selW F h p := fun hh => by rw [hp]; exact hrt.2.2.2 h hh
                              refine r_seq ?_
                              refine r_region ?_
                              refine o_q _ rfl rfl rfl (v_lss rfl rfl rfl) ?_
                              refine o_nil ?_
                              with_reducible refine r_then ?_
                              refine r_seq ?_
                              refine r_condd rfl (fun hc81 => ?_) (fun hc81 => ?_)
                              ·
                                refine r_skip ?_
                                with_reducible refine r_then ?_
                                refine r_seq ?_
                                refine r_block ?_
                                refine r_seq ?_
                                refine r_region ?_
                                refine o_q _ rfl rfl rfl (v_move rfl rfl) ?_
                                refine o_q _ rfl rfl rfl (v_indexAddrSn rfl Try.underlying40 inf27 rfl rfl rfl (by omega) rfl) ?_
                                refine o_q _ rfl rfl rfl (v_cast (v := .agg #[i64 p.a, i64 p.b, i64 p.c]) (v_loadEN rfl Try.underlying27 rfl inf27 rfl (by omega) rfl rfl rfl) (by rw [hp]; rfl)) ?_
                                refine o_alloc rfl inf27 rfl rfl rfl rfl rfl (fun b19 => ?_)
                                refine o_q _ rfl rfl rfl (v_assign rfl rfl) ?_
                                refine o_st rfl inf27 rfl rfl rfl rfl rfl rfl rfl rfl ?_
                                refine o_nil ?_
                                with_reducible refine r_then ?_
                                refine r_seq ?_
                                refine r_seq ?_
                                have hh : h < F.heaps.length := by omega
                                refine r_region ?_
                                refine o_q _ rfl rfl rfl (v_ldW rfl Try.underlying26 rfl inf26 rfl rfl) ?_
                                refine o_q _ rfl rfl rfl (v_ldW rfl Try.underlying27 rfl inf27 rfl rfl) ?_
                                refine o_q _ rfl rfl rfl (v_true (OpQ.fn (EPlan_v F ro ho rc hc hg p) rfl rfl SubRC.sub) (hpk hh).1) ?_
                                refine o_q _ rfl rfl rfl (v_not rfl rfl) ?_
                                refine o_q _ rfl rfl rfl (v_move rfl rfl) ?_
                                refine o_g _ rfl rfl rfl rfl (v_ldW rfl Try.underlying54 rfl inf54 rfl rfl) ?_
                                refine o_g _ rfl rfl rfl rfl (v_ldW rfl Try.underlying26 rfl inf26 rfl rfl) ?_
                                refine o_g _ rfl rfl rfl rfl (v_move rfl rfl) ?_
                                refine o_g _ rfl rfl rfl rfl (v_ldW rfl Try.underlying27 rfl inf27 rfl rfl) ?_
                                refine o_g _ rfl rfl rfl rfl (v_true (OpQ.fn (EKeeps_v F ro ho rc hc hg _ _ _ _ _ ht _ hh p (hpk hh).1) rfl rfl SubRC.sub) (keeps_up ht hh (hpk hh).1 (hpk hh).2)) ?_
                                refine o_g _ rfl rfl rfl rfl (v_not rfl rfl) ?_
                                refine o_q _ rfl rfl rfl (v_pick_f rfl rfl rfl) ?_
                                refine o_nil ?_
                                with_reducible refine r_then ?_
                                refine r_cond rfl (fun hc96 => ?_) (fun hc96 => ?_)
                                ·
                                  (exfalso; revert hc96; decide)
                                ·
                                  refine r_skip ?_
                                  with_reducible refine r_then ?_
                                  refine r_seq ?_
                                  refine r_seq ?_
                                  refine r_region ?_
                                  rcases Bool.eq_false_or_eq_true (sureQ selW F h) with hq | hq <;> refine o_q _ rfl rfl rfl (v_move rfl rfl) ?_
                                  all_goals
                                    refine o_q _ rfl rfl rfl (v_move rfl rfl) ?_
                                    refine o_q _ rfl rfl rfl (v_shrn (a := clampB (sureQ selW F) F.heaps.length) rfl rfl rfl (clamp_sm (by omega)) (by omega)) ?_
                                    first | refine o_q _ rfl rfl rfl (v_cast (v := i64 1) (v_andn (a := clampB (sureQ selW F) F.heaps.length >>> h) (b := 1) rfl rfl rfl (clamp_sh (by omega)) (by decide)) (bit1 hh hq)) ?_ | refine o_q _ rfl rfl rfl (v_cast (v := i64 0) (v_andn (a := clampB (sureQ selW F) F.heaps.length >>> h) (b := 1) rfl rfl rfl (clamp_sh (by omega)) (by decide)) (bit0 hh hq)) ?_
                                    refine o_q _ rfl rfl rfl (v_eql rfl rfl rfl) ?_
                                    refine o_nil ?_
                                    with_reducible refine r_then ?_
                                    refine r_condd rfl (fun hc101 => ?_) (fun hc101 => ?_)
                                    ·
                                      first
                                      | (exfalso; revert hc101; decide)
                                      | skip
                                        have hsd := sods_nn hg hh
                                        refine r_region ?_
                                        refine o_q _ rfl rfl rfl (v_move rfl rfl) ?_
                                        refine o_q _ rfl rfl rfl (v_fieldAddr rfl Try.underlying26 inf24 rfl rfl rfl rfl) ?_
                                        refine o_q _ rfl rfl rfl (v_ld1 rfl Try.underlying24 rfl rfl rfl) ?_
                                        refine o_q _ rfl rfl rfl (v_move rfl rfl) ?_
                                        refine o_q _ rfl rfl rfl (v_indexAddrSn rfl Try.underlying24 inf73 rfl rfl rfl (by omega) rfl) ?_
                                        refine o_q _ rfl rfl rfl (v_fieldAddr rfl Try.underlying73 inf3 rfl rfl rfl rfl) ?_
                                        refine o_q _ rfl rfl rfl (v_loadE1 rfl Try.underlying3 rfl rfl (by omega) rfl rfl) ?_
                                        refine o_q _ rfl rfl rfl (v_cast (v := i64 (sumSure F (h + 1))) (v_add rfl rfl rfl (by omega)) (congrArg (Value.int .i64) (sumSure_yes hq))) ?_
                                        refine o_q _ rfl rfl rfl (v_assign rfl rfl) ?_
                                        refine o_nil ?_
                                        with_reducible refine r_then ?_
                                        refine r_seq ?_
                                        refine r_region ?_
                                        refine o_q _ rfl rfl rfl (v_assign rfl rfl) ?_
                                        refine o_nil ?_
                                        with_reducible refine r_then ?_
                                        refine r_seq ?_
                                        refine r_seq ?_
                                        refine r_region ?_
                                        refine o_q _ rfl rfl rfl (v_move rfl rfl) ?_
                                        refine o_q _ rfl rfl rfl (v_len rfl rfl Try.underlying50 rfl) ?_
                                        refine o_q _ rfl rfl rfl (v_gtr rfl rfl rfl) ?_
                                        refine o_nil ?_
                                        with_reducible refine r_then ?_
                                        refine r_condd rfl (fun hc112 => ?_) (fun hc112 => ?_)
                                        ·
                                          have hml := Nat.mod_lt h (show 0 < bys.length by omega)
                                          have hu1 := u16_at hu (h % bys.length)
                                          refine r_region ?_
                                          refine o_q _ rfl rfl rfl (v_move rfl rfl) ?_
                                          refine o_q _ rfl rfl rfl (v_move rfl rfl) ?_
                                          refine o_q _ rfl rfl rfl (v_move rfl rfl) ?_
                                          refine o_q _ rfl rfl rfl (v_len rfl rfl Try.underlying50 rfl) ?_
                                          refine o_q _ rfl rfl rfl (v_cast (v := i64 ((h % bys.length : Nat) : Int)) (v_rem rfl rfl rfl (by omega)) (congrArg (Value.int .i64) (tmod_nat (a := h) (b := bys.length)))) ?_
                                          refine o_q _ rfl rfl rfl (v_indexAddrSn rfl Try.underlying50 inf49 rfl rfl rfl (by omega) rfl) ?_
                                          refine o_q _ rfl rfl rfl (v_loadE1 (v := .int .u16 (bys.getD (h % bys.length) 0)) rfl Try.underlying49 rfl rfl (by omega) rfl rfl) ?_
                                          refine o_q _ rfl rfl rfl (v_cast (v := i64 ((nB bys h : Nat) : Int)) (v_conv rfl Try.underlying49 Try.underlying3 rfl (IntWalk.i64_in _ (by omega))) (congrArg (Value.int .i64) (nB_yes hu (by omega)))) ?_
                                          refine o_q _ rfl rfl rfl (v_assign rfl rfl) ?_
                                          refine o_nil ?_
                                          with_reducible refine r_then ?_
                                          refine r_region ?_
                                          refine o_q _ rfl rfl rfl (v_move rfl rfl) ?_
                                          refine o_q _ rfl rfl rfl (v_ldW rfl Try.underlying26 rfl inf26 rfl rfl) ?_
                                          refine o_q _ rfl rfl rfl (v_cast (v := i64 ((nB bys h : Nat) : Int)) (v_move rfl rfl) (congrArg (Value.int .i64) (by first | rfl | exact nB_no (by omega)))) ?_
                                          refine o_q _ rfl rfl rfl (OpQ.fn (EMade_v F ro ho rc hc hg (nB bys h) (nB_le hu h)) rfl rfl SubRC.sub) ?_
                                          refine o_lit rfl Try.underlying40 inf27 rfl rfl rfl rfl rfl rfl rfl rfl (by repeat (first | exact trivial | refine ⟨rfl, ?_⟩)) (by rfl) (fun b125 => ?_)
                                          refine o_app1 ((madeP F.rain.length (nB bys h))) rfl Try.underlying40 inf27 rfl (by rfl) (by rfl) rfl rfl rfl rfl rfl (by rfl) (by rfl) (by rfl) (by first | omega | (constructor <;> first | omega | decide)) (fun v126 => ?_)
                                          refine Imp.own_is v126 (fun hs => ?_)
                                          obtain ⟨oan, cpn, rfl⟩ := hs
                                          refine o_q _ rfl rfl rfl (v_assign rfl rfl) ?_
                                          refine o_nil ?_
                                          with_reducible refine r_in_normal ?_; refine r_then ?_
                                          refine r_region ?_
                                          refine o_q _ rfl rfl rfl (v_add rfl rfl rfl (by omega)) ?_
                                          refine o_q _ rfl rfl rfl (v_move rfl rfl) ?_
                                          refine o_nil ?_
                                          with_reducible refine r_then ?_
                                          exact r_next ((h + 1, .slice oan ((ownB F.rain.length bys h) ++ [madeP F.rain.length (nB bys h)]).length cpn)) (by refine Imp.own_to (.slice oan ((ownB F.rain.length bys h) ++ [madeP F.rain.length (nB bys h)]).length cpn) (ownB F.rain.length bys (h + 1)) ownB_next ?_; exact r_here (by repeat (first | exact FSub.nil | refine FSub.cons rfl ?_ | refine FSub.cons2 rfl (congrArg (Value.int .i64) (by first | rfl | exact sumSure_no hq)) ?_)) SelMC.sel SubRC.sub) (by first | omega | (show _ + 1 ≤ _; omega)) (by first | omega | (show _ - (_ + 1) < _ - _; omega))
                                        ·
                                          refine r_skip ?_
                                          with_reducible refine r_then ?_
                                          refine r_region ?_
                                          refine o_q _ rfl rfl rfl (v_move rfl rfl) ?_
                                          refine o_q _ rfl rfl rfl (v_ldW rfl Try.underlying26 rfl inf26 rfl rfl) ?_
                                          refine o_q _ rfl rfl rfl (v_cast (v := i64 ((nB bys h : Nat) : Int)) (v_move rfl rfl) (congrArg (Value.int .i64) (by first | rfl | exact nB_no (by omega)))) ?_
                                          refine o_q _ rfl rfl rfl (OpQ.fn (EMade_v F ro ho rc hc hg (nB bys h) (nB_le hu h)) rfl rfl SubRC.sub) ?_
                                          refine o_lit rfl Try.underlying40 inf27 rfl rfl rfl rfl rfl rfl rfl rfl (by repeat (first | exact trivial | refine ⟨rfl, ?_⟩)) (by rfl) (fun b125 => ?_)
                                          refine o_app1 ((madeP F.rain.length (nB bys h))) rfl Try.underlying40 inf27 rfl (by rfl) (by rfl) rfl rfl rfl rfl rfl (by rfl) (by rfl) (by rfl) (by first | omega | (constructor <;> first | omega | decide)) (fun v126 => ?_)
                                          refine Imp.own_is v126 (fun hs => ?_)
                                          obtain ⟨oan, cpn, rfl⟩ := hs
                                          refine o_q _ rfl rfl rfl (v_assign rfl rfl) ?_
                                          refine o_nil ?_
                                          with_reducible refine r_in_normal ?_; refine r_then ?_
                                          refine r_region ?_
                                          refine o_q _ rfl rfl rfl (v_add rfl rfl rfl (by omega)) ?_
                                          refine o_q _ rfl rfl rfl (v_move rfl rfl) ?_
                                          refine o_nil ?_
                                          with_reducible refine r_then ?_
                                          exact r_next ((h + 1, .slice oan ((ownB F.rain.length bys h) ++ [madeP F.rain.length (nB bys h)]).length cpn)) (by refine Imp.own_to (.slice oan ((ownB F.rain.length bys h) ++ [madeP F.rain.length (nB bys h)]).length cpn) (ownB F.rain.length bys (h + 1)) ownB_next ?_; exact r_here (by repeat (first | exact FSub.nil | refine FSub.cons rfl ?_ | refine FSub.cons2 rfl (congrArg (Value.int .i64) (by first | rfl | exact sumSure_no hq)) ?_)) SelMC.sel SubRC.sub) (by first | omega | (show _ + 1 ≤ _; omega)) (by first | omega | (show _ - (_ + 1) < _ - _; omega))
                                    ·
                                      first
                                      | (exfalso; revert hc101; decide)
                                      | skip
                                        refine r_skip ?_
                                        with_reducible refine r_then ?_
                                        refine r_seq ?_
                                        refine r_region ?_
                                        refine o_q _ rfl rfl rfl (v_assign rfl rfl) ?_
                                        refine o_nil ?_
                                        with_reducible refine r_then ?_
                                        refine r_seq ?_
                                        refine r_seq ?_
                                        refine r_region ?_
                                        refine o_q _ rfl rfl rfl (v_move rfl rfl) ?_
                                        refine o_q _ rfl rfl rfl (v_len rfl rfl Try.underlying50 rfl) ?_
                                        refine o_q _ rfl rfl rfl (v_gtr rfl rfl rfl) ?_
                                        refine o_nil ?_
                                        with_reducible refine r_then ?_
                                        refine r_condd rfl (fun hc112 => ?_) (fun hc112 => ?_)
                                        ·
                                          have hml := Nat.mod_lt h (show 0 < bys.length by omega)
                                          have hu1 := u16_at hu (h % bys.length)
                                          refine r_region ?_
                                          refine o_q _ rfl rfl rfl (v_move rfl rfl) ?_
                                          refine o_q _ rfl rfl rfl (v_move rfl rfl) ?_
                                          refine o_q _ rfl rfl rfl (v_move rfl rfl) ?_
                                          refine o_q _ rfl rfl rfl (v_len rfl rfl Try.underlying50 rfl) ?_
                                          refine o_q _ rfl rfl rfl (v_cast (v := i64 ((h % bys.length : Nat) : Int)) (v_rem rfl rfl rfl (by omega)) (congrArg (Value.int .i64) (tmod_nat (a := h) (b := bys.length)))) ?_
                                          refine o_q _ rfl rfl rfl (v_indexAddrSn rfl Try.underlying50 inf49 rfl rfl rfl (by omega) rfl) ?_
                                          refine o_q _ rfl rfl rfl (v_loadE1 (v := .int .u16 (bys.getD (h % bys.length) 0)) rfl Try.underlying49 rfl rfl (by omega) rfl rfl) ?_
                                          refine o_q _ rfl rfl rfl (v_cast (v := i64 ((nB bys h : Nat) : Int)) (v_conv rfl Try.underlying49 Try.underlying3 rfl (IntWalk.i64_in _ (by omega))) (congrArg (Value.int .i64) (nB_yes hu (by omega)))) ?_
                                          refine o_q _ rfl rfl rfl (v_assign rfl rfl) ?_
                                          refine o_nil ?_
                                          with_reducible refine r_then ?_
                                          refine r_region ?_
                                          refine o_q _ rfl rfl rfl (v_move rfl rfl) ?_
                                          refine o_q _ rfl rfl rfl (v_ldW rfl Try.underlying26 rfl inf26 rfl rfl) ?_
                                          refine o_q _ rfl rfl rfl (v_cast (v := i64 ((nB bys h : Nat) : Int)) (v_move rfl rfl) (congrArg (Value.int .i64) (by first | rfl | exact nB_no (by omega)))) ?_
                                          refine o_q _ rfl rfl rfl (OpQ.fn (EMade_v F ro ho rc hc hg (nB bys h) (nB_le hu h)) rfl rfl SubRC.sub) ?_
                                          refine o_lit rfl Try.underlying40 inf27 rfl rfl rfl rfl rfl rfl rfl rfl (by repeat (first | exact trivial | refine ⟨rfl, ?_⟩)) (by rfl) (fun b125 => ?_)
                                          refine o_app1 ((madeP F.rain.length (nB bys h))) rfl Try.underlying40 inf27 rfl (by rfl) (by rfl) rfl rfl rfl rfl rfl (by rfl) (by rfl) (by rfl) (by first | omega | (constructor <;> first | omega | decide)) (fun v126 => ?_)
                                          refine Imp.own_is v126 (fun hs => ?_)
                                          obtain ⟨oan, cpn, rfl⟩ := hs
                                          refine o_q _ rfl rfl rfl (v_assign rfl rfl) ?_
                                          refine o_nil ?_
                                          with_reducible refine r_in_normal ?_; refine r_then ?_
                                          refine r_region ?_
                                          refine o_q _ rfl rfl rfl (v_add rfl rfl rfl (by omega)) ?_
                                          refine o_q _ rfl rfl rfl (v_move rfl rfl) ?_
                                          refine o_nil ?_
                                          with_reducible refine r_then ?_
                                          exact r_next ((h + 1, .slice oan ((ownB F.rain.length bys h) ++ [madeP F.rain.length (nB bys h)]).length cpn)) (by refine Imp.own_to (.slice oan ((ownB F.rain.length bys h) ++ [madeP F.rain.length (nB bys h)]).length cpn) (ownB F.rain.length bys (h + 1)) ownB_next ?_; exact r_here (by repeat (first | exact FSub.nil | refine FSub.cons rfl ?_ | refine FSub.cons2 rfl (congrArg (Value.int .i64) (by first | rfl | exact sumSure_no hq)) ?_)) SelMC.sel SubRC.sub) (by first | omega | (show _ + 1 ≤ _; omega)) (by first | omega | (show _ - (_ + 1) < _ - _; omega))
                                        ·
                                          refine r_skip ?_
                                          with_reducible refine r_then ?_
                                          refine r_region ?_
                                          refine o_q _ rfl rfl rfl (v_move rfl rfl) ?_
                                          refine o_q _ rfl rfl rfl (v_ldW rfl Try.underlying26 rfl inf26 rfl rfl) ?_
                                          refine o_q _ rfl rfl rfl (v_cast (v := i64 ((nB bys h : Nat) : Int)) (v_move rfl rfl) (congrArg (Value.int .i64) (by first | rfl | exact nB_no (by omega)))) ?_
                                          refine o_q _ rfl rfl rfl (OpQ.fn (EMade_v F ro ho rc hc hg (nB bys h) (nB_le hu h)) rfl rfl SubRC.sub) ?_
                                          refine o_lit rfl Try.underlying40 inf27 rfl rfl rfl rfl rfl rfl rfl rfl (by repeat (first | exact trivial | refine ⟨rfl, ?_⟩)) (by rfl) (fun b125 => ?_)
                                          refine o_app1 ((madeP F.rain.length (nB bys h))) rfl Try.underlying40 inf27 rfl (by rfl) (by rfl) rfl rfl rfl rfl rfl (by rfl) (by rfl) (by rfl) (by first | omega | (constructor <;> first | omega | decide)) (fun v126 => ?_)
                                          refine Imp.own_is v126 (fun hs => ?_)
                                          obtain ⟨oan, cpn, rfl⟩ := hs
                                          refine o_q _ rfl rfl rfl (v_assign rfl rfl) ?_
                                          refine o_nil ?_
                                          with_reducible refine r_in_normal ?_; refine r_then ?_
                                          refine r_region ?_
                                          refine o_q _ rfl rfl rfl (v_add rfl rfl rfl (by omega)) ?_
                                          refine o_q _ rfl rfl rfl (v_move rfl rfl) ?_
                                          refine o_nil ?_
                                          with_reducible refine r_then ?_
                                          exact r_next ((h + 1, .slice oan ((ownB F.rain.length bys h) ++ [madeP F.rain.length (nB bys h)]).length cpn)) (by refine Imp.own_to (.slice oan ((ownB F.rain.length bys h) ++ [madeP F.rain.length (nB bys h)]).length cpn) (ownB F.rain.length bys (h + 1)) ownB_next ?_; exact r_here (by repeat (first | exact FSub.nil | refine FSub.cons rfl ?_ | refine FSub.cons2 rfl (congrArg (Value.int .i64) (by first | rfl | exact sumSure_no hq)) ?_)) SelMC.sel SubRC.sub) (by first | omega | (show _ + 1 ≤ _; omega)) (by first | omega | (show _ - (_ + 1) < _ - _; omega))
                              ·
                                refine r_exit ?_
                                with_reducible refine r_then_exit ?_; refine r_then_exit ?_; refine r_in_here ?_; refine r_then ?_
                                refine r_seq ?_
                                refine r_seq ?_
                                obtain rfl : h = F.heaps.length := by omega
                                have hss := best_sure hg
                                refine r_region ?_
                                refine o_q _ rfl rfl rfl (v_move rfl rfl) ?_
                                refine o_q _ rfl rfl rfl (v_move rfl rfl) ?_
                                refine o_q _ rfl rfl rfl (v_gtr rfl rfl rfl) ?_
                                refine o_nil ?_
                                with_reducible refine r_then ?_
                                refine r_condd rfl (fun hc130 => ?_) (fun hc130 => ?_)
                                ·
                                  (exfalso; omega)
                                ·
                                  refine r_skip ?_
                                  with_reducible refine r_then ?_
                                  refine r_seq ?_
                                  refine r_seq ?_
                                  refine Imp.settleS v encT_len (fun oo oc hv => ?_)
                                  subst hv
                                  refine r_region ?_
                                  refine o_q _ rfl rfl rfl (v_ldW rfl Try.underlying26 rfl inf26 rfl rfl) ?_
                                  refine o_q _ rfl rfl rfl (v_move rfl rfl) ?_
                                  refine o_fn (BrokenP_r F ro ho rc hc (by omega) (by omega) (ownB F.rain.length bys F.heaps.length) oo oc (by rw [ownB_len]; omega)) rfl rfl rfl rfl rfl SubRC.sub (fun v134 hv134 => ?_)
                                  obtain ⟨⟨x1, x2, x3, x4⟩, rfl, hbk⟩ := hv134; dsimp only
                                  all_goals
                                    refine o_q _ rfl rfl rfl (v_move rfl rfl) ?_
                                    refine o_q _ rfl rfl rfl (v_extract rfl rfl rfl) ?_
                                    refine o_q _ rfl rfl rfl (v_extract rfl rfl rfl) ?_
                                    refine o_q _ rfl rfl rfl (v_extract rfl rfl rfl) ?_
                                    refine o_q _ rfl rfl rfl (v_extract rfl rfl rfl) ?_
                                    refine o_q _ rfl rfl rfl (v_assign rfl rfl) ?_
                                    refine o_q _ rfl rfl rfl (v_assign rfl rfl) ?_
                                    refine o_q _ rfl rfl rfl (v_assign rfl rfl) ?_
                                    refine o_q _ rfl rfl rfl (v_assign rfl rfl) ?_
                                    refine o_nil ?_
                                    with_reducible refine r_then ?_
                                    refine r_seq ?_
                                    refine r_region ?_
                                    refine o_q _ rfl rfl rfl (v_move rfl rfl) ?_
                                    refine o_q _ rfl rfl rfl (v_neq rfl rfl rfl) ?_
                                    refine o_nil ?_
                                    with_reducible refine r_then ?_
                                    refine r_condd rfl (fun hc140 => ?_) (fun hc140 => ?_)
                                    ·
                                      refine r_seq ?_
                                      refine r_region ?_
                                      refine o_q _ rfl rfl rfl (OpQ.fn awake_v rfl rfl SubRC.sub) ?_
                                      refine o_q _ rfl rfl rfl (v_assign rfl rfl) ?_
                                      refine o_nil ?_
                                      with_reducible refine r_then ?_
                                      refine r_ret ?_
                                      with_reducible refine r_then_ret ?_
                                      exact r_retv2 (Rd.tmp rfl rfl) rfl SelMC.sel SubRC.sub
                                    ·
                                      refine r_skip ?_
                                      with_reducible refine r_then ?_
                                      refine r_seq ?_
                                      have hr4 := broke_4 hg ownB_ok hbk (by omega)
                                      have hbe := best_beats hg ownB_ok hr4
                                      have hol := ownB_len (rl := F.rain.length) (bys := bys) (k := F.heaps.length)
                                      refine r_region ?_
                                      refine o_q _ rfl rfl rfl (v_ldW rfl Try.underlying26 rfl inf26 rfl rfl) ?_
                                      refine o_q _ rfl rfl rfl (v_move rfl rfl) ?_
                                      refine o_q _ rfl rfl rfl (OpQ.fn (Sods_v F ro ho rc hc hg (ownB F.rain.length bys F.heaps.length) oo oc (by rw [ownB_len]; omega) (by rw [ownB_len]; omega)) rfl rfl SubRC.sub) ?_
                                      refine o_q _ rfl rfl rfl (v_assign rfl rfl) ?_
                                      refine o_nil ?_
                                      with_reducible refine r_then ?_
                                      refine r_seq ?_
                                      refine r_seq ?_
                                      refine r_region ?_
                                      refine o_q _ rfl rfl rfl (v_move rfl rfl) ?_
                                      refine o_q _ rfl rfl rfl (v_move rfl rfl) ?_
                                      refine o_q _ rfl rfl rfl (v_neq rfl rfl rfl) ?_
                                      refine o_nil ?_
                                      with_reducible refine r_then ?_
                                      refine r_condd rfl (fun hc147 => ?_) (fun hc147 => ?_)
                                      ·
                                        refine r_seq ?_
                                        refine r_region ?_
                                        refine o_q _ rfl rfl rfl (v_move rfl rfl) ?_
                                        refine o_q _ rfl rfl rfl (v_move rfl rfl) ?_
                                        refine o_q _ rfl rfl rfl (v_true (v_lss rfl rfl rfl) (by omega)) ?_
                                        all_goals
                                          refine o_q _ rfl rfl rfl (v_move rfl rfl) ?_
                                          refine o_g _ rfl rfl rfl rfl (OpQ.fn awake_v rfl rfl SubRC.sub) ?_
                                          refine o_q _ rfl rfl rfl (v_pick_t rfl rfl rfl) ?_
                                          refine o_q _ rfl rfl rfl (v_assign rfl rfl) ?_
                                          refine o_nil ?_
                                          with_reducible refine r_then ?_
                                          refine r_ret ?_
                                          with_reducible refine r_then_ret ?_
                                          exact r_retv2 (Rd.tmp rfl rfl) rfl SelMC.sel SubRC.sub
                                      ·
                                        refine r_skip ?_
                                        with_reducible refine r_then ?_
                                        refine r_seq ?_
                                        refine r_seq ?_
                                        refine r_region ?_
                                        refine o_q _ rfl rfl rfl (v_move rfl rfl) ?_
                                        refine o_q _ rfl rfl rfl (v_len rfl rfl Try.underlying40 rfl) ?_
                                        refine o_q _ rfl rfl rfl (v_move rfl rfl) ?_
                                        refine o_nil ?_
                                        with_reducible refine r_then ?_
                                        refine r_block ?_
                                        refine r_loop (ι := Nat) (fun h => h ≤ F.heaps.length ∧ ∀ h', h' < h → (ownB F.rain.length bys F.heaps.length).getD h' default = (bestL F).getD h' default) (fun h => [(1, .slice ba bys.length bc), (2, pt b2 0), (5, i64 (bestS F F.men)), (6, .slice lo (bestL F).length lc), (17, .slice oo (ownB F.rain.length bys F.heaps.length).length oc), (154, .slice oo (ownB F.rain.length bys F.heaps.length).length oc), (155, i64 (ownB F.rain.length bys F.heaps.length).length), (156, i64 h)]) (fun h => M) (fun h => [rowD oo 3 encT (ownB F.rain.length bys F.heaps.length), rowD lo 3 encT (bestL F), rowD r2 1 encI (trulyT F bys).rain, rowD f2 1 encI (trulyT F bys).first] ++ ([rowD ba 1 encU bys, rowD ro 2 encS F.rain, rowD ho 3 encH F.heaps] ++ Rf)) (fun h => F.heaps.length - h) 0 ?_ ?_ ?_
                                        ·
                                          exact r_here (by repeat (first | exact FSub.nil | refine FSub.cons rfl ?_)) SelMC.sel SubRC.sub
                                        ·
                                          exact ⟨Nat.zero_le _, fun j hj => absurd hj (by omega)⟩
                                        ·
                                          rintro h hI1
                                          have hhl := hI1.1
                                          refine r_seq ?_
                                          refine r_region ?_
                                          refine o_q _ rfl rfl rfl (v_lss rfl rfl rfl) ?_
                                          refine o_nil ?_
                                          with_reducible refine r_then ?_
                                          refine r_seq ?_
                                          refine r_condd rfl (fun hc157 => ?_) (fun hc157 => ?_)
                                          ·
                                            refine r_skip ?_
                                            with_reducible refine r_then ?_
                                            refine r_seq ?_
                                            refine r_block ?_
                                            refine r_seq ?_
                                            refine r_region ?_
                                            refine o_q _ rfl rfl rfl (v_move rfl rfl) ?_
                                            refine o_q _ rfl rfl rfl (v_assign rfl rfl) ?_
                                            refine o_nil ?_
                                            with_reducible refine r_then ?_
                                            refine r_seq ?_
                                            refine r_region ?_
                                            refine o_q _ rfl rfl rfl (v_move rfl rfl) ?_
                                            refine o_nil ?_
                                            with_reducible refine r_then ?_
                                            refine r_block ?_
                                            refine r_loop (ι := Nat) (fun i => i ≤ 3 ∧ ∀ j, j < i → ((ownB F.rain.length bys F.heaps.length).getD h default).at j = ((bestL F).getD h default).at j) (fun i => [(1, .slice ba bys.length bc), (2, pt b2 0), (5, i64 (bestS F F.men)), (6, .slice lo (bestL F).length lc), (17, .slice oo (ownB F.rain.length bys F.heaps.length).length oc), (154, .slice oo (ownB F.rain.length bys F.heaps.length).length oc), (155, i64 (ownB F.rain.length bys F.heaps.length).length), (156, i64 h), (26, i64 h), (159, i64 i)]) (fun i => M) (fun i => [rowD oo 3 encT (ownB F.rain.length bys F.heaps.length), rowD lo 3 encT (bestL F), rowD r2 1 encI (trulyT F bys).rain, rowD f2 1 encI (trulyT F bys).first] ++ ([rowD ba 1 encU bys, rowD ro 2 encS F.rain, rowD ho 3 encH F.heaps] ++ Rf)) (fun i => 3 - i) 0 ?_ ?_ ?_
                                            ·
                                              exact r_here (by repeat (first | exact FSub.nil | refine FSub.cons rfl ?_)) SelMC.sel SubRC.sub
                                            ·
                                              exact ⟨Nat.zero_le _, fun j hj => absurd hj (by omega)⟩
                                            ·
                                              rintro i hI2
                                              have hi3 := hI2.1
                                              refine r_seq ?_
                                              refine r_region ?_
                                              refine o_q _ rfl rfl rfl (v_lss rfl rfl rfl) ?_
                                              refine o_nil ?_
                                              with_reducible refine r_then ?_
                                              refine r_seq ?_
                                              refine r_condd rfl (fun hc160 => ?_) (fun hc160 => ?_)
                                              ·
                                                refine r_skip ?_
                                                with_reducible refine r_then ?_
                                                refine r_seq ?_
                                                refine r_block ?_
                                                refine r_seq ?_
                                                refine r_region ?_
                                                refine o_q _ rfl rfl rfl (v_move rfl rfl) ?_
                                                refine o_q _ rfl rfl rfl (v_assign rfl rfl) ?_
                                                refine o_nil ?_
                                                with_reducible refine r_then ?_
                                                refine r_seq ?_
                                                refine r_region_q mixed (by kernel_rfl) ?_
                                                refine q_q _ rfl rfl rfl (v_move rfl rfl) ?_
                                                refine q_q _ rfl rfl rfl (v_move rfl rfl) ?_
                                                refine q_q _ rfl rfl rfl (v_move rfl rfl) ?_
                                                refine q_q _ rfl rfl rfl (v_indexAddrSn rfl Try.underlying40 inf27 rfl rfl rfl (by omega) rfl) ?_
                                                refine q_q _ rfl rfl rfl (v_indexAddrAn rfl Try.underlying27 inf3 rfl rfl (by omega)) ?_
                                                refine q_q _ rfl rfl rfl (v_loadE1 rfl Try.underlying3 rfl rfl (by omega) (lt_blt (k := i) (by omega)) (t3_atn0 (k := i) (by omega))) ?_
                                                refine q_q _ rfl rfl rfl (v_move rfl rfl) ?_
                                                refine q_q _ rfl rfl rfl (v_move rfl rfl) ?_
                                                refine q_q _ rfl rfl rfl (v_move rfl rfl) ?_
                                                refine q_q _ rfl rfl rfl (v_indexAddrSn rfl Try.underlying40 inf27 rfl rfl rfl (by omega) rfl) ?_
                                                refine q_q _ rfl rfl rfl (v_indexAddrAn rfl Try.underlying27 inf3 rfl rfl (by omega)) ?_
                                                refine q_q _ rfl rfl rfl (v_loadE1 rfl Try.underlying3 rfl rfl (by omega) (lt_blt (k := i) (by omega)) (t3_atn0 (k := i) (by omega))) ?_
                                                refine q_q _ rfl rfl rfl (v_neq rfl rfl rfl) ?_
                                                refine q_nil ?_
                                                with_reducible refine r_then ?_
                                                refine r_condd rfl (fun hc174 => ?_) (fun hc174 => ?_)
                                                ·
                                                  refine r_seq ?_
                                                  have hle : lexL (bestL F) (ownB F.rain.length bys F.heaps.length) := hbe.2 (by omega)
                                                  have hlt : ((bestL F).getD h default).at i < ((ownB F.rain.length bys F.heaps.length).getD h default).at i := lex_lt (by omega) (lexL_at hle (by omega) (by omega) (fun h' hh' => (hI1.2 h' hh').symm)) hI2.2 (by omega)
                                                  refine r_region_q mixed (by kernel_rfl) ?_
                                                  refine q_q _ rfl rfl rfl (v_move rfl rfl) ?_
                                                  refine q_q _ rfl rfl rfl (v_move rfl rfl) ?_
                                                  refine q_q _ rfl rfl rfl (v_move rfl rfl) ?_
                                                  refine q_q _ rfl rfl rfl (v_indexAddrSn rfl Try.underlying40 inf27 rfl rfl rfl (by omega) rfl) ?_
                                                  refine q_q _ rfl rfl rfl (v_indexAddrAn rfl Try.underlying27 inf3 rfl rfl (by omega)) ?_
                                                  refine q_q _ rfl rfl rfl (v_loadE1 rfl Try.underlying3 rfl rfl (by omega) (lt_blt (k := i) (by omega)) (t3_atn0 (k := i) (by omega))) ?_
                                                  refine q_q _ rfl rfl rfl (v_move rfl rfl) ?_
                                                  refine q_q _ rfl rfl rfl (v_move rfl rfl) ?_
                                                  refine q_q _ rfl rfl rfl (v_move rfl rfl) ?_
                                                  refine q_q _ rfl rfl rfl (v_indexAddrSn rfl Try.underlying40 inf27 rfl rfl rfl (by omega) rfl) ?_
                                                  refine q_q _ rfl rfl rfl (v_indexAddrAn rfl Try.underlying27 inf3 rfl rfl (by omega)) ?_
                                                  refine q_q _ rfl rfl rfl (v_loadE1 rfl Try.underlying3 rfl rfl (by omega) (lt_blt (k := i) (by omega)) (t3_atn0 (k := i) (by omega))) ?_
                                                  refine q_q _ rfl rfl rfl (v_true (v_gtr rfl rfl rfl) (by omega)) ?_
                                                  all_goals
                                                    refine q_q _ rfl rfl rfl (v_move rfl rfl) ?_
                                                    refine q_g _ rfl rfl rfl rfl (OpQ.fn awake_v rfl rfl SubRC.sub) ?_
                                                    refine q_q _ rfl rfl rfl (v_pick_t rfl rfl rfl) ?_
                                                    refine q_q _ rfl rfl rfl (v_assign rfl rfl) ?_
                                                    refine q_nil ?_
                                                    with_reducible refine r_then ?_
                                                    refine r_ret ?_
                                                    with_reducible refine r_in_ret ?_; refine r_then_ret ?_; refine r_then_ret ?_; refine r_in_ret ?_; refine r_in_ret ?_; refine r_then_ret ?_; refine r_then_ret ?_; refine r_in_ret ?_; refine r_then_ret ?_
                                                    exact r_retv2 (Rd.tmp rfl rfl) rfl SelMC.sel SubRC.sub
                                                ·
                                                  refine r_skip ?_
                                                  with_reducible refine r_in_normal ?_; refine r_then ?_
                                                  refine r_region ?_
                                                  refine o_q _ rfl rfl rfl (v_add rfl rfl rfl (by omega)) ?_
                                                  refine o_q _ rfl rfl rfl (v_move rfl rfl) ?_
                                                  refine o_nil ?_
                                                  with_reducible refine r_then ?_
                                                  refine r_next (i + 1) ?_ ?_ ?_
                                                  ·
                                                    exact r_here (by repeat (first | exact FSub.nil | refine FSub.cons rfl ?_)) SelMC.sel SubRC.sub
                                                  ·
                                                    exact ⟨by omega, all_step hI2.2 (by omega)⟩
                                                  ·
                                                    omega
                                              ·
                                                refine r_exit ?_
                                                with_reducible refine r_then_exit ?_; refine r_then_exit ?_; refine r_in_here ?_; refine r_in_normal ?_; refine r_then ?_
                                                refine r_region ?_
                                                refine o_q _ rfl rfl rfl (v_add rfl rfl rfl (by omega)) ?_
                                                refine o_q _ rfl rfl rfl (v_move rfl rfl) ?_
                                                refine o_nil ?_
                                                with_reducible refine r_then ?_
                                                refine r_next (h + 1) ?_ ?_ ?_
                                                ·
                                                  exact r_here (by repeat (first | exact FSub.nil | refine FSub.cons rfl ?_)) SelMC.sel SubRC.sub
                                                ·
                                                  exact ⟨by omega, all_step hI1.2 (t3_ext (fun j hj => hI2.2 j (by omega)))⟩
                                                ·
                                                  omega
                                          ·
                                            refine r_exit ?_
                                            with_reducible refine r_then_exit ?_; refine r_then_exit ?_; refine r_in_here ?_; refine r_then ?_
                                            refine r_seq ?_
                                            refine r_region ?_
                                            refine o_q _ rfl rfl rfl (OpQ.fn awake_v rfl rfl SubRC.sub) ?_
                                            refine o_q _ rfl rfl rfl (v_assign rfl rfl) ?_
                                            refine o_nil ?_
                                            with_reducible refine r_then ?_
                                            refine r_ret ?_
                                            exact r_retv2 (Rd.tmp rfl rfl) rfl SelMC.sel SubRC.sub
end Go.Proofs.Ytienjlmnakbfmaa


namespace Go.G
open Go.ChangeShapes Go.RowKit Go.Deep
section
variable {H : Type} {en : TypeId × Value → H} {P : Program} {w : World} {base : Nat} {sp : Nat → Bool} {held : Bool}
theorem mapM_at {α β : Type} {f : α → Option β} : ∀ {l : List α} {r : List β}, l.mapM f = some r → r.length = l.length ∧ ∀ (j : Nat) (x : α), l[j]? = some x → f x = r[j]?
  | [], r, h => by
    simp at h; subst h; simp
  | a :: l, r, h => by
    rw [List.mapM_cons] at h
    simp only [bind, Option.bind_eq_some_iff, pure, Option.some.injEq] at h
    obtain ⟨b, hb, bs, hbs, rfl⟩ := h
    obtain ⟨h1, h2⟩ := mapM_at hbs
    refine ⟨by simp [h1], fun j x hj => ?_⟩
    cases j with
    | zero => simp at hj; subst hj; simpa using hb
    | succ j => simpa using h2 j x (by simpa using hj)
theorem cells_at {a : Addr} {n : Nat} {cs : List Value} (h : w.cells? base a n = some cs) : cs.length = n ∧ ∀ j, j < n → w.cell? (a.add j) = cs[j]? := by
  unfold World.cells? at h
  split at h
  · obtain ⟨h1, h2⟩ := mapM_at h
    exact ⟨by simpa using h1, fun j hj => h2 j j (by simp [hj])⟩
  · cases h
/-- A slice of things of one kind is a row that is known. -/
theorem open_rowD {α : Type} [Inhabited α] {enc : α → List Value} {sz : Nat} (ok : α → Prop) {t e : TypeId} {fuel : Nat} {cs : List Value} {x : DataW H × List MemPlace} (ht : P.underlying t = some (.slice e)) (hc : P.cellsOf e = sz) (hpos : 0 < sz)
    (hel : ∀ fuel cs x, DataW.trod en P w base sp held fuel e cs = some x → ∃ y : α, cs = enc y ∧ ok y) (h : DataW.trod en P w base sp held fuel t cs = some x) :
    ∃ (oa : Option Addr) (cap : Nat) (xs : List α), cs = [.slice oa xs.length cap] ∧ rowD oa sz enc xs (full w) ∧ (∀ y ∈ xs, ok y) ∧ xs.length ≤ maxLen := by
  rcases open_slice ht h with ⟨rfl, _⟩ | ⟨a, len, cap, m, n, D, Pl, rfl, _, hlc, hcm, hm, _, hall⟩
  · exact ⟨none, 0, [], rfl, .inl rfl, by simp, Nat.zero_le _⟩
  · have hle : len ≤ m := by rw [hm]; split <;> omega
    have hch : ∀ i, i < len → ∃ y : α, w.cells? base (a.add (i * sz)) sz = some (enc y) ∧ ok y := by
      intro i hi
      obtain ⟨cs', h1, h2⟩ := hall i (by omega)
      obtain ⟨y, rfl, hy⟩ := hel _ _ _ h2
      rw [hc] at h1
      exact ⟨y, h1, hy⟩
    obtain ⟨f, hf⟩ := choose_lt hch
    refine ⟨some a, cap, (List.range len).map f, by simp, ?_, ?_, by simp; omega⟩
    · by_cases h0 : len = 0
      · subst h0; exact .inl rfl
      · obtain ⟨c1, c2⟩ := cells_at (hf 0 (by omega)).1
        have hz := c2 0 hpos
        have hsome : ∃ v, w.cell? ((a.add (0 * sz)).add 0) = some v := ⟨(enc (f 0))[0]'(by omega), by rw [hz]; simp [show 0 < (enc (f 0)).length from by omega]⟩
        obtain ⟨v, hv⟩ := hsome
        have ha0 : (a.add (0 * sz)).add 0 = a := by simp [Addr.add]
        rw [ha0] at hv
        unfold World.cell? at hv
        split at hv
        · rename_i C T fr hb
          split at hv
          · cases hv
          · rename_i hs
            obtain ⟨b, off, spot⟩ := a
            have hsp : spot = none := by cases spot <;> simp_all
            subst hsp
            refine .inr ⟨b, off, C, T, fr, rfl, hb, fun i j hi hj => ?_⟩
            have hi' : i < len := by simpa using hi
            obtain ⟨_, d2⟩ := cells_at (hf i hi').1
            have := d2 j hj
            rw [add_at, add_at] at this
            rw [cell_of_row w b _ C T fr hb] at this
            rw [this]
            simp
        · cases hv
    · intro y hy
      obtain ⟨i, hi, rfl⟩ := List.mem_map.1 hy
      exact (hf i (by simpa using hi)).2
theorem open_i {t : TypeId} {k : IntKind} {fuel : Nat} {cs : List Value} {x : DataW H × List MemPlace} (ht : P.underlying t = some (.int k)) (h : DataW.trod en P w base sp held fuel t cs = some x) : ∃ n, cs = [.int k n] ∧ (Lit.int k n).wf = true := by
  obtain ⟨n, h1, _, h2⟩ := DataW.trod_int ht h
  exact ⟨n, h1, h2⟩
/-- A struct's field. -/
theorem open_field {t : TypeId} {fs : Array Field} {fuel : Nat} {cs : List Value} {x : DataW H × List MemPlace} (ht : P.underlying t = some (.struct fs)) (h : DataW.trod en P w base sp held fuel t cs = some x) (i : Nat) {f : Field} (hf : fs[i]? = some f) {n : Nat} (hn : P.cellsOf f.type = n) :
    ∃ fuel' y, DataW.trod en P w base sp held fuel' f.type ((cs.drop f.offset).take n) = some y := by
  obtain ⟨xs, m, _, _, _, hl, hall⟩ := DataW.trod_struct ht h
  have hi : i < xs.length := by rw [hl]; exact (Array.getElem?_eq_some_iff.1 hf).1
  have := hall i f hf
  rw [hn, List.getElem?_eq_getElem hi] at this
  exact ⟨m, _, this⟩
theorem open_len {t : TypeId} {fs : Array Field} {fuel : Nat} {cs : List Value} {x : DataW H × List MemPlace} (ht : P.underlying t = some (.struct fs)) (h : DataW.trod en P w base sp held fuel t cs = some x) : cs.length = P.cellsOf t := (DataW.trod_struct ht h).choose_spec.choose_spec.2.2.1
theorem open_lenA {t e : TypeId} {k : Nat} {fuel : Nat} {cs : List Value} {x : DataW H × List MemPlace} (ht : P.underlying t = some (.array k e)) (h : DataW.trod en P w base sp held fuel t cs = some x) : cs.length = P.cellsOf t := (DataW.trod_array ht h).choose_spec.choose_spec.2.2.1
theorem open_item {t e : TypeId} {k : Nat} {fuel : Nat} {cs : List Value} {x : DataW H × List MemPlace} (ht : P.underlying t = some (.array k e)) (h : DataW.trod en P w base sp held fuel t cs = some x) (i : Nat) (hi : i < k) {n : Nat} (hn : P.cellsOf e = n) :
    ∃ fuel' y, DataW.trod en P w base sp held fuel' e ((cs.drop (i * n)).take n) = some y := by
  obtain ⟨xs, m, _, _, _, hl, hall⟩ := DataW.trod_array ht h
  have := hall i hi
  rw [hn, List.getElem?_eq_getElem (by omega)] at this
  exact ⟨m, _, this⟩
end

/-! ### what stands before is kept -/
def keepF (W : World) : Fact := fun V => ∀ b o, W.heap[b]? = some o → V b = some o
theorem vw_nil (w : World) : vw [] w = full w := by funext b; simp [vw, full]
theorem St.start (W : World) {R : List Fact} (h : ∀ φ ∈ R, Mono φ ∧ φ (full W)) : St W [] R W := by
  refine ⟨rfl, rfl, rfl, [], rfl, ⟨by simp [keys], by simp⟩, fun φ hφ => ?_⟩
  obtain ⟨hm, hv⟩ := h φ hφ
  rw [vw_nil]
  exact fun V' hl => hm _ _ hv hl
theorem Mono.keep (W : World) : Mono (keepF W) := fun _ _ h hl b o ho => hl _ _ (h b o ho)
theorem keepF_self (W : World) : keepF W (full W) := fun _ _ h => h
theorem below_of {W w' : World} {M : List Res} {R : List Fact} (h : St W M (R ++ [keepF W]) w') : Below W.heap.size W w' := by
  have hk : keepF W (full w') := h.fact (List.mem_append_right _ (by simp))
  have hb : ∀ k, k < W.heap.size → w'.heap[k]? = W.heap[k]? := fun k hk' => by
    have e : W.heap[k]? = some W.heap[k] := by simp [hk']
    rw [e]; exact hk k _ e
  refine ⟨h.os, h.tape, h.output, ?_, hb⟩
  rcases Nat.eq_zero_or_pos W.heap.size with h0 | h0
  · omega
  · have := hb (W.heap.size - 1) (by omega)
    rw [show W.heap[W.heap.size - 1]? = some W.heap[W.heap.size - 1] from by simp [h0]] at this
    have := (Array.getElem?_eq_some_iff.1 this).1
    omega
/-- The call of what a contract speaks of. -/
theorem FnV.law {P : Program} {k : FuncId} {args : List Value} {R : List Fact} {v : Value} (h : FnV P k args R v) (W : World) (hR : ∀ φ ∈ R, Mono φ ∧ φ (full W)) : Calls P k args.toArray W fun e w' => e = .returned v ∧ Below W.heap.size W w' := by
  have hs : St W [] (R ++ [keepF W]) W := St.start W (fun φ hφ => by
    rcases List.mem_append.1 hφ with h1 | h1
    · exact hR φ h1
    · have : φ = keepF W := by simpa using h1
      subst this
      exact ⟨Mono.keep W, keepF_self W⟩)
  exact (h.calls W [] [keepF W] W hs).mono fun e w' ⟨he, hw⟩ => ⟨he, below_of hw⟩

/-! ### a law's end -/
section
variable {H : Type} {en : TypeId × Value → H} {P : Program}
theorem trodAll_stays (hl : laidOutB P = true) {W W' : World} (hb : Below W.heap.size W W') : ∀ {ts : List TypeId} {vs : List Value} {ds : List (DataW H)} {ps : List MemPlace}, (ts.all fun t => P.readableRec t && Nat.blt t P.types.size) = true →
    DataW.TrodAll en P W 0 (fun _ => true) true ts vs ds ps → (∀ p ∈ ps, p.block < W.heap.size) → ∀ sp : Nat → Bool, (∀ p ∈ ps, sp p.block = true) → DataW.TrodAll en P W' 0 sp true ts vs ds ps
  | [], vs, ds, ps, _, h, _, sp, _ => by
    obtain ⟨rfl, rfl, rfl⟩ := trodAll_nil h
    exact rfl
  | t :: ts, vs, ds, ps, ht, h, hp, sp, hsp => by
    obtain ⟨v, vs', d, ds', p, q, rfl, rfl, rfl, h1, h2⟩ := trodAll_cons h
    simp only [List.all_cons, Bool.and_eq_true] at ht
    refine ⟨p, q, ?_, trodAll_stays hl hb ht.2 h2 (fun x hx => hp x (List.mem_append_right _ hx)) sp (fun x hx => hsp x (List.mem_append_right _ hx)), rfl⟩
    exact WideElems.Trod_stays hl ht.1.1 (by simpa using ht.1.2) h1 (fun x hx => hb.same (hp x (List.mem_append_left _ hx))) (fun x hx => hsp x (List.mem_append_left _ hx))
theorem post_of_below {f : Func} {s : ChangeSpec} {W W' : World} {args : Array Value} {ds gs : List (DataW H)} {before : List MemPlace} {tb : TypeId}
    (hW : DataW.Whole en P f.params.toList s.vars false W args.toList ds gs before) (hv : s.vars = []) (hl : laidOutB P = true) (hts : (f.params.toList.all fun t => P.readableRec t && Nat.blt t P.types.size) = true)
    (hr : f.resultTypes = #[tb]) (hb : P.underlying tb = some .bool) (hs : s.fn H ds = { results := [.lit (.bool true)], args := ds, vars := [] }) (hbl : Below W.heap.size W W') : s.post en P f false true false false W args (.bool true) W' := by
  have hW0 := hW
  obtain ⟨p, q, hA, hV, hpq, hz, hn⟩ := hW
  rw [hv] at hV
  obtain ⟨rfl, rfl⟩ := trodVars_none hV
  have hbe : before = p := by simpa using hpq
  subst hbe
  have hlt : ∀ x ∈ before, x.block < W.heap.size := hW0.lt
  have hargs : ∀ sp : Nat → Bool, (∀ x ∈ before, sp x.block = true) → DataW.TrodAll en P W' 0 sp true f.params.toList args.toList ds before := fun sp hsp => trodAll_stays hl hbl hts hA hlt sp hsp
  have hres : ∀ (b : Nat) (sp : Nat → Bool) (hd : Bool), DataW.TrodAll en P W' b sp hd f.resultTypes.toList ((Value.bool true).resultList f.resultTypes.size) [.lit (.bool true)] [] := by
    intro b sp hd
    rw [hr]
    exact trodAll_mk1 (shut_bool hb true)
  have hs' : s.fn H (ds ++ []) = { results := [.lit (.bool true)], args := ds, vars := [] } := by rw [List.append_nil]; exact hs
  have hold : ∀ x ∈ before, (fun b => decide (b < W.heap.size)) x.block = true := fun x hx => by simpa using hlt x hx
  have hargs' : ∀ sp : Nat → Bool, (∀ x ∈ before, sp x.block = true) → DataW.TrodAll en P W' 0 sp true f.params.toList args.toList (s.fn H (ds ++ [])).args before := by rw [hs']; exact hargs
  have hres' : ∀ (b : Nat) (sp : Nat → Bool) (hd : Bool), DataW.TrodAll en P W' b sp hd f.resultTypes.toList ((Value.bool true).resultList f.resultTypes.size) (s.fn H (ds ++ [])).results [] := by rw [hs']; exact hres
  have hvars' : ∀ sp : Nat → Bool, DataW.TrodVars en P W' sp s.vars (s.fn H (ds ++ [])).vars [] := by intro sp; rw [hs', hv]; rfl
  refine ⟨ds, [], before, [], before, [], hW0, hres' _ _ _, hargs' _ hold, hvars' _, hbl.frame _, fun _ => ?_⟩
  refine ⟨ok_one hr rfl (okWide_bool_mk hb true), _, _, ([] ++ before) ++ [], ⟨[] ++ before, [], trodAll_append (hargs' _ (fun _ _ => rfl)) (hres' _ _ _), hvars' _, rfl, ?_, ?_⟩, ?_⟩
  · intro b off hp
    rw [hbl.frozen (hlt _ (by simpa using hp))]
    exact hz b off (by simpa using hp)
  · intro ha; cases ha
  · intro x hx _
    simpa using hx
end
end Go.G


namespace Go.Proofs.Ytienjlmnakbfmaa
open Go.G Foot4
set_option maxRecDepth 1000000
section
variable {H : Type} {en : TypeId × Value → H} {w : World} {base : Nat} {sp : Nat → Bool} {held : Bool} {fuel : Nat} {cs : List Value} {x : DataW H × List MemPlace}
theorem cells22 : Try.prog.cellsOf 22 = 1 := by kernel_rfl
theorem cells23 : Try.prog.cellsOf 23 = 3 := by kernel_rfl
theorem cells24 : Try.prog.cellsOf 24 = 1 := by kernel_rfl
theorem cells26 : Try.prog.cellsOf 26 = 9 := by kernel_rfl
theorem cells31 : Try.prog.cellsOf 31 = 2 := by kernel_rfl
theorem cells73 : Try.prog.cellsOf 73 = 3 := by kernel_rfl
theorem cellsI : Try.prog.cellsOf 3 = 1 := by kernel_rfl
theorem open3 (h : DataW.trod en Try.prog w base sp held fuel 3 cs = some x) : ∃ n, cs = [i64 n] := by
  obtain ⟨n, h1, _⟩ := open_i Try.underlying3 h
  exact ⟨n, h1⟩
theorem list2 {cs : List Value} (h : cs.length = 2) : ∃ a b, cs = [a, b] := by
  match cs, h with
  | [a, b], _ => exact ⟨a, b, rfl⟩
theorem list3 {cs : List Value} (h : cs.length = 3) : ∃ a b c, cs = [a, b, c] := by
  match cs, h with
  | [a, b, c], _ => exact ⟨a, b, c, rfl⟩
theorem list9 {cs : List Value} (h : cs.length = 9) : ∃ a b c d e f g i j, cs = [a, b, c, d, e, f, g, i, j] := by
  match cs, h with
  | [a, b, c, d, e, f, g, i, j], _ => exact ⟨a, b, c, d, e, f, g, i, j, rfl⟩
theorem open31 (h : DataW.trod en Try.prog w base sp held fuel 31 cs = some x) : ∃ s : Span, cs = encS s ∧ True := by
  obtain ⟨a, b, rfl⟩ := list2 ((open_len Try.underlying31 h).trans cells31)
  obtain ⟨_, _, h0⟩ := open_field Try.underlying31 h 0 rfl cellsI
  obtain ⟨_, _, h1⟩ := open_field Try.underlying31 h 1 rfl cellsI
  obtain ⟨n, e0⟩ := open3 h0
  obtain ⟨m, e1⟩ := open3 h1
  have e0' : [a] = [i64 n] := e0
  have e1' : [b] = [i64 m] := e1
  cases e0'; cases e1'
  exact ⟨⟨n, m⟩, rfl, trivial⟩
theorem open3a {t : TypeId} {e : TypeInfo} (ht : Try.prog.underlying t = some (.array 3 3)) (hc : Try.prog.cellsOf t = 3) (h : DataW.trod en Try.prog w base sp held fuel t cs = some x) : ∃ s : T3, cs = encT s ∧ True := by
  obtain ⟨a, b, c, rfl⟩ := list3 ((open_lenA ht h).trans hc)
  obtain ⟨_, _, h0⟩ := open_item ht h 0 (by omega) cellsI
  obtain ⟨_, _, h1⟩ := open_item ht h 1 (by omega) cellsI
  obtain ⟨_, _, h2⟩ := open_item ht h 2 (by omega) cellsI
  obtain ⟨n, e0⟩ := open3 h0
  obtain ⟨m, e1⟩ := open3 h1
  obtain ⟨k, e2⟩ := open3 h2
  have e0' : [a] = [i64 n] := e0
  have e1' : [b] = [i64 m] := e1
  have e2' : [c] = [i64 k] := e2
  cases e0'; cases e1'; cases e2'
  exact ⟨⟨n, m, k⟩, rfl, trivial⟩
theorem open73 (h : DataW.trod en Try.prog w base sp held fuel 73 cs = some x) : ∃ s : Foot4.Heap, cs = encH s ∧ True := by
  obtain ⟨a, b, c, rfl⟩ := list3 ((open_len Try.underlying73 h).trans cells73)
  obtain ⟨_, _, h0⟩ := open_field Try.underlying73 h 0 rfl cells31
  obtain ⟨_, _, h1⟩ := open_field Try.underlying73 h 1 rfl cellsI
  obtain ⟨s, e0, _⟩ := open31 h0
  obtain ⟨n, e1⟩ := open3 h1
  have e0' : [a, b] = [i64 s.lo, i64 s.hi] := e0
  have e1' : [c] = [i64 n] := e1
  cases e0'; cases e1'
  exact ⟨⟨s.lo, s.hi, n⟩, rfl, trivial⟩
theorem open26 (h : DataW.trod en Try.prog w base sp held fuel 26 cs = some x) : ∃ F ro rc ho hc, cs = cellsF F ro rc ho hc ∧ rowD ro 2 encS F.rain (full w) ∧ rowD ho 3 encH F.heaps (full w) := by
  obtain ⟨a, b, c, d, e, f, g, i, j, rfl⟩ := list9 ((open_len Try.underlying26 h).trans cells26)
  obtain ⟨_, _, h0⟩ := open_field Try.underlying26 h 0 rfl cells22
  obtain ⟨_, _, h1⟩ := open_field Try.underlying26 h 1 rfl cellsI
  obtain ⟨_, _, h2⟩ := open_field Try.underlying26 h 2 rfl cells23
  obtain ⟨_, _, h3⟩ := open_field Try.underlying26 h 3 rfl cells23
  obtain ⟨_, _, h4⟩ := open_field Try.underlying26 h 4 rfl cells24
  obtain ⟨ro, rc, rain, e0, r0, _, _⟩ := open_rowD (fun _ : Span => True) Try.underlying22 cells31 (by omega) (fun _ _ _ h => open31 h) h0
  obtain ⟨men, e1⟩ := open3 h1
  obtain ⟨lim, e2, _⟩ := open3a (e := Try.t23) Try.underlying23 cells23 h2
  obtain ⟨dr, e3, _⟩ := open3a (e := Try.t23) Try.underlying23 cells23 h3
  obtain ⟨ho, hc, heaps, e4, r4, _, _⟩ := open_rowD (fun _ : Foot4.Heap => True) Try.underlying24 cells73 (by omega) (fun _ _ _ h => open73 h) h4
  have e0' : [a] = [.slice ro rain.length rc] := e0
  have e1' : [b] = [i64 men] := e1
  have e2' : [c, d, e] = [i64 lim.a, i64 lim.b, i64 lim.c] := e2
  have e3' : [f, g, i] = [i64 dr.a, i64 dr.b, i64 dr.c] := e3
  have e4' : [j] = [.slice ho heaps.length hc] := e4
  cases e0'; cases e1'; cases e2'; cases e3'; cases e4'
  exact ⟨⟨rain, men, lim, dr, heaps⟩, ro, rc, ho, hc, rfl, r0, r4⟩
end
section
variable {H : Type} {en : TypeId × Value → H} {w : World} {base b0 : Nat} {r : Reach} {sp : Nat → Bool} {held : Bool} {v : Value} {d : DataW H} {ps : List MemPlace}
theorem agg_of {t : TypeId} {dd : TypeDesc} (hd : Try.prog.underlying t = some dd) (ha : aggD dd = true) (hv : Value.okWide Try.prog w r b0 t v) : ∃ cs : List Value, v = .agg cs.toArray := by
  unfold Value.okWide at hv
  rw [hd] at hv
  cases dd <;> simp [aggD] at ha
  all_goals
    obtain ⟨cs, rfl, _⟩ := hv
    exact ⟨cs.toList, by simp⟩
theorem get26 (hv : Value.okWide Try.prog w r b0 26 v) (h : DataW.Trod en Try.prog w base sp held 26 v d ps) : ∃ F ro rc ho hc, v = valF F ro rc ho hc ∧ rowD ro 2 encS F.rain (full w) ∧ rowD ho 3 encH F.heaps (full w) := by
  obtain ⟨cs, rfl⟩ := agg_of Try.underlying26 rfl hv
  obtain ⟨fuel, h⟩ := h
  obtain ⟨F, ro, rc, ho, hc, e, h1, h2⟩ := open26 (cs := cs) h
  subst e
  exact ⟨F, ro, rc, ho, hc, rfl, h1, h2⟩
end
theorem own0 : ownKnob Try.prog.godebug = none := by kernel_rfl
theorem monoF {W : World} {F : Work} {ro ho : Option Addr} (h1 : rowD ro 2 encS F.rain (full W)) (h2 : rowD ho 3 encH F.heaps (full W)) : ∀ φ ∈ [rowD ro 2 encS F.rain, rowD ho 3 encH F.heaps], Mono φ ∧ φ (full W) := by
  intro φ hφ
  simp only [List.mem_cons, List.not_mem_nil, or_false] at hφ
  rcases hφ with rfl | rfl
  · exact ⟨Mono.row _ _ _ _, h1⟩
  · exact ⟨Mono.row _ _ _ _, h2⟩
theorem monoR {W : World} {α : Type} {oa : Option Addr} {sz : Nat} {enc : α → List Value} {xs : List α} {R : List Fact} (h : rowD oa sz enc xs (full W)) (hR : ∀ φ ∈ R, Mono φ ∧ φ (full W)) : ∀ φ ∈ rowD oa sz enc xs :: R, Mono φ ∧ φ (full W) := by
  intro φ hφ
  rcases List.mem_cons.1 hφ with rfl | hφ
  · exact ⟨Mono.row _ _ _ _, h⟩
  · exact hR φ hφ
end Go.Proofs.Ytienjlmnakbfmaa


namespace Go.Proofs.Ytienjlmnakbfmaa
open Go.G Foot4
theorem int16 {x : Int} (h : (Lit.int .u16 x).wf = true) : 0 ≤ x ∧ x ≤ 65535 := by
  have m1 : IntKind.u16.min = 0 := rfl
  have m2 : IntKind.u16.max = 65535 := rfl
  simp only [Lit.wf, m1, m2, Bool.and_eq_true, decide_eq_true_eq] at h
  exact h
set_option maxRecDepth 1000000
theorem cells49 : Try.prog.cellsOf 49 = 1 := by kernel_rfl
section
variable {H : Type} {en : TypeId × Value → H} {w : World} {base b0 : Nat} {r : Reach} {sp : Nat → Bool} {held : Bool} {v : Value} {d : DataW H} {ps : List MemPlace}
theorem get50 (hv : Value.okWide Try.prog w r b0 50 v) (h : DataW.Trod en Try.prog w base sp held 50 v d ps) : ∃ (ba : Option Addr) (bc : Nat) (bys : List Int), v = .slice ba bys.length bc ∧ rowD ba 1 encU bys (full w) ∧ U16s bys ∧ bys.length ≤ 9223372036854775807 := by
  obtain ⟨fuel, h⟩ := h
  obtain ⟨lo, lc, l, e, h1, h2, h3⟩ := open_rowD (enc := encU) (fun x : Int => 0 ≤ x ∧ x ≤ 65535) Try.underlying50 cells49 (by omega) (fun _ _ _ h => by
    obtain ⟨n, h1, h2⟩ := open_i Try.underlying49 h
    exact ⟨n, h1, int16 h2⟩) h
  refine ⟨lo, lc, l, ?_, h1, h2, h3⟩
  cases v <;> simp_all [Value.cells]
  unfold Value.okWide at hv
  rw [Try.underlying50] at hv
  simp [Cell.okWide, Cell.ok, Try.underlying50] at hv
end
end Go.Proofs.Ytienjlmnakbfmaa

