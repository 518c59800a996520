/- Part 3 of 5 of what the proofs of this seat stand on: a small logic for walks, what the functions come to, and the walks themselves. No condition of its own. -/
import Derived.Test.YtpndeonmmcaikaaL2
import Derived.Test.YtpndeonmmcaikaaL1
import Derived.WideKeyEntry
set_option linter.unusedVariables false
set_option linter.unusedSimpArgs false
set_option linter.unusedSectionVars false
namespace Go.Proofs.Ytpndeonmmcaikaa.SodW
open Go.G Foot4 Sod2
set_option maxRecDepth 1000000
attribute [local irreducible] G.ParO G.Fin
variable (B : Bank) (po so lo : Option Addr) (pc sc lc : Nat)
variable (fb mb : Nat)
set_option maxHeartbeats 4000000 in
theorem within_v (a b c : Int) : FnV Try.prog 47 [i64 a, i64 b, i64 c] [] (.bool (decide (b ≤ a ∧ a ≤ c))) := by
 refine FnV.intro Try.call47 Try.func47 rfl Try.ntmps47 rfl ?_
 intro W M Rf
 refine r_seq ?_
 refine r_region ?_
 refine o_q _ rfl rfl rfl (v_assign rfl rfl) ?_
 refine o_nil ?_
 repeat (first | with_reducible refine r_then ?_ | with_reducible refine r_in_normal ?_ | with_reducible refine r_sc_normal ?_)
 refine r_seq ?_
 refine r_region ?_
 refine o_q _ rfl rfl rfl (v_move rfl rfl) ?_
 refine o_q _ rfl rfl rfl (v_move rfl rfl) ?_
 first | refine o_q _ rfl rfl rfl (v_true (v_leq rfl rfl rfl) (by omega)) ?_ | refine o_q _ rfl rfl rfl (v_false (v_leq rfl rfl rfl) (by omega)) ?_ | refine o_test rfl rfl rfl (v_leq rfl rfl rfl) (fun h9 => ?_) (fun h9 => ?_)
 all_goals
  refine o_q _ rfl rfl rfl (v_move rfl rfl) ?_
  first | refine o_gn rfl rfl rfl rfl ?_ | refine o_g _ rfl rfl rfl rfl (v_move rfl rfl) ?_
  first | refine o_gn rfl rfl rfl rfl ?_ | refine o_g _ rfl rfl rfl rfl (v_move rfl rfl) ?_
  first | refine o_gn rfl rfl rfl rfl ?_ | refine o_g _ rfl rfl rfl rfl (v_true (v_leq rfl rfl rfl) (by omega)) ?_ | refine o_g _ rfl rfl rfl rfl (v_false (v_leq rfl rfl rfl) (by omega)) ?_ | refine o_gtest rfl rfl rfl rfl (v_leq rfl rfl rfl) (fun h13 => ?_) (fun h13 => ?_)
  all_goals
   first | refine o_q _ rfl rfl rfl (v_pick_t rfl rfl rfl) ?_ | refine o_q _ rfl rfl rfl (v_pick_f rfl rfl rfl) ?_
   refine o_q _ rfl rfl rfl (v_assign rfl rfl) ?_
   refine o_nil ?_
   repeat (first | with_reducible refine r_then ?_ | with_reducible refine r_in_normal ?_ | with_reducible refine r_sc_normal ?_)
   refine r_ret ?_
   repeat (first | with_reducible refine r_then_ret ?_ | with_reducible refine r_in_ret ?_ | with_reducible refine r_sc_ret ?_)
   first | exact r_retv2 (Rd.tmp rfl rfl) rfl SelMC.sel SubRC.sub | exact r_retv2 (Rd.tmp rfl rfl) (congrArg Value.bool (decide_eq_true (by omega)).symm) SelMC.sel SubRC.sub | exact r_retv2 (Rd.tmp rfl rfl) (congrArg Value.bool (decide_eq_false (by omega)).symm) SelMC.sel SubRC.sub
set_option maxHeartbeats 4000000 in
theorem isSpan_v (lo hi a b : Int) : FnV Try.prog 48 [.agg #[i64 lo, i64 hi], i64 a, i64 b] [] (.bool (decide (a ≤ lo ∧ lo ≤ hi ∧ hi ≤ b))) := by
 refine FnV.intro Try.call48 Try.func48 rfl Try.ntmps48 rfl ?_
 intro W M Rf
 refine r_seq ?_
 refine r_region ?_
 refine o_boxA rfl rfl rfl rfl rfl (fun b3 => ?_)
 refine o_q _ rfl rfl rfl (v_assign rfl rfl) ?_
 refine o_nil ?_
 repeat (first | with_reducible refine r_then ?_ | with_reducible refine r_in_normal ?_ | with_reducible refine r_sc_normal ?_)
 refine r_seq ?_
 refine r_region ?_
 refine o_q _ rfl rfl rfl (v_move rfl rfl) ?_
 first | refine o_q _ rfl rfl rfl (v_fieldAddr rfl Try.underlying42 inf3 rfl rfl rfl rfl) ?_ | refine o_q _ rfl rfl rfl (v_fieldAddrE rfl Try.underlying42 inf3 rfl rfl rfl rfl) ?_
 first | refine o_q _ rfl rfl rfl (v_ld1 rfl Try.underlying3 rfl rfl rfl) ?_ | refine o_q _ rfl rfl rfl (v_lf1 rfl Try.underlying3 rfl rfl rfl) ?_ | refine o_q _ rfl rfl rfl (v_loadE1 rfl Try.underlying3 rfl rfl (by omega) rfl rfl) ?_
 first | refine o_q _ rfl rfl rfl (v_true (v_leq rfl rfl rfl) (by omega)) ?_ | refine o_q _ rfl rfl rfl (v_false (v_leq rfl rfl rfl) (by omega)) ?_ | refine o_test rfl rfl rfl (v_leq rfl rfl rfl) (fun h10 => ?_) (fun h10 => ?_)
 all_goals
  refine o_q _ rfl rfl rfl (v_move rfl rfl) ?_
  first | refine o_gn rfl rfl rfl rfl ?_ | refine o_g _ rfl rfl rfl rfl (v_fieldAddr rfl Try.underlying42 inf3 rfl rfl rfl rfl) ?_ | refine o_g _ rfl rfl rfl rfl (v_fieldAddrE rfl Try.underlying42 inf3 rfl rfl rfl rfl) ?_
  first | refine o_gn rfl rfl rfl rfl ?_ | refine o_g _ rfl rfl rfl rfl (v_ld1 rfl Try.underlying3 rfl rfl rfl) ?_ | refine o_g _ rfl rfl rfl rfl (v_lf1 rfl Try.underlying3 rfl rfl rfl) ?_ | refine o_g _ rfl rfl rfl rfl (v_loadE1 rfl Try.underlying3 rfl rfl (by omega) rfl rfl) ?_
  first | refine o_gn rfl rfl rfl rfl ?_ | refine o_g _ rfl rfl rfl rfl (v_fieldAddr rfl Try.underlying42 inf3 rfl rfl rfl rfl) ?_ | refine o_g _ rfl rfl rfl rfl (v_fieldAddrE rfl Try.underlying42 inf3 rfl rfl rfl rfl) ?_
  first | refine o_gn rfl rfl rfl rfl ?_ | refine o_g _ rfl rfl rfl rfl (v_ld1 rfl Try.underlying3 rfl rfl rfl) ?_ | refine o_g _ rfl rfl rfl rfl (v_lf1 rfl Try.underlying3 rfl rfl rfl) ?_ | refine o_g _ rfl rfl rfl rfl (v_loadE1 rfl Try.underlying3 rfl rfl (by omega) rfl rfl) ?_
  first | refine o_gn rfl rfl rfl rfl ?_ | refine o_g _ rfl rfl rfl rfl (v_true (v_leq rfl rfl rfl) (by omega)) ?_ | refine o_g _ rfl rfl rfl rfl (v_false (v_leq rfl rfl rfl) (by omega)) ?_ | refine o_gtest rfl rfl rfl rfl (v_leq rfl rfl rfl) (fun h16 => ?_) (fun h16 => ?_)
  all_goals
   first | refine o_q _ rfl rfl rfl (v_pick_t rfl rfl rfl) ?_ | refine o_q _ rfl rfl rfl (v_pick_f rfl rfl rfl) ?_
   refine o_q _ rfl rfl rfl (v_move rfl rfl) ?_
   first | refine o_gn rfl rfl rfl rfl ?_ | refine o_g _ rfl rfl rfl rfl (v_fieldAddr rfl Try.underlying42 inf3 rfl rfl rfl rfl) ?_ | refine o_g _ rfl rfl rfl rfl (v_fieldAddrE rfl Try.underlying42 inf3 rfl rfl rfl rfl) ?_
   first | refine o_gn rfl rfl rfl rfl ?_ | refine o_g _ rfl rfl rfl rfl (v_ld1 rfl Try.underlying3 rfl rfl rfl) ?_ | refine o_g _ rfl rfl rfl rfl (v_lf1 rfl Try.underlying3 rfl rfl rfl) ?_ | refine o_g _ rfl rfl rfl rfl (v_loadE1 rfl Try.underlying3 rfl rfl (by omega) rfl rfl) ?_
   first | refine o_gn rfl rfl rfl rfl ?_ | refine o_g _ rfl rfl rfl rfl (v_move rfl rfl) ?_
   first | refine o_gn rfl rfl rfl rfl ?_ | refine o_g _ rfl rfl rfl rfl (v_true (v_leq rfl rfl rfl) (by omega)) ?_ | refine o_g _ rfl rfl rfl rfl (v_false (v_leq rfl rfl rfl) (by omega)) ?_ | refine o_gtest rfl rfl rfl rfl (v_leq rfl rfl rfl) (fun h22 => ?_) (fun h22 => ?_)
   all_goals
    first | refine o_q _ rfl rfl rfl (v_pick_t rfl rfl rfl) ?_ | refine o_q _ rfl rfl rfl (v_pick_f rfl rfl rfl) ?_
    refine o_q _ rfl rfl rfl (v_assign rfl rfl) ?_
    refine o_nil ?_
    repeat (first | with_reducible refine r_then ?_ | with_reducible refine r_in_normal ?_ | with_reducible refine r_sc_normal ?_)
    refine r_ret ?_
    repeat (first | with_reducible refine r_then_ret ?_ | with_reducible refine r_in_ret ?_ | with_reducible refine r_sc_ret ?_)
    first | exact r_retv2 (Rd.tmp rfl rfl) rfl SelMC.sel SubRC.sub | exact r_retv2 (Rd.tmp rfl rfl) (congrArg Value.bool (decide_eq_true (by omega)).symm) SelMC.sel SubRC.sub | exact r_retv2 (Rd.tmp rfl rfl) (congrArg Value.bool (decide_eq_false (by omega)).symm) SelMC.sel SubRC.sub
set_option maxHeartbeats 4000000 in
theorem ask_t (e : Int) : FnV Try.prog 46 [.bool true, i64 e] [] (.tuple #[]) := by
 refine FnV.intro Try.call46 Try.func46 rfl Try.ntmps46 rfl ?_
 intro W M Rf
 refine r_seq ?_
 refine r_region ?_
 refine o_q _ rfl rfl rfl (v_move rfl rfl) ?_
 refine o_q _ rfl rfl rfl (v_not rfl rfl) ?_
 refine o_nil ?_
 repeat (first | with_reducible refine r_then ?_ | with_reducible refine r_in_normal ?_ | with_reducible refine r_sc_normal ?_)
 first | refine r_condd rfl (fun hc5 => ?_) (fun hc5 => ?_) | refine r_cond rfl (fun hc5 => ?_) (fun hc5 => ?_)
 ·
  first
  | (exfalso; revert hc5; decide)
  | (exfalso; omega)
  |
   skip
   refine r_region ?_
   refine o_q _ rfl rfl rfl (v_move rfl rfl) ?_
   refine o_q _ rfl rfl rfl (v_makeIface rfl Try.underlying104 rfl rfl) ?_
   refine o_panic rfl rfl rfl ?_
   repeat (first | with_reducible refine r_then_panic ?_ | with_reducible refine r_in_panic ?_ | with_reducible refine r_sc_panic ?_)
   skip
 ·
  first
  | (exfalso; revert hc5; decide)
  | (exfalso; omega)
  |
   skip
   refine r_skip ?_
   repeat (first | with_reducible refine r_then ?_ | with_reducible refine r_in_normal ?_ | with_reducible refine r_sc_normal ?_)
   exact r_endv (Rd.none rfl) SelMC.sel SubRC.sub
set_option maxHeartbeats 4000000 in
theorem ask_f (e : Int) : FnX Try.prog 46 [.bool false, i64 e] [] (.iface 104 (i64 e)) := by
 refine FnX.intro Try.call46 Try.func46 rfl Try.ntmps46 rfl ?_
 intro W M Rf
 refine r_seq ?_
 refine r_region ?_
 refine o_q _ rfl rfl rfl (v_move rfl rfl) ?_
 refine o_q _ rfl rfl rfl (v_not rfl rfl) ?_
 refine o_nil ?_
 repeat (first | with_reducible refine r_then ?_ | with_reducible refine r_in_normal ?_ | with_reducible refine r_sc_normal ?_)
 first | refine r_condd rfl (fun hc5 => ?_) (fun hc5 => ?_) | refine r_cond rfl (fun hc5 => ?_) (fun hc5 => ?_)
 ·
  first
  | (exfalso; revert hc5; decide)
  | (exfalso; omega)
  |
   skip
   refine r_region ?_
   refine o_q _ rfl rfl rfl (v_move rfl rfl) ?_
   refine o_q _ rfl rfl rfl (v_makeIface rfl Try.underlying104 rfl rfl) ?_
   refine o_panic rfl rfl rfl ?_
   repeat (first | with_reducible refine r_then_panic ?_ | with_reducible refine r_in_panic ?_ | with_reducible refine r_sc_panic ?_)
   exact r_retx SelMC.sel SubRC.sub
 ·
  first
  | (exfalso; revert hc5; decide)
  | (exfalso; omega)
  |
   skip
   refine r_skip ?_
   repeat (first | with_reducible refine r_then ?_ | with_reducible refine r_in_normal ?_ | with_reducible refine r_sc_normal ?_)
   skip
set_option maxHeartbeats 4000000 in
theorem open1_v (lo hi : Int) : FnV Try.prog 50 [.agg #[i64 lo, i64 hi]] [] (.bool (decide (¬ (0 ≤ lo ∧ lo ≤ hi ∧ hi ≤ 100)))) := by
 refine FnV.intro Try.call50 Try.func50 rfl Try.ntmps50 rfl ?_
 intro W M Rf
 refine r_seq ?_
 refine r_region ?_
 refine o_boxA rfl rfl rfl rfl rfl (fun b1 => ?_)
 refine o_q _ rfl rfl rfl (v_assign rfl rfl) ?_
 refine o_nil ?_
 repeat (first | with_reducible refine r_then ?_ | with_reducible refine r_in_normal ?_ | with_reducible refine r_sc_normal ?_)
 refine r_seq ?_
 refine r_region ?_
 first | refine o_q _ rfl rfl rfl (v_ldW rfl Try.underlying42 rfl inf42 rfl rfl) ?_ | refine o_q _ rfl rfl rfl (v_lfW rfl Try.underlying42 rfl inf42 rfl rfl) ?_ | refine o_q _ rfl rfl rfl (v_lfN rfl Try.underlying42 rfl inf42 rfl rfl rfl) ?_ | refine o_q _ rfl rfl rfl (v_ldN rfl Try.underlying42 rfl inf42 rfl rfl rfl) ?_ | refine o_q _ rfl rfl rfl (v_loadEN rfl Try.underlying42 rfl inf42 rfl (by omega) rfl rfl rfl) ?_
 refine o_q _ rfl rfl rfl (OpQ.fn (isSpan_v _ _ _ _) rfl rfl SubRC.sub) ?_
 refine o_q _ rfl rfl rfl (v_not rfl rfl) ?_
 refine o_q _ rfl rfl rfl (v_assign rfl rfl) ?_
 refine o_nil ?_
 repeat (first | with_reducible refine r_then ?_ | with_reducible refine r_in_normal ?_ | with_reducible refine r_sc_normal ?_)
 refine r_ret ?_
 repeat (first | with_reducible refine r_then_ret ?_ | with_reducible refine r_in_ret ?_ | with_reducible refine r_sc_ret ?_)
 exact r_retv2 (Rd.tmp rfl rfl) (congrArg Value.bool (decide_not (p := 0 ≤ lo ∧ lo ≤ hi ∧ hi ≤ 100)).symm) SelMC.sel SubRC.sub
set_option maxHeartbeats 4000000 in
theorem isCount_v (lo hi : Int) : FnV Try.prog 51 [.agg #[i64 lo, i64 hi]] [] (.bool (decide (0 ≤ lo ∧ lo ≤ hi ∧ hi ≤ 200))) := by
 refine FnV.intro Try.call51 Try.func51 rfl Try.ntmps51 rfl ?_
 intro W M Rf
 refine r_seq ?_
 refine r_region ?_
 refine o_boxA rfl rfl rfl rfl rfl (fun b1 => ?_)
 refine o_q _ rfl rfl rfl (v_assign rfl rfl) ?_
 refine o_nil ?_
 repeat (first | with_reducible refine r_then ?_ | with_reducible refine r_in_normal ?_ | with_reducible refine r_sc_normal ?_)
 refine r_seq ?_
 refine r_region ?_
 first | refine o_q _ rfl rfl rfl (v_ldW rfl Try.underlying42 rfl inf42 rfl rfl) ?_ | refine o_q _ rfl rfl rfl (v_lfW rfl Try.underlying42 rfl inf42 rfl rfl) ?_ | refine o_q _ rfl rfl rfl (v_lfN rfl Try.underlying42 rfl inf42 rfl rfl rfl) ?_ | refine o_q _ rfl rfl rfl (v_ldN rfl Try.underlying42 rfl inf42 rfl rfl rfl) ?_ | refine o_q _ rfl rfl rfl (v_loadEN rfl Try.underlying42 rfl inf42 rfl (by omega) rfl rfl rfl) ?_
 refine o_q _ rfl rfl rfl (OpQ.fn (isSpan_v _ _ _ _) rfl rfl SubRC.sub) ?_
 refine o_q _ rfl rfl rfl (v_assign rfl rfl) ?_
 refine o_nil ?_
 repeat (first | with_reducible refine r_then ?_ | with_reducible refine r_in_normal ?_ | with_reducible refine r_sc_normal ?_)
 refine r_ret ?_
 repeat (first | with_reducible refine r_then_ret ?_ | with_reducible refine r_in_ret ?_ | with_reducible refine r_sc_ret ?_)
 first | exact r_retv2 (Rd.tmp rfl rfl) rfl SelMC.sel SubRC.sub | exact r_retv2 (Rd.tmp rfl rfl) (congrArg Value.bool (decide_eq_true (by omega)).symm) SelMC.sel SubRC.sub | exact r_retv2 (Rd.tmp rfl rfl) (congrArg Value.bool (decide_eq_false (by omega)).symm) SelMC.sel SubRC.sub
set_option maxHeartbeats 4000000 in
theorem isDay_v (x : Int) (hl2 : B.days.length ≤ 40) : FnV Try.prog 30 [pt fb 0, i64 x] [boxF fb 110 [.slice po B.spits.length pc, .slice so B.days.length sc, .slice lo B.logs.length lc, .map (some mb)], rowD po 3 encSp B.spits, rowD so 2 encS B.days, rowD lo 3 encLg B.logs] (.bool (decide (0 ≤ x ∧ x ≤ (B.days.length : Int) - 1))) := by
 refine FnV.intro Try.call30 Try.func30 rfl Try.ntmps30 rfl ?_
 intro W M Rf
 refine r_seq ?_
 refine r_region ?_
 refine o_q _ rfl rfl rfl (v_assign rfl rfl) ?_
 refine o_nil ?_
 repeat (first | with_reducible refine r_then ?_ | with_reducible refine r_in_normal ?_ | with_reducible refine r_sc_normal ?_)
 refine r_seq ?_
 refine r_region ?_
 refine o_q _ rfl rfl rfl (v_move rfl rfl) ?_
 refine o_q _ rfl rfl rfl (v_move rfl rfl) ?_
 refine o_q _ rfl rfl rfl (v_nilCheck rfl rfl) ?_
 first | refine o_q _ rfl rfl rfl (v_fieldAddr rfl Try.underlying110 inf37 rfl rfl rfl rfl) ?_ | refine o_q _ rfl rfl rfl (v_fieldAddrE rfl Try.underlying110 inf37 rfl rfl rfl rfl) ?_
 first | refine o_q _ rfl rfl rfl (v_fieldAddr rfl Try.underlying37 inf22 rfl rfl rfl rfl) ?_ | refine o_q _ rfl rfl rfl (v_fieldAddrE rfl Try.underlying37 inf22 rfl rfl rfl rfl) ?_
 first | refine o_q _ rfl rfl rfl (v_ld1 rfl Try.underlying22 rfl rfl rfl) ?_ | refine o_q _ rfl rfl rfl (v_lf1 rfl Try.underlying22 rfl rfl rfl) ?_ | refine o_q _ rfl rfl rfl (v_loadE1 rfl Try.underlying22 rfl rfl (by omega) rfl rfl) ?_
 refine o_q _ rfl rfl rfl (v_len rfl rfl Try.underlying22 rfl) ?_
 refine o_q _ rfl rfl rfl (v_sub rfl rfl rfl (by omega)) ?_
 refine o_q _ rfl rfl rfl (OpQ.fn (within_v _ _ _) rfl rfl SubRC.sub) ?_
 refine o_q _ rfl rfl rfl (v_assign rfl rfl) ?_
 refine o_nil ?_
 repeat (first | with_reducible refine r_then ?_ | with_reducible refine r_in_normal ?_ | with_reducible refine r_sc_normal ?_)
 refine r_ret ?_
 repeat (first | with_reducible refine r_then_ret ?_ | with_reducible refine r_in_ret ?_ | with_reducible refine r_sc_ret ?_)
 first | exact r_retv2 (Rd.tmp rfl rfl) rfl SelMC.sel SubRC.sub | exact r_retv2 (Rd.tmp rfl rfl) (congrArg Value.bool (decide_eq_true (by omega)).symm) SelMC.sel SubRC.sub | exact r_retv2 (Rd.tmp rfl rfl) (congrArg Value.bool (decide_eq_false (by omega)).symm) SelMC.sel SubRC.sub
set_option maxHeartbeats 4000000 in
theorem strokes_v (c : T3) (s : Int) (hg : GoodS B) (hc : InC c) (hs : 0 ≤ s ∧ s ≤ 100000) : FnV Try.prog 103 [pt fb 0, v3 c, i64 s] [boxF fb 110 [.slice po B.spits.length pc, .slice so B.days.length sc, .slice lo B.logs.length lc, .map (some mb)], rowD po 3 encSp B.spits, rowD so 2 encS B.days, rowD lo 3 encLg B.logs] (i64 (strokes B c s)) := by
 refine FnV.intro Try.call103 Try.func103 rfl Try.ntmps103 rfl ?_
 intro W M Rf
 refine r_seq ?_
 refine r_region ?_
 refine o_boxA rfl rfl rfl rfl rfl (fun b4 => ?_)
 refine o_q _ rfl rfl rfl (v_assign rfl rfl) ?_
 refine o_nil ?_
 repeat (first | with_reducible refine r_then ?_ | with_reducible refine r_in_normal ?_ | with_reducible refine r_sc_normal ?_)
 refine r_seq ?_
 refine r_seq ?_
 have h3 := hg.1
 refine r_region ?_
 refine o_q _ rfl rfl rfl (v_move rfl rfl) ?_
 refine o_q _ rfl rfl rfl (v_nilCheck rfl rfl) ?_
 first | refine o_q _ rfl rfl rfl (v_fieldAddr rfl Try.underlying110 inf37 rfl rfl rfl rfl) ?_ | refine o_q _ rfl rfl rfl (v_fieldAddrE rfl Try.underlying110 inf37 rfl rfl rfl rfl) ?_
 first | refine o_q _ rfl rfl rfl (v_fieldAddr rfl Try.underlying37 inf34 rfl rfl rfl rfl) ?_ | refine o_q _ rfl rfl rfl (v_fieldAddrE rfl Try.underlying37 inf34 rfl rfl rfl rfl) ?_
 first | refine o_q _ rfl rfl rfl (v_ld1 rfl Try.underlying34 rfl rfl rfl) ?_ | refine o_q _ rfl rfl rfl (v_lf1 rfl Try.underlying34 rfl rfl rfl) ?_ | refine o_q _ rfl rfl rfl (v_loadE1 rfl Try.underlying34 rfl rfl (by omega) rfl rfl) ?_
 refine o_q _ rfl rfl rfl (v_len rfl rfl Try.underlying34 rfl) ?_
 refine o_q _ rfl rfl rfl (v_move rfl rfl) ?_
 refine o_nil ?_
 repeat (first | with_reducible refine r_then ?_ | with_reducible refine r_in_normal ?_ | with_reducible refine r_sc_normal ?_)
 refine r_block ?_
 refine r_loop (ι := Nat) (fun k => k ≤ B.spits.length) (fun k => [(0, pt fb 0), (2, i64 (strS B c s k).2), (4, pt b4 0), (6, i64 (strS B c s k).1), (14, .slice po B.spits.length pc), (15, i64 B.spits.length), (16, i64 k)]) (fun k => bx b4 113 [i64 c.a, i64 c.b, i64 c.c] :: M) (fun k => [boxF fb 110 [.slice po B.spits.length pc, .slice so B.days.length sc, .slice lo B.logs.length lc, .map (some mb)], rowD po 3 encSp B.spits, rowD so 2 encS B.days, rowD lo 3 encLg B.logs] ++ Rf) (fun k => B.spits.length - k) 0 ?_ ?_ ?_
 ·
  exact r_here (by repeat (first | exact FSub.nil | refine FSub.cons rfl ?_)) SelMC.sel SubRC.sub
 ·
  omega
 ·
  rintro k hI0
  refine r_seq ?_
  refine r_region ?_
  refine o_q _ rfl rfl rfl (v_lss rfl rfl rfl) ?_
  refine o_nil ?_
  repeat (first | with_reducible refine r_then ?_ | with_reducible refine r_in_normal ?_ | with_reducible refine r_sc_normal ?_)
  refine r_seq ?_
  first | refine r_condd rfl (fun hc17 => ?_) (fun hc17 => ?_) | refine r_cond rfl (fun hc17 => ?_) (fun hc17 => ?_)
  ·
   first
   | (exfalso; revert hc17; decide)
   | (exfalso; omega)
   |
    skip
    refine r_skip ?_
    repeat (first | with_reducible refine r_then ?_ | with_reducible refine r_in_normal ?_ | with_reducible refine r_sc_normal ?_)
    refine r_seq ?_
    refine r_block ?_
    refine r_seq ?_
    refine r_region ?_
    refine o_q _ rfl rfl rfl (v_move rfl rfl) ?_
    first | refine o_q _ rfl rfl rfl (v_indexAddrSn rfl Try.underlying34 inf67 rfl rfl rfl (by omega) rfl) ?_ | refine o_q _ rfl rfl rfl (v_indexAddrS rfl Try.underlying34 inf67 rfl rfl rfl (by omega) (by omega) rfl) ?_
    first | refine o_q _ rfl rfl rfl (v_ldW rfl Try.underlying67 rfl inf67 rfl rfl) ?_ | refine o_q _ rfl rfl rfl (v_lfW rfl Try.underlying67 rfl inf67 rfl rfl) ?_ | refine o_q _ rfl rfl rfl (v_lfN rfl Try.underlying67 rfl inf67 rfl rfl rfl) ?_ | refine o_q _ rfl rfl rfl (v_ldN rfl Try.underlying67 rfl inf67 rfl rfl rfl) ?_ | refine o_q _ rfl rfl rfl (v_loadEN rfl Try.underlying67 rfl inf67 rfl (by omega) rfl rfl rfl) ?_
    refine o_alloc rfl inf67 rfl rfl rfl rfl rfl (fun b8 => ?_)
    refine o_q _ rfl rfl rfl (v_assign rfl rfl) ?_
    refine o_st rfl inf67 rfl rfl rfl rfl rfl rfl rfl rfl ?_
    refine o_nil ?_
    repeat (first | with_reducible refine r_then ?_ | with_reducible refine r_in_normal ?_ | with_reducible refine r_sc_normal ?_)
    refine r_seq ?_
    refine Imp.box_to b8 [i64 (B.spits.getD k default).sods, i64 (B.spits.getD k default).lo, i64 (B.spits.getD k default).hi] rfl ?_
    have h3 := hg.1
    have hsp := hg.bnd.spit k
    have hst := strS_bd hg.bnd hc hs.1 k (by omega)
    have hck := hc k (by omega)
    have hmb := mul_bd (a := min (strS B c s k).2 (B.spits.getD k default).sods) (b := c.at k) (A := 30) (by omega) (by omega) hck.1 hck.2
    refine r_region ?_
    refine o_q _ rfl rfl rfl (v_move rfl rfl) ?_
    first | refine o_q _ rfl rfl rfl (v_fieldAddr rfl Try.underlying67 inf3 rfl rfl rfl rfl) ?_ | refine o_q _ rfl rfl rfl (v_fieldAddrE rfl Try.underlying67 inf3 rfl rfl rfl rfl) ?_
    first | refine o_q _ rfl rfl rfl (v_ld1 rfl Try.underlying3 rfl rfl rfl) ?_ | refine o_q _ rfl rfl rfl (v_lf1 rfl Try.underlying3 rfl rfl rfl) ?_ | refine o_q _ rfl rfl rfl (v_loadE1 rfl Try.underlying3 rfl rfl (by omega) rfl rfl) ?_
    first | refine o_q _ rfl rfl rfl (v_min2 rfl rfl rfl) ?_ | refine o_q _ rfl rfl rfl (v_min3 rfl rfl rfl rfl) ?_
    refine o_q _ rfl rfl rfl (v_assign rfl rfl) ?_
    refine o_nil ?_
    repeat (first | with_reducible refine r_then ?_ | with_reducible refine r_in_normal ?_ | with_reducible refine r_sc_normal ?_)
    refine r_region ?_
    refine o_q _ rfl rfl rfl (v_move rfl rfl) ?_
    refine o_q _ rfl rfl rfl (v_move rfl rfl) ?_
    refine o_q _ rfl rfl rfl (v_move rfl rfl) ?_
    first | refine o_q _ rfl rfl rfl (v_fieldAddr rfl Try.underlying113 inf23 rfl rfl rfl rfl) ?_ | refine o_q _ rfl rfl rfl (v_fieldAddrE rfl Try.underlying113 inf23 rfl rfl rfl rfl) ?_
    first | refine o_q _ rfl rfl rfl (v_indexAddrAn rfl Try.underlying23 inf3 rfl rfl (by omega)) ?_ | refine o_q _ rfl rfl rfl (v_indexAddrA rfl Try.underlying23 inf3 rfl rfl (by omega)) ?_ | refine o_q _ rfl rfl rfl (v_indexAddrE rfl Try.underlying23 inf3 rfl rfl (by omega)) ?_
    refine o_q _ rfl rfl rfl (v_cast (v := i64 (c.at k)) (v_ld1 rfl Try.underlying3 rfl rfl (t3_atn (by omega))) rfl) ?_
    refine o_q _ rfl rfl rfl (v_cast (v := i64 (min (strS B c s k).2 (B.spits.getD k default).sods * c.at k)) (v_mul rfl rfl rfl (by omega)) rfl) ?_
    refine o_q _ rfl rfl rfl (v_add rfl rfl rfl (by omega)) ?_
    refine o_q _ rfl rfl rfl (v_move rfl rfl) ?_
    refine o_q _ rfl rfl rfl (v_move rfl rfl) ?_
    refine o_q _ rfl rfl rfl (v_sub rfl rfl rfl (by omega)) ?_
    refine o_q _ rfl rfl rfl (v_assign rfl rfl) ?_
    refine o_q _ rfl rfl rfl (v_assign rfl rfl) ?_
    refine o_nil ?_
    repeat (first | with_reducible refine r_then ?_ | with_reducible refine r_in_normal ?_ | with_reducible refine r_sc_normal ?_)
    refine r_region ?_
    refine o_q _ rfl rfl rfl (v_add rfl rfl rfl (by omega)) ?_
    refine o_q _ rfl rfl rfl (v_move rfl rfl) ?_
    refine o_nil ?_
    repeat (first | with_reducible refine r_then ?_ | with_reducible refine r_in_normal ?_ | with_reducible refine r_sc_normal ?_)
    refine r_next (k + 1) ?_ ?_ ?_
    ·
     exact r_here (by repeat (first | exact FSub.nil | refine FSub.cons rfl ?_)) SelMC.sel SubRC.sub
    ·
     omega
    ·
     omega
  ·
   first
   | (exfalso; revert hc17; decide)
   | (exfalso; omega)
   |
    skip
    refine r_exit ?_
    repeat (first | with_reducible refine r_then_exit ?_ | with_reducible refine r_sc_exit ?_ | with_reducible refine r_in_here ?_ | (with_reducible refine r_in_past (by decide) ?_) | with_reducible refine r_then ?_ | with_reducible refine r_in_normal ?_ | with_reducible refine r_sc_normal ?_)
    refine r_seq ?_
    refine r_seq ?_
    refine r_region ?_
    refine o_q _ rfl rfl rfl (v_move rfl rfl) ?_
    refine o_q _ rfl rfl rfl (v_gtr rfl rfl rfl) ?_
    refine o_nil ?_
    repeat (first | with_reducible refine r_then ?_ | with_reducible refine r_in_normal ?_ | with_reducible refine r_sc_normal ?_)
    first | refine r_condd rfl (fun hc38 => ?_) (fun hc38 => ?_) | refine r_cond rfl (fun hc38 => ?_) (fun hc38 => ?_)
    ·
     first
     | (exfalso; revert hc38; decide)
     | (exfalso; omega)
     |
      skip
      refine r_seq ?_
      refine r_region ?_
      refine o_q _ rfl rfl rfl (v_assign rfl rfl) ?_
      refine o_nil ?_
      repeat (first | with_reducible refine r_then ?_ | with_reducible refine r_in_normal ?_ | with_reducible refine r_sc_normal ?_)
      refine r_ret ?_
      repeat (first | with_reducible refine r_then_ret ?_ | with_reducible refine r_in_ret ?_ | with_reducible refine r_sc_ret ?_)
      first
      | (have hk9 : k = B.spits.length := (by omega); subst hk9; exact r_retv2 (Rd.tmp rfl rfl) (congrArg (Value.int .i64) (by unfold strokes; rw [if_pos (by assumption)])) SelMC.sel SubRC.sub)
      | (have hk9 : k = B.spits.length := (by omega); subst hk9; exact r_retv2 (Rd.tmp rfl rfl) (congrArg (Value.int .i64) (by unfold strokes; rw [if_neg (by assumption)])) SelMC.sel SubRC.sub)
    ·
     first
     | (exfalso; revert hc38; decide)
     | (exfalso; omega)
     |
      skip
      refine r_skip ?_
      repeat (first | with_reducible refine r_then ?_ | with_reducible refine r_in_normal ?_ | with_reducible refine r_sc_normal ?_)
      refine r_seq ?_
      refine r_region ?_
      refine o_q _ rfl rfl rfl (v_move rfl rfl) ?_
      refine o_q _ rfl rfl rfl (v_assign rfl rfl) ?_
      refine o_nil ?_
      repeat (first | with_reducible refine r_then ?_ | with_reducible refine r_in_normal ?_ | with_reducible refine r_sc_normal ?_)
      refine r_ret ?_
      repeat (first | with_reducible refine r_then_ret ?_ | with_reducible refine r_in_ret ?_ | with_reducible refine r_sc_ret ?_)
      first
      | (have hk9 : k = B.spits.length := (by omega); subst hk9; exact r_retv2 (Rd.tmp rfl rfl) (congrArg (Value.int .i64) (by unfold strokes; rw [if_pos (by assumption)])) SelMC.sel SubRC.sub)
      | (have hk9 : k = B.spits.length := (by omega); subst hk9; exact r_retv2 (Rd.tmp rfl rfl) (congrArg (Value.int .i64) (by unfold strokes; rw [if_neg (by assumption)])) SelMC.sel SubRC.sub)
set_option maxHeartbeats 4000000 in
theorem cut_v (c : T3) (m : Int) (hg : GoodS B) (hc : InC c) (hc1 : ∀ k, k < B.spits.length → 1 ≤ c.at k) (hm : 0 ≤ m ∧ m ≤ 100000000) : FnV Try.prog 55 [pt fb 0, v3 c, i64 m] [boxF fb 110 [.slice po B.spits.length pc, .slice so B.days.length sc, .slice lo B.logs.length lc, .map (some mb)], rowD po 3 encSp B.spits, rowD so 2 encS B.days, rowD lo 3 encLg B.logs] (i64 (sodsOf B c m)) := by
 refine FnV.intro Try.call55 Try.func55 rfl Try.ntmps55 rfl ?_
 intro W M Rf
 refine r_seq ?_
 refine r_region ?_
 refine o_boxA rfl rfl rfl rfl rfl (fun b4 => ?_)
 refine o_q _ rfl rfl rfl (v_assign rfl rfl) ?_
 refine o_nil ?_
 repeat (first | with_reducible refine r_then ?_ | with_reducible refine r_in_normal ?_ | with_reducible refine r_sc_normal ?_)
 refine r_scope ?_
 refine r_seq ?_
 refine r_label ?_
 repeat (first | with_reducible refine r_then ?_ | with_reducible refine r_in_normal ?_ | with_reducible refine r_sc_normal ?_)
 refine r_seq ?_
 refine r_seq ?_
 have h3 := hg.1
 refine r_region ?_
 refine o_q _ rfl rfl rfl (v_move rfl rfl) ?_
 refine o_q _ rfl rfl rfl (v_nilCheck rfl rfl) ?_
 first | refine o_q _ rfl rfl rfl (v_fieldAddr rfl Try.underlying110 inf37 rfl rfl rfl rfl) ?_ | refine o_q _ rfl rfl rfl (v_fieldAddrE rfl Try.underlying110 inf37 rfl rfl rfl rfl) ?_
 first | refine o_q _ rfl rfl rfl (v_fieldAddr rfl Try.underlying37 inf34 rfl rfl rfl rfl) ?_ | refine o_q _ rfl rfl rfl (v_fieldAddrE rfl Try.underlying37 inf34 rfl rfl rfl rfl) ?_
 first | refine o_q _ rfl rfl rfl (v_ld1 rfl Try.underlying34 rfl rfl rfl) ?_ | refine o_q _ rfl rfl rfl (v_lf1 rfl Try.underlying34 rfl rfl rfl) ?_ | refine o_q _ rfl rfl rfl (v_loadE1 rfl Try.underlying34 rfl rfl (by omega) rfl rfl) ?_
 refine o_q _ rfl rfl rfl (v_len rfl rfl Try.underlying34 rfl) ?_
 refine o_q _ rfl rfl rfl (v_move rfl rfl) ?_
 refine o_nil ?_
 repeat (first | with_reducible refine r_then ?_ | with_reducible refine r_in_normal ?_ | with_reducible refine r_sc_normal ?_)
 refine r_block ?_
 refine r_loop (ι := Nat × Int × Int) (fun gh => gh.1 ≤ B.spits.length ∧ 0 ≤ gh.2.1 ∧ gh.2.1 ≤ 30 * gh.1 ∧ 0 ≤ gh.2.2 ∧ gh.2.2 ≤ m ∧ sodsOf B c m = gh.2.1 + cutK B c gh.1 gh.2.2) (fun gh => [(0, pt fb 0), (2, i64 gh.2.2), (4, pt b4 0), (6, i64 gh.2.1), (13, .slice po B.spits.length pc), (14, i64 B.spits.length), (15, i64 gh.1)]) (fun gh => bx b4 113 [i64 c.a, i64 c.b, i64 c.c] :: M) (fun gh => [boxF fb 110 [.slice po B.spits.length pc, .slice so B.days.length sc, .slice lo B.logs.length lc, .map (some mb)], rowD po 3 encSp B.spits, rowD so 2 encS B.days, rowD lo 3 encLg B.logs] ++ Rf) (fun gh => B.spits.length - gh.1) (0, 0, m) ?_ ?_ ?_
 ·
  exact r_here (by repeat (first | exact FSub.nil | refine FSub.cons rfl ?_)) SelMC.sel SubRC.sub
 ·
  exact ⟨Nat.zero_le _, Int.le_refl _, Int.le_refl _, hm.1, Int.le_refl _, by show sodsOf _ _ _ = 0 + cutK _ _ 0 m; rw [cutK_0]; omega⟩
 ·
  rintro ⟨k, x, y⟩ hI0
  dsimp only at hI0
  dsimp only
  refine r_seq ?_
  refine r_region ?_
  refine o_q _ rfl rfl rfl (v_lss rfl rfl rfl) ?_
  refine o_nil ?_
  repeat (first | with_reducible refine r_then ?_ | with_reducible refine r_in_normal ?_ | with_reducible refine r_sc_normal ?_)
  refine r_seq ?_
  first | refine r_condd rfl (fun hc16 => ?_) (fun hc16 => ?_) | refine r_cond rfl (fun hc16 => ?_) (fun hc16 => ?_)
  ·
   first
   | (exfalso; revert hc16; decide)
   | (exfalso; omega)
   |
    skip
    refine r_skip ?_
    repeat (first | with_reducible refine r_then ?_ | with_reducible refine r_in_normal ?_ | with_reducible refine r_sc_normal ?_)
    refine r_seq ?_
    refine r_block ?_
    refine r_seq ?_
    refine r_region ?_
    refine o_q _ rfl rfl rfl (v_move rfl rfl) ?_
    first | refine o_q _ rfl rfl rfl (v_indexAddrSn rfl Try.underlying34 inf67 rfl rfl rfl (by omega) rfl) ?_ | refine o_q _ rfl rfl rfl (v_indexAddrS rfl Try.underlying34 inf67 rfl rfl rfl (by omega) (by omega) rfl) ?_
    first | refine o_q _ rfl rfl rfl (v_ldW rfl Try.underlying67 rfl inf67 rfl rfl) ?_ | refine o_q _ rfl rfl rfl (v_lfW rfl Try.underlying67 rfl inf67 rfl rfl) ?_ | refine o_q _ rfl rfl rfl (v_lfN rfl Try.underlying67 rfl inf67 rfl rfl rfl) ?_ | refine o_q _ rfl rfl rfl (v_ldN rfl Try.underlying67 rfl inf67 rfl rfl rfl) ?_ | refine o_q _ rfl rfl rfl (v_loadEN rfl Try.underlying67 rfl inf67 rfl (by omega) rfl rfl rfl) ?_
    refine o_alloc rfl inf67 rfl rfl rfl rfl rfl (fun b8 => ?_)
    refine o_q _ rfl rfl rfl (v_assign rfl rfl) ?_
    refine o_st rfl inf67 rfl rfl rfl rfl rfl rfl rfl rfl ?_
    refine o_nil ?_
    repeat (first | with_reducible refine r_then ?_ | with_reducible refine r_in_normal ?_ | with_reducible refine r_sc_normal ?_)
    refine r_seq ?_
    refine Imp.box_to b8 [i64 (B.spits.getD k default).sods, i64 (B.spits.getD k default).lo, i64 (B.spits.getD k default).hi] rfl ?_
    have hsp := hg.2.2.2.1 k (by omega)
    have hck := hc k (by omega)
    have hck1 := hc1 k (by omega)
    refine r_region ?_
    first | refine o_q _ rfl rfl rfl (v_fieldAddr rfl Try.underlying67 inf3 rfl rfl rfl rfl) ?_ | refine o_q _ rfl rfl rfl (v_fieldAddrE rfl Try.underlying67 inf3 rfl rfl rfl rfl) ?_
    first | refine o_q _ rfl rfl rfl (v_ld1 rfl Try.underlying3 rfl rfl rfl) ?_ | refine o_q _ rfl rfl rfl (v_lf1 rfl Try.underlying3 rfl rfl rfl) ?_ | refine o_q _ rfl rfl rfl (v_loadE1 rfl Try.underlying3 rfl rfl (by omega) rfl rfl) ?_
    refine o_q _ rfl rfl rfl (v_move rfl rfl) ?_
    refine o_nil ?_
    repeat (first | with_reducible refine r_then ?_ | with_reducible refine r_in_normal ?_ | with_reducible refine r_sc_normal ?_)
    refine r_block ?_
    refine r_loop (ι := Nat × Int) (fun gh => (gh.1 : Int) ≤ (B.spits.getD k default).sods ∧ dec y (c.at k) gh.1 = gh.2 ∧ 0 ≤ gh.2 ∧ gh.2 ≤ y) (fun gh => [(0, pt fb 0), (2, i64 gh.2), (4, pt b4 0), (6, i64 (x + gh.1)), (7, i64 k), (13, .slice po B.spits.length pc), (14, i64 B.spits.length), (15, i64 k), (21, i64 (B.spits.getD k default).sods), (22, i64 gh.1)]) (fun gh => bx b4 113 [i64 c.a, i64 c.b, i64 c.c] :: M) (fun gh => [boxF fb 110 [.slice po B.spits.length pc, .slice so B.days.length sc, .slice lo B.logs.length lc, .map (some mb)], rowD po 3 encSp B.spits, rowD so 2 encS B.days, rowD lo 3 encLg B.logs] ++ Rf) (fun gh => ((B.spits.getD k default).sods - gh.1).toNat) (0, y) ?_ ?_ ?_
    ·
     exact r_here (by repeat (first | exact FSub.nil | refine FSub.cons rfl ?_ | refine FSub.cons2 rfl (congrArg (Value.int .i64) (by show _ = _ + ((0 : Nat) : Int); omega)) ?_)) SelMC.sel SubRC.sub
    ·
     exact ⟨by show ((0 : Nat) : Int) ≤ _; omega, rfl, by omega, Int.le_refl _⟩
    ·
     rintro ⟨j, z⟩ hI1
     dsimp only at hI1
     dsimp only
     refine r_seq ?_
     refine r_region ?_
     refine o_q _ rfl rfl rfl (v_lss rfl rfl rfl) ?_
     refine o_nil ?_
     repeat (first | with_reducible refine r_then ?_ | with_reducible refine r_in_normal ?_ | with_reducible refine r_sc_normal ?_)
     refine r_seq ?_
     first | refine r_condd rfl (fun hc23 => ?_) (fun hc23 => ?_) | refine r_cond rfl (fun hc23 => ?_) (fun hc23 => ?_)
     ·
      first
      | (exfalso; revert hc23; decide)
      | (exfalso; omega)
      |
       skip
       refine r_skip ?_
       repeat (first | with_reducible refine r_then ?_ | with_reducible refine r_in_normal ?_ | with_reducible refine r_sc_normal ?_)
       refine r_seq ?_
       refine r_block ?_
       refine r_seq ?_
       refine r_seq ?_
       refine r_region ?_
       refine o_q _ rfl rfl rfl (v_move rfl rfl) ?_
       refine o_q _ rfl rfl rfl (v_move rfl rfl) ?_
       first | refine o_q _ rfl rfl rfl (v_fieldAddr rfl Try.underlying113 inf23 rfl rfl rfl rfl) ?_ | refine o_q _ rfl rfl rfl (v_fieldAddrE rfl Try.underlying113 inf23 rfl rfl rfl rfl) ?_
       first | refine o_q _ rfl rfl rfl (v_indexAddrAn rfl Try.underlying23 inf3 rfl rfl (by omega)) ?_ | refine o_q _ rfl rfl rfl (v_indexAddrA rfl Try.underlying23 inf3 rfl rfl (by omega)) ?_ | refine o_q _ rfl rfl rfl (v_indexAddrE rfl Try.underlying23 inf3 rfl rfl (by omega)) ?_
       refine o_q _ rfl rfl rfl (v_cast (v := i64 (c.at k)) (v_ld1 rfl Try.underlying3 rfl rfl (t3_atn (by omega))) rfl) ?_
       refine o_q _ rfl rfl rfl (v_lss rfl rfl rfl) ?_
       refine o_nil ?_
       repeat (first | with_reducible refine r_then ?_ | with_reducible refine r_in_normal ?_ | with_reducible refine r_sc_normal ?_)
       first | refine r_condd rfl (fun hc29 => ?_) (fun hc29 => ?_) | refine r_cond rfl (fun hc29 => ?_) (fun hc29 => ?_)
       ·
        first
        | (exfalso; revert hc29; decide)
        | (exfalso; omega)
        |
         skip
         refine r_exit ?_
         repeat (first | with_reducible refine r_then_exit ?_ | with_reducible refine r_sc_exit ?_ | with_reducible refine r_in_here ?_ | (with_reducible refine r_in_past (by decide) ?_) | with_reducible refine r_then ?_ | with_reducible refine r_in_normal ?_ | with_reducible refine r_sc_normal ?_)
         refine r_seq ?_
         refine r_region ?_
         refine o_q _ rfl rfl rfl (v_move rfl rfl) ?_
         refine o_q _ rfl rfl rfl (v_assign rfl rfl) ?_
         refine o_nil ?_
         repeat (first | with_reducible refine r_then ?_ | with_reducible refine r_in_normal ?_ | with_reducible refine r_sc_normal ?_)
         refine r_ret ?_
         repeat (first | with_reducible refine r_then_ret ?_ | with_reducible refine r_in_ret ?_ | with_reducible refine r_sc_ret ?_)
         first
         | (have hk9 : k = B.spits.length := (by omega); subst hk9; rw [cutK_end (Nat.le_refl _)] at hI0; exact r_retv2 (Rd.tmp rfl rfl) (congrArg (Value.int .i64) (by omega)) SelMC.sel SubRC.sub)
         | (have hst := cutK_stop (B := B) (c := c) (k := k) (m := y) (j := j) (by omega) (by omega) (by omega) (by omega) (by omega); exact r_retv2 (Rd.tmp rfl rfl) (congrArg (Value.int .i64) (by omega)) SelMC.sel SubRC.sub)
       ·
        first
        | (exfalso; revert hc29; decide)
        | (exfalso; omega)
        |
         skip
         refine r_skip ?_
         repeat (first | with_reducible refine r_then ?_ | with_reducible refine r_in_normal ?_ | with_reducible refine r_sc_normal ?_)
         refine r_region_q mixed (by kernel_rfl) ?_
         refine q_q _ rfl rfl rfl (v_move rfl rfl) ?_
         refine q_q _ rfl rfl rfl (v_add rfl rfl rfl (by omega)) ?_
         refine q_q _ rfl rfl rfl (v_move rfl rfl) ?_
         refine q_q _ rfl rfl rfl (v_move rfl rfl) ?_
         first | refine q_q _ rfl rfl rfl (v_fieldAddr rfl Try.underlying113 inf23 rfl rfl rfl rfl) ?_ | refine q_q _ rfl rfl rfl (v_fieldAddrE rfl Try.underlying113 inf23 rfl rfl rfl rfl) ?_
         first | refine q_q _ rfl rfl rfl (v_indexAddrAn rfl Try.underlying23 inf3 rfl rfl (by omega)) ?_ | refine q_q _ rfl rfl rfl (v_indexAddrA rfl Try.underlying23 inf3 rfl rfl (by omega)) ?_ | refine q_q _ rfl rfl rfl (v_indexAddrE rfl Try.underlying23 inf3 rfl rfl (by omega)) ?_
         refine q_q _ rfl rfl rfl (v_cast (v := i64 (c.at k)) (v_ld1 rfl Try.underlying3 rfl rfl (t3_atn (by omega))) rfl) ?_
         refine q_q _ rfl rfl rfl (v_sub rfl rfl rfl (by omega)) ?_
         refine q_q _ rfl rfl rfl (v_assign rfl rfl) ?_
         refine q_q _ rfl rfl rfl (v_assign rfl rfl) ?_
         refine q_nil ?_
         repeat (first | with_reducible refine r_then ?_ | with_reducible refine r_in_normal ?_ | with_reducible refine r_sc_normal ?_)
         refine r_region ?_
         refine o_q _ rfl rfl rfl (v_add rfl rfl rfl (by omega)) ?_
         refine o_q _ rfl rfl rfl (v_move rfl rfl) ?_
         refine o_nil ?_
         repeat (first | with_reducible refine r_then ?_ | with_reducible refine r_in_normal ?_ | with_reducible refine r_sc_normal ?_)
         first
         | exact r_next ((j + 1, z - c.at k)) (by exact r_here (by repeat (first | exact FSub.nil | refine FSub.cons rfl ?_ | refine FSub.cons2 rfl (congrArg (Value.int .i64) (by push_cast; omega)) ?_)) SelMC.sel SubRC.sub) (by dsimp only; exact ⟨by push_cast; omega, by rw [dec, hI1.2.1], by omega, by omega⟩) (by show (_ : Int).toNat < (_ : Int).toNat; push_cast; omega)
     ·
      first
      | (exfalso; revert hc23; decide)
      | (exfalso; omega)
      |
       skip
       refine r_exit ?_
       repeat (first | with_reducible refine r_then_exit ?_ | with_reducible refine r_sc_exit ?_ | with_reducible refine r_in_here ?_ | (with_reducible refine r_in_past (by decide) ?_) | with_reducible refine r_then ?_ | with_reducible refine r_in_normal ?_ | with_reducible refine r_sc_normal ?_)
       refine r_region ?_
       refine o_q _ rfl rfl rfl (v_add rfl rfl rfl (by omega)) ?_
       refine o_q _ rfl rfl rfl (v_move rfl rfl) ?_
       refine o_nil ?_
       repeat (first | with_reducible refine r_then ?_ | with_reducible refine r_in_normal ?_ | with_reducible refine r_sc_normal ?_)
       first
       | exact r_next ((k + 1, x + j, z)) (by exact r_here (by repeat (first | exact FSub.nil | refine FSub.cons rfl ?_)) SelMC.sel SubRC.sub) (by dsimp only; have hon := cutK_on (B := B) (c := c) (k := k) (m := y) (j := j) (by omega) (by omega) (by omega) (by omega); rw [hI1.2.1] at hon; exact ⟨by omega, by omega, by push_cast; omega, by omega, by omega, by omega⟩) (by show _ - (_ + 1) < _ - _; omega)
  ·
   first
   | (exfalso; revert hc16; decide)
   | (exfalso; omega)
   |
    skip
    refine r_exit ?_
    repeat (first | with_reducible refine r_then_exit ?_ | with_reducible refine r_sc_exit ?_ | with_reducible refine r_in_here ?_ | (with_reducible refine r_in_past (by decide) ?_) | with_reducible refine r_then ?_ | with_reducible refine r_in_normal ?_ | with_reducible refine r_sc_normal ?_)
    refine r_seq ?_
    refine r_region ?_
    refine o_q _ rfl rfl rfl (v_move rfl rfl) ?_
    refine o_q _ rfl rfl rfl (v_assign rfl rfl) ?_
    refine o_nil ?_
    repeat (first | with_reducible refine r_then ?_ | with_reducible refine r_in_normal ?_ | with_reducible refine r_sc_normal ?_)
    refine r_ret ?_
    repeat (first | with_reducible refine r_then_ret ?_ | with_reducible refine r_in_ret ?_ | with_reducible refine r_sc_ret ?_)
    first
    | (have hk9 : k = B.spits.length := (by omega); subst hk9; rw [cutK_end (Nat.le_refl _)] at hI0; exact r_retv2 (Rd.tmp rfl rfl) (congrArg (Value.int .i64) (by omega)) SelMC.sel SubRC.sub)
    | (have hst := cutK_stop (B := B) (c := c) (k := k) (m := y) (j := j) (by omega) (by omega) (by omega) (by omega) (by omega); exact r_retv2 (Rd.tmp rfl rfl) (congrArg (Value.int .i64) (by omega)) SelMC.sel SubRC.sub)
set_option maxHeartbeats 4000000 in
theorem later_v (m d : Span) (hm : SmS m) (hd : SmS d) : FnV Try.prog 79 [vS m, vS d] [] (vS ⟨m.lo + d.lo, m.hi + d.hi⟩) := by
 refine FnV.intro Try.call79 Try.func79 rfl Try.ntmps79 rfl ?_
 intro W M Rf
 refine r_seq ?_
 unfold SmS at hm hd
 refine r_region ?_
 refine o_boxA rfl rfl rfl rfl rfl (fun b2 => ?_)
 refine o_boxA rfl rfl rfl rfl rfl (fun b3 => ?_)
 refine o_alloc rfl inf115 rfl rfl rfl rfl rfl (fun b4 => ?_)
 refine o_nil ?_
 repeat (first | with_reducible refine r_then ?_ | with_reducible refine r_in_normal ?_ | with_reducible refine r_sc_normal ?_)
 refine r_seq ?_
 refine r_region ?_
 first | refine o_q _ rfl rfl rfl (v_fieldAddr rfl Try.underlying115 inf42 rfl rfl rfl rfl) ?_ | refine o_q _ rfl rfl rfl (v_fieldAddrE rfl Try.underlying115 inf42 rfl rfl rfl rfl) ?_
 first | refine o_q _ rfl rfl rfl (v_fieldAddr rfl Try.underlying42 inf3 rfl rfl rfl rfl) ?_ | refine o_q _ rfl rfl rfl (v_fieldAddrE rfl Try.underlying42 inf3 rfl rfl rfl rfl) ?_
 first | refine o_q _ rfl rfl rfl (v_ld1 rfl Try.underlying3 rfl rfl rfl) ?_ | refine o_q _ rfl rfl rfl (v_lf1 rfl Try.underlying3 rfl rfl rfl) ?_ | refine o_q _ rfl rfl rfl (v_loadE1 rfl Try.underlying3 rfl rfl (by omega) rfl rfl) ?_
 first | refine o_q _ rfl rfl rfl (v_fieldAddr rfl Try.underlying42 inf3 rfl rfl rfl rfl) ?_ | refine o_q _ rfl rfl rfl (v_fieldAddrE rfl Try.underlying42 inf3 rfl rfl rfl rfl) ?_
 first | refine o_q _ rfl rfl rfl (v_ld1 rfl Try.underlying3 rfl rfl rfl) ?_ | refine o_q _ rfl rfl rfl (v_lf1 rfl Try.underlying3 rfl rfl rfl) ?_ | refine o_q _ rfl rfl rfl (v_loadE1 rfl Try.underlying3 rfl rfl (by omega) rfl rfl) ?_
 refine o_q _ rfl rfl rfl (v_add rfl rfl rfl (by omega)) ?_
 first | refine o_q _ rfl rfl rfl (v_fieldAddr rfl Try.underlying115 inf42 rfl rfl rfl rfl) ?_ | refine o_q _ rfl rfl rfl (v_fieldAddrE rfl Try.underlying115 inf42 rfl rfl rfl rfl) ?_
 first | refine o_q _ rfl rfl rfl (v_fieldAddr rfl Try.underlying42 inf3 rfl rfl rfl rfl) ?_ | refine o_q _ rfl rfl rfl (v_fieldAddrE rfl Try.underlying42 inf3 rfl rfl rfl rfl) ?_
 first | refine o_q _ rfl rfl rfl (v_ld1 rfl Try.underlying3 rfl rfl rfl) ?_ | refine o_q _ rfl rfl rfl (v_lf1 rfl Try.underlying3 rfl rfl rfl) ?_ | refine o_q _ rfl rfl rfl (v_loadE1 rfl Try.underlying3 rfl rfl (by omega) rfl rfl) ?_
 first | refine o_q _ rfl rfl rfl (v_fieldAddr rfl Try.underlying42 inf3 rfl rfl rfl rfl) ?_ | refine o_q _ rfl rfl rfl (v_fieldAddrE rfl Try.underlying42 inf3 rfl rfl rfl rfl) ?_
 first | refine o_q _ rfl rfl rfl (v_ld1 rfl Try.underlying3 rfl rfl rfl) ?_ | refine o_q _ rfl rfl rfl (v_lf1 rfl Try.underlying3 rfl rfl rfl) ?_ | refine o_q _ rfl rfl rfl (v_loadE1 rfl Try.underlying3 rfl rfl (by omega) rfl rfl) ?_
 refine o_q _ rfl rfl rfl (v_add rfl rfl rfl (by omega)) ?_
 refine o_q _ rfl rfl rfl (v_bS rfl Try.underlying42 inf42 plt42 rfl rfl rfl (by repeat (first | exact trivial | refine ⟨rfl, ?_⟩)) (by rfl)) ?_
 refine o_q _ rfl rfl rfl (v_bS rfl Try.underlying115 inf115 plt115 rfl rfl rfl (by repeat (first | exact trivial | refine ⟨rfl, ?_⟩)) (by rfl)) ?_
 refine o_st rfl inf115 rfl rfl rfl rfl rfl rfl rfl rfl ?_
 refine o_nil ?_
 repeat (first | with_reducible refine r_then ?_ | with_reducible refine r_in_normal ?_ | with_reducible refine r_sc_normal ?_)
 refine r_ret ?_
 repeat (first | with_reducible refine r_then_ret ?_ | with_reducible refine r_in_ret ?_ | with_reducible refine r_sc_ret ?_)
 exact r_retv2 (Rd.one rfl (RdI.cellW Try.underlying115 rfl inf115 rfl rfl)) rfl SelMC.sel SubRC.sub
set_option maxHeartbeats 4000000 in
theorem earlier_v (m d : Span) (hm : SmS m) (hd : SmS d) : FnV Try.prog 82 [vS m, vS d] [] (vS ⟨m.lo - d.hi, m.hi - d.lo⟩) := by
 refine FnV.intro Try.call82 Try.func82 rfl Try.ntmps82 rfl ?_
 intro W M Rf
 refine r_seq ?_
 unfold SmS at hm hd
 refine r_region ?_
 refine o_boxA rfl rfl rfl rfl rfl (fun b2 => ?_)
 refine o_boxA rfl rfl rfl rfl rfl (fun b3 => ?_)
 refine o_alloc rfl inf115 rfl rfl rfl rfl rfl (fun b4 => ?_)
 refine o_nil ?_
 repeat (first | with_reducible refine r_then ?_ | with_reducible refine r_in_normal ?_ | with_reducible refine r_sc_normal ?_)
 refine r_seq ?_
 refine r_region ?_
 first | refine o_q _ rfl rfl rfl (v_fieldAddr rfl Try.underlying115 inf42 rfl rfl rfl rfl) ?_ | refine o_q _ rfl rfl rfl (v_fieldAddrE rfl Try.underlying115 inf42 rfl rfl rfl rfl) ?_
 first | refine o_q _ rfl rfl rfl (v_fieldAddr rfl Try.underlying42 inf3 rfl rfl rfl rfl) ?_ | refine o_q _ rfl rfl rfl (v_fieldAddrE rfl Try.underlying42 inf3 rfl rfl rfl rfl) ?_
 first | refine o_q _ rfl rfl rfl (v_ld1 rfl Try.underlying3 rfl rfl rfl) ?_ | refine o_q _ rfl rfl rfl (v_lf1 rfl Try.underlying3 rfl rfl rfl) ?_ | refine o_q _ rfl rfl rfl (v_loadE1 rfl Try.underlying3 rfl rfl (by omega) rfl rfl) ?_
 first | refine o_q _ rfl rfl rfl (v_fieldAddr rfl Try.underlying42 inf3 rfl rfl rfl rfl) ?_ | refine o_q _ rfl rfl rfl (v_fieldAddrE rfl Try.underlying42 inf3 rfl rfl rfl rfl) ?_
 first | refine o_q _ rfl rfl rfl (v_ld1 rfl Try.underlying3 rfl rfl rfl) ?_ | refine o_q _ rfl rfl rfl (v_lf1 rfl Try.underlying3 rfl rfl rfl) ?_ | refine o_q _ rfl rfl rfl (v_loadE1 rfl Try.underlying3 rfl rfl (by omega) rfl rfl) ?_
 refine o_q _ rfl rfl rfl (v_sub rfl rfl rfl (by omega)) ?_
 first | refine o_q _ rfl rfl rfl (v_fieldAddr rfl Try.underlying115 inf42 rfl rfl rfl rfl) ?_ | refine o_q _ rfl rfl rfl (v_fieldAddrE rfl Try.underlying115 inf42 rfl rfl rfl rfl) ?_
 first | refine o_q _ rfl rfl rfl (v_fieldAddr rfl Try.underlying42 inf3 rfl rfl rfl rfl) ?_ | refine o_q _ rfl rfl rfl (v_fieldAddrE rfl Try.underlying42 inf3 rfl rfl rfl rfl) ?_
 first | refine o_q _ rfl rfl rfl (v_ld1 rfl Try.underlying3 rfl rfl rfl) ?_ | refine o_q _ rfl rfl rfl (v_lf1 rfl Try.underlying3 rfl rfl rfl) ?_ | refine o_q _ rfl rfl rfl (v_loadE1 rfl Try.underlying3 rfl rfl (by omega) rfl rfl) ?_
 first | refine o_q _ rfl rfl rfl (v_fieldAddr rfl Try.underlying42 inf3 rfl rfl rfl rfl) ?_ | refine o_q _ rfl rfl rfl (v_fieldAddrE rfl Try.underlying42 inf3 rfl rfl rfl rfl) ?_
 first | refine o_q _ rfl rfl rfl (v_ld1 rfl Try.underlying3 rfl rfl rfl) ?_ | refine o_q _ rfl rfl rfl (v_lf1 rfl Try.underlying3 rfl rfl rfl) ?_ | refine o_q _ rfl rfl rfl (v_loadE1 rfl Try.underlying3 rfl rfl (by omega) rfl rfl) ?_
 refine o_q _ rfl rfl rfl (v_sub rfl rfl rfl (by omega)) ?_
 refine o_q _ rfl rfl rfl (v_bS rfl Try.underlying42 inf42 plt42 rfl rfl rfl (by repeat (first | exact trivial | refine ⟨rfl, ?_⟩)) (by rfl)) ?_
 refine o_q _ rfl rfl rfl (v_bS rfl Try.underlying115 inf115 plt115 rfl rfl rfl (by repeat (first | exact trivial | refine ⟨rfl, ?_⟩)) (by rfl)) ?_
 refine o_st rfl inf115 rfl rfl rfl rfl rfl rfl rfl rfl ?_
 refine o_nil ?_
 repeat (first | with_reducible refine r_then ?_ | with_reducible refine r_in_normal ?_ | with_reducible refine r_sc_normal ?_)
 refine r_ret ?_
 repeat (first | with_reducible refine r_then_ret ?_ | with_reducible refine r_in_ret ?_ | with_reducible refine r_sc_ret ?_)
 exact r_retv2 (Rd.one rfl (RdI.cellW Try.underlying115 rfl inf115 rfl rfl)) rfl SelMC.sel SubRC.sub
set_option maxHeartbeats 4000000 in
theorem some_v (m : Span) : FnV Try.prog 81 [vS m] [] (.bool (decide (m.lo ≤ m.hi))) := by
 refine FnV.intro Try.call81 Try.func81 rfl Try.ntmps81 rfl ?_
 intro W M Rf
 refine r_seq ?_
 refine r_region ?_
 refine o_boxA rfl rfl rfl rfl rfl (fun b1 => ?_)
 refine o_q _ rfl rfl rfl (v_assign rfl rfl) ?_
 refine o_nil ?_
 repeat (first | with_reducible refine r_then ?_ | with_reducible refine r_in_normal ?_ | with_reducible refine r_sc_normal ?_)
 refine r_seq ?_
 refine r_region ?_
 first | refine o_q _ rfl rfl rfl (v_fieldAddr rfl Try.underlying115 inf42 rfl rfl rfl rfl) ?_ | refine o_q _ rfl rfl rfl (v_fieldAddrE rfl Try.underlying115 inf42 rfl rfl rfl rfl) ?_
 first | refine o_q _ rfl rfl rfl (v_fieldAddr rfl Try.underlying42 inf3 rfl rfl rfl rfl) ?_ | refine o_q _ rfl rfl rfl (v_fieldAddrE rfl Try.underlying42 inf3 rfl rfl rfl rfl) ?_
 first | refine o_q _ rfl rfl rfl (v_ld1 rfl Try.underlying3 rfl rfl rfl) ?_ | refine o_q _ rfl rfl rfl (v_lf1 rfl Try.underlying3 rfl rfl rfl) ?_ | refine o_q _ rfl rfl rfl (v_loadE1 rfl Try.underlying3 rfl rfl (by omega) rfl rfl) ?_
 first | refine o_q _ rfl rfl rfl (v_fieldAddr rfl Try.underlying115 inf42 rfl rfl rfl rfl) ?_ | refine o_q _ rfl rfl rfl (v_fieldAddrE rfl Try.underlying115 inf42 rfl rfl rfl rfl) ?_
 first | refine o_q _ rfl rfl rfl (v_fieldAddr rfl Try.underlying42 inf3 rfl rfl rfl rfl) ?_ | refine o_q _ rfl rfl rfl (v_fieldAddrE rfl Try.underlying42 inf3 rfl rfl rfl rfl) ?_
 first | refine o_q _ rfl rfl rfl (v_ld1 rfl Try.underlying3 rfl rfl rfl) ?_ | refine o_q _ rfl rfl rfl (v_lf1 rfl Try.underlying3 rfl rfl rfl) ?_ | refine o_q _ rfl rfl rfl (v_loadE1 rfl Try.underlying3 rfl rfl (by omega) rfl rfl) ?_
 refine o_q _ rfl rfl rfl (v_leq rfl rfl rfl) ?_
 refine o_q _ rfl rfl rfl (v_assign rfl rfl) ?_
 refine o_nil ?_
 repeat (first | with_reducible refine r_then ?_ | with_reducible refine r_in_normal ?_ | with_reducible refine r_sc_normal ?_)
 refine r_ret ?_
 repeat (first | with_reducible refine r_then_ret ?_ | with_reducible refine r_in_ret ?_ | with_reducible refine r_sc_ret ?_)
 exact r_retv2 (Rd.tmp rfl rfl) rfl SelMC.sel SubRC.sub
theorem Imp.row2 {W : World} {n : Nat} {D : List Deferred} {L : Tm} {M : List Res} {R : List Fact} {cb : Nat} {T : TypeId} {x y : Span} {X : Act → World → Prop} [hb : HasBoxF cb R T [i64 x.lo, i64 x.hi, i64 y.lo, i64 y.hi]] (h : Imp W n D L M (rowD (some ⟨cb, 0, none⟩) 2 encS [x, y] :: rowD (some ⟨cb, 2, none⟩) 2 encS [y] :: R) X) : Imp W n D L M R X := by
  intro a w h1 h2 h3
  have h4 := h3.derive (ψ := rowD (some ⟨cb, 2, none⟩) 2 encS [y]) fun V hV => .inr ⟨cb, 2, #[i64 x.lo, i64 x.hi, i64 y.lo, i64 y.hi], T, (0, 0), rfl, hV _ hb.mem, fun i j hi hj => by
    obtain rfl : i = 0 := by simpa using hi
    obtain rfl | rfl : j = 0 ∨ j = 1 := by omega
    all_goals rfl⟩
  have h5 := h4.derive (ψ := rowD (some ⟨cb, 0, none⟩) 2 encS [x, y]) fun V hV => .inr ⟨cb, 0, #[i64 x.lo, i64 x.hi, i64 y.lo, i64 y.hi], T, (0, 0), rfl, hV _ (List.mem_cons_of_mem _ hb.mem), fun i j hi hj => by
    have hi2 : i < 2 := by simpa using hi
    obtain rfl | rfl : i = 0 ∨ i = 1 := by omega
    all_goals
      obtain rfl | rfl : j = 0 ∨ j = 1 := by omega
      all_goals rfl⟩
  exact h a w h1 h2 h5
set_option maxHeartbeats 4000000 in
theorem common_v (x y : Span) (cb : Nat) : FnV Try.prog 83 [.slice (some ⟨cb, 0, none⟩) 2 2] [boxF cb 115 [i64 x.lo, i64 x.hi, i64 y.lo, i64 y.hi]] (vS (comS x y)) := by
 refine FnV.intro Try.call83 Try.func83 rfl Try.ntmps83 rfl ?_
 intro W M Rf
 refine r_seq ?_
 refine Imp.row2 (cb := cb) (x := x) (y := y) ?_
 refine r_region ?_
 refine o_alloc rfl inf115 rfl rfl rfl rfl rfl (fun b2 => ?_)
 refine o_nil ?_
 repeat (first | with_reducible refine r_then ?_ | with_reducible refine r_in_normal ?_ | with_reducible refine r_sc_normal ?_)
 refine r_seq ?_
 refine r_region ?_
 refine o_q _ rfl rfl rfl (v_move rfl rfl) ?_
 refine o_q _ rfl rfl rfl (v_indexAddrSn rfl Try.underlying167 inf115 rfl rfl rfl (by decide) rfl) ?_
 refine o_q _ rfl rfl rfl (v_loadEN rfl Try.underlying115 rfl inf115 rfl (by show 0 < 2; omega) rfl rfl rfl) ?_
 refine o_alloc rfl inf115 rfl rfl rfl rfl rfl (fun b3 => ?_)
 refine o_st rfl inf115 rfl rfl rfl rfl rfl rfl rfl rfl ?_
 refine o_nil ?_
 repeat (first | with_reducible refine r_then ?_ | with_reducible refine r_in_normal ?_ | with_reducible refine r_sc_normal ?_)
 refine r_seq ?_
 refine r_seq ?_
 refine r_region ?_
 refine o_q _ rfl rfl rfl (v_move rfl rfl) ?_
 refine o_q _ rfl rfl rfl (v_sliceL (h := 1) rfl Try.underlying167 inf115 rfl rfl (by decide) (by decide)) ?_
 refine o_q _ rfl rfl rfl (v_len rfl rfl Try.underlying167 rfl) ?_
 refine o_q _ rfl rfl rfl (v_move rfl rfl) ?_
 refine o_nil ?_
 repeat (first | with_reducible refine r_then ?_ | with_reducible refine r_in_normal ?_ | with_reducible refine r_sc_normal ?_)
 refine r_block ?_
 refine r_loop (ι := Nat) (fun k => k ≤ 1) (fun k => [(2, pt b2 0), (3, pt b3 0), (10, .slice (some ⟨cb, 2, none⟩) 1 1), (11, i64 1), (12, i64 k)]) (fun k => bx b2 115 [i64 0, i64 0] :: bx b3 115 (if k = 0 then [i64 x.lo, i64 x.hi] else [i64 (comS x y).lo, i64 (comS x y).hi]) :: M) (fun k => [rowD (some ⟨cb, 0, none⟩) 2 encS [x, y], rowD (some ⟨cb, 2, none⟩) 2 encS [y], boxF cb 115 [i64 x.lo, i64 x.hi, i64 y.lo, i64 y.hi]] ++ Rf) (fun k => 1 - k) 0 ?_ ?_ ?_
 ·
  refine Imp.box_to b2 [i64 0, i64 0] rfl ?_
  refine Imp.box_to b3 (if (0 : Nat) = 0 then [i64 x.lo, i64 x.hi] else [i64 (comS x y).lo, i64 (comS x y).hi]) rfl ?_
  exact r_here (by repeat (first | exact FSub.nil | refine FSub.cons rfl ?_)) SelMC.sel SubRC.sub
 ·
  omega
 ·
  rintro k hI0
  refine r_seq ?_
  refine r_region ?_
  refine o_q _ rfl rfl rfl (v_lss rfl rfl rfl) ?_
  refine o_nil ?_
  repeat (first | with_reducible refine r_then ?_ | with_reducible refine r_in_normal ?_ | with_reducible refine r_sc_normal ?_)
  refine r_seq ?_
  first | refine r_condd rfl (fun hc13 => ?_) (fun hc13 => ?_) | refine r_cond rfl (fun hc13 => ?_) (fun hc13 => ?_)
  ·
   first
   | (exfalso; revert hc13; decide)
   | (exfalso; omega)
   |
    skip
    refine r_skip ?_
    repeat (first | with_reducible refine r_then ?_ | with_reducible refine r_in_normal ?_ | with_reducible refine r_sc_normal ?_)
    refine r_seq ?_
    refine r_block ?_
    refine r_seq ?_
    refine r_region ?_
    first | refine o_q _ rfl rfl rfl (v_indexAddrSn rfl Try.underlying167 inf115 rfl rfl rfl (by omega) rfl) ?_ | refine o_q _ rfl rfl rfl (v_indexAddrS rfl Try.underlying167 inf115 rfl rfl rfl (by omega) (by omega) rfl) ?_
    refine o_q _ rfl rfl rfl (v_loadEN rfl Try.underlying115 rfl inf115 rfl (by show k < 1; omega) rfl rfl rfl) ?_
    refine o_alloc rfl inf115 rfl rfl rfl rfl rfl (fun b5 => ?_)
    refine o_st rfl inf115 rfl rfl rfl rfl rfl rfl rfl rfl ?_
    refine o_nil ?_
    repeat (first | with_reducible refine r_then ?_ | with_reducible refine r_in_normal ?_ | with_reducible refine r_sc_normal ?_)
    obtain rfl : k = 0 := by omega
    refine Imp.box_to b3 [i64 x.lo, i64 x.hi] rfl ?_
    refine Imp.box_to b5 [i64 y.lo, i64 y.hi] rfl ?_
    refine r_region ?_
    first | refine o_q _ rfl rfl rfl (v_fieldAddr rfl Try.underlying115 inf42 rfl rfl rfl rfl) ?_ | refine o_q _ rfl rfl rfl (v_fieldAddrE rfl Try.underlying115 inf42 rfl rfl rfl rfl) ?_
    first | refine o_q _ rfl rfl rfl (v_fieldAddr rfl Try.underlying42 inf3 rfl rfl rfl rfl) ?_ | refine o_q _ rfl rfl rfl (v_fieldAddrE rfl Try.underlying42 inf3 rfl rfl rfl rfl) ?_
    first | refine o_q _ rfl rfl rfl (v_ld1 rfl Try.underlying3 rfl rfl rfl) ?_ | refine o_q _ rfl rfl rfl (v_lf1 rfl Try.underlying3 rfl rfl rfl) ?_ | refine o_q _ rfl rfl rfl (v_loadE1 rfl Try.underlying3 rfl rfl (by omega) rfl rfl) ?_
    first | refine o_q _ rfl rfl rfl (v_fieldAddr rfl Try.underlying115 inf42 rfl rfl rfl rfl) ?_ | refine o_q _ rfl rfl rfl (v_fieldAddrE rfl Try.underlying115 inf42 rfl rfl rfl rfl) ?_
    first | refine o_q _ rfl rfl rfl (v_fieldAddr rfl Try.underlying42 inf3 rfl rfl rfl rfl) ?_ | refine o_q _ rfl rfl rfl (v_fieldAddrE rfl Try.underlying42 inf3 rfl rfl rfl rfl) ?_
    first | refine o_q _ rfl rfl rfl (v_ld1 rfl Try.underlying3 rfl rfl rfl) ?_ | refine o_q _ rfl rfl rfl (v_lf1 rfl Try.underlying3 rfl rfl rfl) ?_ | refine o_q _ rfl rfl rfl (v_loadE1 rfl Try.underlying3 rfl rfl (by omega) rfl rfl) ?_
    first | refine o_q _ rfl rfl rfl (v_max2 rfl rfl rfl) ?_ | refine o_q _ rfl rfl rfl (v_max3 rfl rfl rfl rfl) ?_
    first | refine o_q _ rfl rfl rfl (v_fieldAddr rfl Try.underlying115 inf42 rfl rfl rfl rfl) ?_ | refine o_q _ rfl rfl rfl (v_fieldAddrE rfl Try.underlying115 inf42 rfl rfl rfl rfl) ?_
    first | refine o_q _ rfl rfl rfl (v_fieldAddr rfl Try.underlying42 inf3 rfl rfl rfl rfl) ?_ | refine o_q _ rfl rfl rfl (v_fieldAddrE rfl Try.underlying42 inf3 rfl rfl rfl rfl) ?_
    first | refine o_q _ rfl rfl rfl (v_ld1 rfl Try.underlying3 rfl rfl rfl) ?_ | refine o_q _ rfl rfl rfl (v_lf1 rfl Try.underlying3 rfl rfl rfl) ?_ | refine o_q _ rfl rfl rfl (v_loadE1 rfl Try.underlying3 rfl rfl (by omega) rfl rfl) ?_
    first | refine o_q _ rfl rfl rfl (v_fieldAddr rfl Try.underlying115 inf42 rfl rfl rfl rfl) ?_ | refine o_q _ rfl rfl rfl (v_fieldAddrE rfl Try.underlying115 inf42 rfl rfl rfl rfl) ?_
    first | refine o_q _ rfl rfl rfl (v_fieldAddr rfl Try.underlying42 inf3 rfl rfl rfl rfl) ?_ | refine o_q _ rfl rfl rfl (v_fieldAddrE rfl Try.underlying42 inf3 rfl rfl rfl rfl) ?_
    first | refine o_q _ rfl rfl rfl (v_ld1 rfl Try.underlying3 rfl rfl rfl) ?_ | refine o_q _ rfl rfl rfl (v_lf1 rfl Try.underlying3 rfl rfl rfl) ?_ | refine o_q _ rfl rfl rfl (v_loadE1 rfl Try.underlying3 rfl rfl (by omega) rfl rfl) ?_
    first | refine o_q _ rfl rfl rfl (v_min2 rfl rfl rfl) ?_ | refine o_q _ rfl rfl rfl (v_min3 rfl rfl rfl rfl) ?_
    refine o_q _ rfl rfl rfl (v_bS rfl Try.underlying42 inf42 plt42 rfl rfl rfl (by repeat (first | exact trivial | refine ⟨rfl, ?_⟩)) (by rfl)) ?_
    refine o_q _ rfl rfl rfl (v_bS rfl Try.underlying115 inf115 plt115 rfl rfl rfl (by repeat (first | exact trivial | refine ⟨rfl, ?_⟩)) (by rfl)) ?_
    refine o_st rfl inf115 rfl rfl rfl rfl rfl rfl rfl rfl ?_
    refine o_nil ?_
    repeat (first | with_reducible refine r_then ?_ | with_reducible refine r_in_normal ?_ | with_reducible refine r_sc_normal ?_)
    refine r_region ?_
    refine o_q _ rfl rfl rfl (v_add rfl rfl rfl (by omega)) ?_
    refine o_q _ rfl rfl rfl (v_move rfl rfl) ?_
    refine o_nil ?_
    repeat (first | with_reducible refine r_then ?_ | with_reducible refine r_in_normal ?_ | with_reducible refine r_sc_normal ?_)
    refine r_next (0 + 1) ?_ ?_ ?_
    ·
     refine Imp.box_to b3 (if 0 + 1 = 0 then [i64 x.lo, i64 x.hi] else [i64 (comS x y).lo, i64 (comS x y).hi]) (by rfl) ?_
     exact r_here (by repeat (first | exact FSub.nil | refine FSub.cons rfl ?_)) SelMC.sel SubRC.sub
    ·
     omega
    ·
     omega
  ·
   first
   | (exfalso; revert hc13; decide)
   | (exfalso; omega)
   |
    skip
    refine r_exit ?_
    repeat (first | with_reducible refine r_then_exit ?_ | with_reducible refine r_sc_exit ?_ | with_reducible refine r_in_here ?_ | (with_reducible refine r_in_past (by decide) ?_) | with_reducible refine r_then ?_ | with_reducible refine r_in_normal ?_ | with_reducible refine r_sc_normal ?_)
    refine r_seq ?_
    obtain rfl : k = 1 := by omega
    refine Imp.box_to b3 [i64 (comS x y).lo, i64 (comS x y).hi] rfl ?_
    refine r_region ?_
    first | refine o_q _ rfl rfl rfl (v_ldW rfl Try.underlying115 rfl inf115 rfl rfl) ?_ | refine o_q _ rfl rfl rfl (v_lfW rfl Try.underlying115 rfl inf115 rfl rfl) ?_ | refine o_q _ rfl rfl rfl (v_lfN rfl Try.underlying115 rfl inf115 rfl rfl rfl) ?_ | refine o_q _ rfl rfl rfl (v_ldN rfl Try.underlying115 rfl inf115 rfl rfl rfl) ?_ | refine o_q _ rfl rfl rfl (v_loadEN rfl Try.underlying115 rfl inf115 rfl (by omega) rfl rfl rfl) ?_
    refine o_st rfl inf115 rfl rfl rfl rfl rfl rfl rfl rfl ?_
    refine o_nil ?_
    repeat (first | with_reducible refine r_then ?_ | with_reducible refine r_in_normal ?_ | with_reducible refine r_sc_normal ?_)
    refine r_ret ?_
    repeat (first | with_reducible refine r_then_ret ?_ | with_reducible refine r_in_ret ?_ | with_reducible refine r_sc_ret ?_)
    exact r_retv2 (Rd.one rfl (RdI.cellW Try.underlying115 rfl inf115 rfl rfl)) rfl SelMC.sel SubRC.sub
set_option maxHeartbeats 4000000 in
theorem ofDay_v (m : Span) (c : T3) : FnV Try.prog 101 [vS m, pt fb 0, v3 c] [] (vS m) := by
 refine FnV.intro Try.call101 Try.func101 rfl Try.ntmps101 rfl ?_
 intro W M Rf
 refine r_seq ?_
 refine r_region ?_
 refine o_boxA rfl rfl rfl rfl rfl (fun b3 => ?_)
 refine o_boxA rfl rfl rfl rfl rfl (fun b5 => ?_)
 refine o_alloc rfl inf115 rfl rfl rfl rfl rfl (fun b6 => ?_)
 refine o_nil ?_
 repeat (first | with_reducible refine r_then ?_ | with_reducible refine r_in_normal ?_ | with_reducible refine r_sc_normal ?_)
 refine r_seq ?_
 refine r_region ?_
 first | refine o_q _ rfl rfl rfl (v_fieldAddr rfl Try.underlying161 inf115 rfl rfl rfl rfl) ?_ | refine o_q _ rfl rfl rfl (v_fieldAddrE rfl Try.underlying161 inf115 rfl rfl rfl rfl) ?_
 first | refine o_q _ rfl rfl rfl (v_ldW rfl Try.underlying115 rfl inf115 rfl rfl) ?_ | refine o_q _ rfl rfl rfl (v_lfW rfl Try.underlying115 rfl inf115 rfl rfl) ?_ | refine o_q _ rfl rfl rfl (v_lfN rfl Try.underlying115 rfl inf115 rfl rfl rfl) ?_ | refine o_q _ rfl rfl rfl (v_ldN rfl Try.underlying115 rfl inf115 rfl rfl rfl) ?_ | refine o_q _ rfl rfl rfl (v_loadEN rfl Try.underlying115 rfl inf115 rfl (by omega) rfl rfl rfl) ?_
 refine o_st rfl inf115 rfl rfl rfl rfl rfl rfl rfl rfl ?_
 refine o_nil ?_
 repeat (first | with_reducible refine r_then ?_ | with_reducible refine r_in_normal ?_ | with_reducible refine r_sc_normal ?_)
 refine r_ret ?_
 repeat (first | with_reducible refine r_then_ret ?_ | with_reducible refine r_in_ret ?_ | with_reducible refine r_sc_ret ?_)
 exact r_retv2 (Rd.one rfl (RdI.cellW Try.underlying115 rfl inf115 rfl rfl)) rfl SelMC.sel SubRC.sub
theorem dayM : HasM Try.prog 161 "bogworks/sod.of" 101 := HasM.mk' inf161 (by kernel_rfl) Try.underlying161 rfl
theorem countedM : HasM Try.prog 165 "bogworks/sod.of" 102 := HasM.mk' inf165 (by kernel_rfl) Try.underlying165 rfl
set_option maxHeartbeats 4000000 in
theorem ofCounted_v (m : Span) (l : LogS) (c : T3) (hg : GoodS B) (hc : InC c) (hl : 0 ≤ l.lo ∧ l.lo ≤ 200 ∧ 0 ≤ l.hi ∧ l.hi ≤ 200) : FnV Try.prog 102 [.agg #[i64 m.lo, i64 m.hi, i64 l.lo, i64 l.hi], pt fb 0, v3 c] [boxF fb 110 [.slice po B.spits.length pc, .slice so B.days.length sc, .slice lo B.logs.length lc, .map (some mb)], rowD po 3 encSp B.spits, rowD so 2 encS B.days, rowD lo 3 encLg B.logs] (vS (one B c l m)) := by
 refine FnV.intro Try.call102 Try.func102 rfl Try.ntmps102 rfl ?_
 intro W M Rf
 refine r_seq ?_
 refine r_region ?_
 refine o_boxA rfl rfl rfl rfl rfl (fun b3 => ?_)
 refine o_boxA rfl rfl rfl rfl rfl (fun b5 => ?_)
 refine o_alloc rfl inf115 rfl rfl rfl rfl rfl (fun b6 => ?_)
 refine o_nil ?_
 repeat (first | with_reducible refine r_then ?_ | with_reducible refine r_in_normal ?_ | with_reducible refine r_sc_normal ?_)
 refine r_seq ?_
 refine r_region_q mixed (by kernel_rfl) ?_
 refine q_q _ rfl rfl rfl (v_move rfl rfl) ?_
 first | refine q_q _ rfl rfl rfl (v_ldW rfl Try.underlying113 rfl inf113 rfl rfl) ?_ | refine q_q _ rfl rfl rfl (v_lfW rfl Try.underlying113 rfl inf113 rfl rfl) ?_ | refine q_q _ rfl rfl rfl (v_lfN rfl Try.underlying113 rfl inf113 rfl rfl rfl) ?_ | refine q_q _ rfl rfl rfl (v_ldN rfl Try.underlying113 rfl inf113 rfl rfl rfl) ?_ | refine q_q _ rfl rfl rfl (v_loadEN rfl Try.underlying113 rfl inf113 rfl (by omega) rfl rfl rfl) ?_
 first | refine q_q _ rfl rfl rfl (v_fieldAddr rfl Try.underlying165 inf42 rfl rfl rfl rfl) ?_ | refine q_q _ rfl rfl rfl (v_fieldAddrE rfl Try.underlying165 inf42 rfl rfl rfl rfl) ?_
 first | refine q_q _ rfl rfl rfl (v_fieldAddr rfl Try.underlying42 inf3 rfl rfl rfl rfl) ?_ | refine q_q _ rfl rfl rfl (v_fieldAddrE rfl Try.underlying42 inf3 rfl rfl rfl rfl) ?_
 first | refine q_q _ rfl rfl rfl (v_ld1 rfl Try.underlying3 rfl rfl rfl) ?_ | refine q_q _ rfl rfl rfl (v_lf1 rfl Try.underlying3 rfl rfl rfl) ?_ | refine q_q _ rfl rfl rfl (v_loadE1 rfl Try.underlying3 rfl rfl (by omega) rfl rfl) ?_
 refine q_q _ rfl rfl rfl (OpQ.fn (strokes_v B po so lo pc sc lc fb mb c _ hg hc (by omega)) rfl rfl SubRC.sub) ?_
 refine q_q _ rfl rfl rfl (v_move rfl rfl) ?_
 first | refine q_q _ rfl rfl rfl (v_ldW rfl Try.underlying113 rfl inf113 rfl rfl) ?_ | refine q_q _ rfl rfl rfl (v_lfW rfl Try.underlying113 rfl inf113 rfl rfl) ?_ | refine q_q _ rfl rfl rfl (v_lfN rfl Try.underlying113 rfl inf113 rfl rfl rfl) ?_ | refine q_q _ rfl rfl rfl (v_ldN rfl Try.underlying113 rfl inf113 rfl rfl rfl) ?_ | refine q_q _ rfl rfl rfl (v_loadEN rfl Try.underlying113 rfl inf113 rfl (by omega) rfl rfl rfl) ?_
 first | refine q_q _ rfl rfl rfl (v_fieldAddr rfl Try.underlying165 inf42 rfl rfl rfl rfl) ?_ | refine q_q _ rfl rfl rfl (v_fieldAddrE rfl Try.underlying165 inf42 rfl rfl rfl rfl) ?_
 first | refine q_q _ rfl rfl rfl (v_fieldAddr rfl Try.underlying42 inf3 rfl rfl rfl rfl) ?_ | refine q_q _ rfl rfl rfl (v_fieldAddrE rfl Try.underlying42 inf3 rfl rfl rfl rfl) ?_
 first | refine q_q _ rfl rfl rfl (v_ld1 rfl Try.underlying3 rfl rfl rfl) ?_ | refine q_q _ rfl rfl rfl (v_lf1 rfl Try.underlying3 rfl rfl rfl) ?_ | refine q_q _ rfl rfl rfl (v_loadE1 rfl Try.underlying3 rfl rfl (by omega) rfl rfl) ?_
 refine q_q _ rfl rfl rfl (v_add rfl rfl rfl (by omega)) ?_
 refine q_q _ rfl rfl rfl (OpQ.fn (strokes_v B po so lo pc sc lc fb mb c _ hg hc (by omega)) rfl rfl SubRC.sub) ?_
 refine q_q _ rfl rfl rfl (v_assign rfl rfl) ?_
 refine q_q _ rfl rfl rfl (v_assign rfl rfl) ?_
 refine q_nil ?_
 repeat (first | with_reducible refine r_then ?_ | with_reducible refine r_in_normal ?_ | with_reducible refine r_sc_normal ?_)
 refine r_seq ?_
 have hq := strokes_bd (c := c) hg hc (s := l.hi + 1) (by omega)
 refine r_region ?_
 first | refine o_q _ rfl rfl rfl (v_fieldAddr rfl Try.underlying165 inf161 rfl rfl rfl rfl) ?_ | refine o_q _ rfl rfl rfl (v_fieldAddrE rfl Try.underlying165 inf161 rfl rfl rfl rfl) ?_
 refine o_q _ rfl rfl rfl (v_ldN (us := [i64 m.lo, i64 m.hi]) rfl Try.underlying161 rfl inf161 rfl rfl rfl) ?_
 refine o_q _ rfl rfl rfl (v_move rfl rfl) ?_
 first | refine o_q _ rfl rfl rfl (v_ldW rfl Try.underlying113 rfl inf113 rfl rfl) ?_ | refine o_q _ rfl rfl rfl (v_lfW rfl Try.underlying113 rfl inf113 rfl rfl) ?_ | refine o_q _ rfl rfl rfl (v_lfN rfl Try.underlying113 rfl inf113 rfl rfl rfl) ?_ | refine o_q _ rfl rfl rfl (v_ldN rfl Try.underlying113 rfl inf113 rfl rfl rfl) ?_ | refine o_q _ rfl rfl rfl (v_loadEN rfl Try.underlying113 rfl inf113 rfl (by omega) rfl rfl rfl) ?_
 refine o_q _ rfl rfl rfl (OpQ.fn (ofDay_v fb m c) rfl rfl SubRC.sub) ?_
 refine o_q _ rfl rfl rfl (v_move rfl rfl) ?_
 refine o_q _ rfl rfl rfl (v_move rfl rfl) ?_
 refine o_q _ rfl rfl rfl (v_sub rfl rfl rfl (by omega)) ?_
 refine o_q _ rfl rfl rfl (v_bS rfl Try.underlying42 inf42 plt42 rfl rfl rfl (by repeat (first | exact trivial | refine ⟨rfl, ?_⟩)) (by rfl)) ?_
 refine o_q _ rfl rfl rfl (v_bS rfl Try.underlying115 inf115 plt115 rfl rfl rfl (by repeat (first | exact trivial | refine ⟨rfl, ?_⟩)) (by rfl)) ?_
 refine o_lit rfl Try.underlying167 inf115 rfl rfl rfl rfl rfl rfl rfl rfl (by repeat (first | exact trivial | refine ⟨rfl, ?_⟩)) (by rfl) (fun b32 => ?_)
 refine Imp.sealB b32 ?_
 refine o_q _ rfl rfl rfl (OpQ.fn (common_v m ⟨strokes B c l.lo, strokes B c (l.hi + 1) - 1⟩ b32) rfl rfl SubRC.sub) ?_
 refine o_st rfl inf115 rfl rfl rfl rfl rfl rfl rfl rfl ?_
 refine o_nil ?_
 repeat (first | with_reducible refine r_then ?_ | with_reducible refine r_in_normal ?_ | with_reducible refine r_sc_normal ?_)
 refine r_ret ?_
 repeat (first | with_reducible refine r_then_ret ?_ | with_reducible refine r_in_ret ?_ | with_reducible refine r_sc_ret ?_)
 exact r_retv2 (Rd.one rfl (RdI.cellW Try.underlying115 rfl inf115 rfl rfl)) rfl SelMC.sel SubRC.sub
end Go.Proofs.Ytpndeonmmcaikaa.SodW


namespace Sod2
open Go Go.G Foot4
@[reducible] def L13 (f : Nat → Span) (b : Bool) : List Value := [i64 (f 0).lo, i64 (f 0).hi, i64 (f 1).lo, i64 (f 1).hi, i64 (f 2).lo, i64 (f 2).hi, i64 (f 3).lo, i64 (f 3).hi, i64 (f 4).lo, i64 (f 4).hi, i64 (f 5).lo, i64 (f 5).hi, .bool b]
def updS (f : Nat → Span) (k : Nat) (s : Span) : Nat → Span := fun i => if i = k then s else f i
theorem six_cases {k : Nat} (h : k < 6) : k = 0 ∨ k = 1 ∨ k = 2 ∨ k = 3 ∨ k = 4 ∨ k = 5 := by omega
theorem L13_set {f : Nat → Span} {b : Bool} {k : Nat} {s : Span} (h : k < 6) : splice (L13 f b) (0 + k * 2) [i64 s.lo, i64 s.hi] = L13 (updS f k s) b := by
  rcases six_cases h with rfl | rfl | rfl | rfl | rfl | rfl <;> rfl
theorem L13_get {f : Nat → Span} {b : Bool} {k : Nat} (h : k < 6) : ((L13 f b).drop (0 + k * 2)).take 2 = [i64 (f k).lo, i64 (f k).hi] := by
  rcases six_cases h with rfl | rfl | rfl | rfl | rfl | rfl <;> rfl
theorem L13_ble {f : Nat → Span} {b : Bool} {k : Nat} {a c : Value} (h : k < 6) : Nat.ble (0 + k * 2 + [a, c].length) (L13 f b).length = true := by
  rcases six_cases h with rfl | rfl | rfl | rfl | rfl | rfl <;> rfl
def zF : Nat → Span := fun _ => ⟨0, 0⟩
theorem fwd_0 {B : Bank} {c : T3} : zF = fwdD B c 0 := by funext i; unfold zF fwdD; rw [if_neg (by omega)]
theorem fwd_s {B : Bank} {c : T3} {d : Nat} : updS (fwdD B c d) d (nowF B c (d + 1)) = fwdD B c (d + 1) := by
  funext i
  unfold updS fwdD
  by_cases h : i = d
  · subst h; rw [if_pos rfl, if_pos (by omega)]
  · rw [if_neg h]
    by_cases h2 : i < d
    · rw [if_pos h2, if_pos (by omega)]
    · rw [if_neg h2, if_neg (by omega)]
theorem bck_0 {B : Bank} {c : T3} (h : 1 ≤ B.days.length) : fwdD B c B.days.length = bckD B c (B.days.length - 1) := by
  funext i
  unfold fwdD bckD
  by_cases h1 : i < B.days.length
  · rw [if_pos h1, if_pos h1]
    by_cases h2 : B.days.length - 1 ≤ i
    · rw [if_pos h2]
      unfold lastF
      rw [show B.days.length - 1 - i = 0 from by omega, bk, show i + 1 = B.days.length from by omega]
    · rw [if_neg h2]
  · rw [if_neg h1, if_neg h1]
theorem last_s {B : Bank} {c : T3} {d : Nat} (h : d + 1 < B.days.length) : lastF B c d = comS (nowF B c (d + 1)) ⟨(lastF B c (d + 1)).lo - (B.days.getD (d + 1) default).hi, (lastF B c (d + 1)).hi - (B.days.getD (d + 1) default).lo⟩ := by
  unfold lastF
  rw [show B.days.length - 1 - d = (B.days.length - 1 - (d + 1)) + 1 from by omega, bk, show B.days.length - 1 - (B.days.length - 1 - (d + 1)) = d + 1 from by omega]
  rfl
theorem bck_s {B : Bank} {c : T3} {d : Nat} (h : d + 1 < B.days.length) : updS (bckD B c (d + 1)) d (comS (nowF B c (d + 1)) ⟨(lastF B c (d + 1)).lo - (B.days.getD (d + 1) default).hi, (lastF B c (d + 1)).hi - (B.days.getD (d + 1) default).lo⟩) = bckD B c d := by
  rw [← last_s h]
  funext i
  unfold updS bckD
  by_cases h1 : i = d
  · subst h1; rw [if_pos rfl, if_pos (by omega), if_pos (Nat.le_refl _)]
  · rw [if_neg h1]
    by_cases h2 : i < B.days.length
    · rw [if_pos h2, if_pos h2]
      by_cases h3 : d + 1 ≤ i
      · rw [if_pos h3, if_pos (by omega)]
      · rw [if_neg h3, if_neg (by omega)]
    · rw [if_neg h2, if_neg h2]
theorem bck_at {B : Bank} {c : T3} {d : Nat} (h : d + 1 < B.days.length) : bckD B c (d + 1) d = nowF B c (d + 1) := by
  unfold bckD; rw [if_pos (by omega), if_neg (by omega)]
theorem bck_at1 {B : Bank} {c : T3} {d : Nat} (h : d + 1 < B.days.length) : bckD B c (d + 1) (d + 1) = lastF B c (d + 1) := by
  unfold bckD; rw [if_pos h, if_pos (Nat.le_refl _)]
theorem some_0 {B : Bank} {c : T3} : someTo B c 0 := fun k hk => absurd hk (by omega)
theorem some_s {B : Bank} {c : T3} {d : Nat} (h : someTo B c d) (h2 : (nowF B c (d + 1)).lo ≤ (nowF B c (d + 1)).hi) : someTo B c (d + 1) := fun k hk => by
  by_cases e : k = d
  · subst e; exact h2
  · exact h k (by omega)
theorem upTo_is {B : Bank} {c : T3} {d : Nat} (h : someTo B c d) (h2 : ¬ (nowF B c (d + 1)).lo ≤ (nowF B c (d + 1)).hi) : ∀ n, d + 1 ≤ n → upTo B c n = d
  | 0, hn => by omega
  | n + 1, hn => by
    rw [upTo]
    by_cases e : n = d
    · subst e; rw [if_pos ⟨h, h2⟩]
    · rw [if_neg (fun x => h2 (x.1 d (by omega)))]
      exact upTo_is h h2 n (by omega)
theorem log_no {B : Bank} {c : T3} {d : Nat} (h : someTo B c d) (h2 : ¬ (nowF B c (d + 1)).lo ≤ (nowF B c (d + 1)).hi) (hd : d < B.days.length) : L13 (logD B c) (decide (canC B c)) = L13 (fwdD B c d) false := by
  have hn : ¬ canC B c := fun x => h2 (x d hd)
  rw [decide_eq_false hn]
  unfold logD
  rw [if_neg hn, upTo_is h h2 _ (by omega)]
theorem log_yes {B : Bank} {c : T3} (h : canC B c) : L13 (logD B c) (decide (canC B c)) = L13 (bckD B c 0) true := by
  rw [decide_eq_true h]
  unfold logD
  rw [if_pos h]
@[reducible] def vL (B : Bank) (c : T3) : Value := .agg (L13 (logD B c) (decide (canC B c))).toArray
def okS (B : Bank) : Value → Value → Prop := fun k v => ∀ c, k = v3 c → v = vL B c
theorem okS_mk {B : Bank} {c : T3} {v : Value} (e : v = vL B c) : okS B (v3 c) v := fun c' h => by
  have h2 : [i64 c.a, i64 c.b, i64 c.c] = [i64 c'.a, i64 c'.b, i64 c'.c] := congrArg Array.toList (Value.agg.inj h)
  simp only [List.cons.injEq, Value.int.injEq, true_and, and_true] at h2
  obtain ⟨x, y, z⟩ := h2
  cases c; cases c'
  simp only at x y z
  subst x; subst y; subst z
  exact e
end Sod2


namespace Go.Proofs.Ytpndeonmmcaikaa.SodW
open Go.G Foot4 Sod2
set_option maxRecDepth 1000000
attribute [local irreducible] G.ParO G.Fin
attribute [local irreducible] strokes strS cntTo nowF bk logD someTo upTo sodsOf cutL one
variable (B : Bank) (po so lo : Option Addr) (pc sc lc : Nat)
variable (fb mb : Nat)
set_option maxHeartbeats 4000000 in
theorem counts_v (c : T3) (d : Nat) (m : Span) (hg : GoodS B) (hc : InC c) : FnV Try.prog 80 [pt fb 0, v3 c, i64 d, vS m] [boxF fb 110 [.slice po B.spits.length pc, .slice so B.days.length sc, .slice lo B.logs.length lc, .map (some mb)], rowD po 3 encSp B.spits, rowD so 2 encS B.days, rowD lo 3 encLg B.logs] (vS (cntTo B c d m B.logs.length)) := by
 refine FnV.intro Try.call80 Try.func80 rfl Try.ntmps80 rfl ?_
 intro W M Rf
 refine r_seq ?_
 refine r_region ?_
 refine o_boxA rfl rfl rfl rfl rfl (fun b5 => ?_)
 refine o_boxA rfl rfl rfl rfl rfl (fun b7 => ?_)
 refine o_alloc rfl inf115 rfl rfl rfl rfl rfl (fun b8 => ?_)
 refine o_nil ?_
 repeat (first | with_reducible refine r_then ?_ | with_reducible refine r_in_normal ?_ | with_reducible refine r_sc_normal ?_)
 refine r_seq ?_
 refine r_seq ?_
 have hl3 := hg.2.2.1
 refine r_region ?_
 refine o_q _ rfl rfl rfl (v_move rfl rfl) ?_
 refine o_q _ rfl rfl rfl (v_nilCheck rfl rfl) ?_
 first | refine o_q _ rfl rfl rfl (v_fieldAddr rfl Try.underlying110 inf37 rfl rfl rfl rfl) ?_ | refine o_q _ rfl rfl rfl (v_fieldAddrE rfl Try.underlying110 inf37 rfl rfl rfl rfl) ?_
 first | refine o_q _ rfl rfl rfl (v_fieldAddr rfl Try.underlying37 inf35 rfl rfl rfl rfl) ?_ | refine o_q _ rfl rfl rfl (v_fieldAddrE rfl Try.underlying37 inf35 rfl rfl rfl rfl) ?_
 first | refine o_q _ rfl rfl rfl (v_ld1 rfl Try.underlying35 rfl rfl rfl) ?_ | refine o_q _ rfl rfl rfl (v_lf1 rfl Try.underlying35 rfl rfl rfl) ?_ | refine o_q _ rfl rfl rfl (v_loadE1 rfl Try.underlying35 rfl rfl (by omega) rfl rfl) ?_
 refine o_q _ rfl rfl rfl (v_len rfl rfl Try.underlying35 rfl) ?_
 refine o_q _ rfl rfl rfl (v_move rfl rfl) ?_
 refine o_nil ?_
 repeat (first | with_reducible refine r_then ?_ | with_reducible refine r_in_normal ?_ | with_reducible refine r_sc_normal ?_)
 refine r_block ?_
 refine r_loop (ι := Nat) (fun k => k ≤ B.logs.length) (fun k => [(0, pt fb 0), (2, i64 d), (5, pt b5 0), (7, pt b7 0), (8, pt b8 0), (16, .slice lo B.logs.length lc), (17, i64 B.logs.length), (18, i64 k)]) (fun k => bx b5 113 [i64 c.a, i64 c.b, i64 c.c] :: bx b7 115 [i64 (cntTo B c d m k).lo, i64 (cntTo B c d m k).hi] :: bx b8 115 [i64 0, i64 0] :: M) (fun k => [boxF fb 110 [.slice po B.spits.length pc, .slice so B.days.length sc, .slice lo B.logs.length lc, .map (some mb)], rowD po 3 encSp B.spits, rowD so 2 encS B.days, rowD lo 3 encLg B.logs] ++ Rf) (fun k => B.logs.length - k) 0 ?_ ?_ ?_
 ·
  refine Imp.box_to b8 [i64 0, i64 0] rfl ?_
  refine Imp.box_to b7 [i64 (cntTo B c d m 0).lo, i64 (cntTo B c d m 0).hi] (by rw [cntTo]) ?_
  exact r_here (by repeat (first | exact FSub.nil | refine FSub.cons rfl ?_)) SelMC.sel SubRC.sub
 ·
  omega
 ·
  rintro k hI0
  refine r_seq ?_
  refine r_region ?_
  refine o_q _ rfl rfl rfl (v_lss rfl rfl rfl) ?_
  refine o_nil ?_
  repeat (first | with_reducible refine r_then ?_ | with_reducible refine r_in_normal ?_ | with_reducible refine r_sc_normal ?_)
  refine r_seq ?_
  first | refine r_condd rfl (fun hc19 => ?_) (fun hc19 => ?_) | refine r_cond rfl (fun hc19 => ?_) (fun hc19 => ?_)
  ·
   first
   | (exfalso; revert hc19; decide)
   | (exfalso; omega)
   |
    skip
    refine r_skip ?_
    repeat (first | with_reducible refine r_then ?_ | with_reducible refine r_in_normal ?_ | with_reducible refine r_sc_normal ?_)
    refine r_seq ?_
    refine r_block ?_
    refine r_seq ?_
    refine r_region ?_
    first | refine o_q _ rfl rfl rfl (v_indexAddrSn rfl Try.underlying35 inf70 rfl rfl rfl (by omega) rfl) ?_ | refine o_q _ rfl rfl rfl (v_indexAddrS rfl Try.underlying35 inf70 rfl rfl rfl (by omega) (by omega) rfl) ?_
    first | refine o_q _ rfl rfl rfl (v_ldW rfl Try.underlying70 rfl inf70 rfl rfl) ?_ | refine o_q _ rfl rfl rfl (v_lfW rfl Try.underlying70 rfl inf70 rfl rfl) ?_ | refine o_q _ rfl rfl rfl (v_lfN rfl Try.underlying70 rfl inf70 rfl rfl rfl) ?_ | refine o_q _ rfl rfl rfl (v_ldN rfl Try.underlying70 rfl inf70 rfl rfl rfl) ?_ | refine o_q _ rfl rfl rfl (v_loadEN rfl Try.underlying70 rfl inf70 rfl (by omega) rfl rfl rfl) ?_
    refine o_alloc rfl inf70 rfl rfl rfl rfl rfl (fun b10 => ?_)
    refine o_st rfl inf70 rfl rfl rfl rfl rfl rfl rfl rfl ?_
    refine o_nil ?_
    repeat (first | with_reducible refine r_then ?_ | with_reducible refine r_in_normal ?_ | with_reducible refine r_sc_normal ?_)
    refine r_seq ?_
    refine r_region ?_
    first | refine o_q _ rfl rfl rfl (v_ldW rfl Try.underlying115 rfl inf115 rfl rfl) ?_ | refine o_q _ rfl rfl rfl (v_lfW rfl Try.underlying115 rfl inf115 rfl rfl) ?_ | refine o_q _ rfl rfl rfl (v_lfN rfl Try.underlying115 rfl inf115 rfl rfl rfl) ?_ | refine o_q _ rfl rfl rfl (v_ldN rfl Try.underlying115 rfl inf115 rfl rfl rfl) ?_ | refine o_q _ rfl rfl rfl (v_loadEN rfl Try.underlying115 rfl inf115 rfl (by omega) rfl rfl rfl) ?_
    refine o_q _ rfl rfl rfl (v_bS rfl Try.underlying161 inf161 plt161 rfl rfl rfl (by repeat (first | exact trivial | refine ⟨rfl, ?_⟩)) (by rfl)) ?_
    refine o_q _ rfl rfl rfl (v_makeIface rfl Try.underlying161 rfl rfl) ?_
    refine o_q _ rfl rfl rfl (v_assign rfl rfl) ?_
    refine o_nil ?_
    repeat (first | with_reducible refine r_then ?_ | with_reducible refine r_in_normal ?_ | with_reducible refine r_sc_normal ?_)
    refine r_seq ?_
    refine r_seq ?_
    refine Imp.box_to b10 [i64 (B.logs.getD k default).day, i64 (B.logs.getD k default).lo, i64 (B.logs.getD k default).hi] rfl ?_
    have hlk := hg.bnd.log k
    have hlk2 := hlk.2.2
    refine r_region ?_
    first | refine o_q _ rfl rfl rfl (v_fieldAddr rfl Try.underlying70 inf3 rfl rfl rfl rfl) ?_ | refine o_q _ rfl rfl rfl (v_fieldAddrE rfl Try.underlying70 inf3 rfl rfl rfl rfl) ?_
    first | refine o_q _ rfl rfl rfl (v_ld1 rfl Try.underlying3 rfl rfl rfl) ?_ | refine o_q _ rfl rfl rfl (v_lf1 rfl Try.underlying3 rfl rfl rfl) ?_ | refine o_q _ rfl rfl rfl (v_loadE1 rfl Try.underlying3 rfl rfl (by omega) rfl rfl) ?_
    refine o_q _ rfl rfl rfl (v_move rfl rfl) ?_
    refine o_q _ rfl rfl rfl (v_eql rfl rfl rfl) ?_
    refine o_nil ?_
    repeat (first | with_reducible refine r_then ?_ | with_reducible refine r_in_normal ?_ | with_reducible refine r_sc_normal ?_)
    first | refine r_condd rfl (fun hc28 => ?_) (fun hc28 => ?_) | refine r_cond rfl (fun hc28 => ?_) (fun hc28 => ?_)
    ·
     first
     | (exfalso; revert hc28; decide)
     | (exfalso; omega)
     |
      skip
      refine r_region ?_
      first | refine o_q _ rfl rfl rfl (v_ldW rfl Try.underlying115 rfl inf115 rfl rfl) ?_ | refine o_q _ rfl rfl rfl (v_lfW rfl Try.underlying115 rfl inf115 rfl rfl) ?_ | refine o_q _ rfl rfl rfl (v_lfN rfl Try.underlying115 rfl inf115 rfl rfl rfl) ?_ | refine o_q _ rfl rfl rfl (v_ldN rfl Try.underlying115 rfl inf115 rfl rfl rfl) ?_ | refine o_q _ rfl rfl rfl (v_loadEN rfl Try.underlying115 rfl inf115 rfl (by omega) rfl rfl rfl) ?_
      refine o_q _ rfl rfl rfl (v_bS rfl Try.underlying161 inf161 plt161 rfl rfl rfl (by repeat (first | exact trivial | refine ⟨rfl, ?_⟩)) (by rfl)) ?_
      first | refine o_q _ rfl rfl rfl (v_fieldAddr rfl Try.underlying70 inf42 rfl rfl rfl rfl) ?_ | refine o_q _ rfl rfl rfl (v_fieldAddrE rfl Try.underlying70 inf42 rfl rfl rfl rfl) ?_
      first | refine o_q _ rfl rfl rfl (v_ldW rfl Try.underlying42 rfl inf42 rfl rfl) ?_ | refine o_q _ rfl rfl rfl (v_lfW rfl Try.underlying42 rfl inf42 rfl rfl) ?_ | refine o_q _ rfl rfl rfl (v_lfN rfl Try.underlying42 rfl inf42 rfl rfl rfl) ?_ | refine o_q _ rfl rfl rfl (v_ldN rfl Try.underlying42 rfl inf42 rfl rfl rfl) ?_ | refine o_q _ rfl rfl rfl (v_loadEN rfl Try.underlying42 rfl inf42 rfl (by omega) rfl rfl rfl) ?_
      refine o_q _ rfl rfl rfl (v_bS rfl Try.underlying165 inf165 plt165 rfl rfl rfl (by repeat (first | exact trivial | refine ⟨rfl, ?_⟩)) (by rfl)) ?_
      refine o_q _ rfl rfl rfl (v_makeIface rfl Try.underlying165 rfl rfl) ?_
      refine o_q _ rfl rfl rfl (v_assign rfl rfl) ?_
      refine o_nil ?_
      repeat (first | with_reducible refine r_then ?_ | with_reducible refine r_in_normal ?_ | with_reducible refine r_sc_normal ?_)
      refine r_region ?_
      refine o_q _ rfl rfl rfl (v_move rfl rfl) ?_
      refine o_q _ rfl rfl rfl (v_move rfl rfl) ?_
      first | refine o_q _ rfl rfl rfl (v_ldW rfl Try.underlying113 rfl inf113 rfl rfl) ?_ | refine o_q _ rfl rfl rfl (v_lfW rfl Try.underlying113 rfl inf113 rfl rfl) ?_ | refine o_q _ rfl rfl rfl (v_lfN rfl Try.underlying113 rfl inf113 rfl rfl rfl) ?_ | refine o_q _ rfl rfl rfl (v_ldN rfl Try.underlying113 rfl inf113 rfl rfl rfl) ?_ | refine o_q _ rfl rfl rfl (v_loadEN rfl Try.underlying113 rfl inf113 rfl (by omega) rfl rfl rfl) ?_
      first | refine o_q _ rfl rfl rfl (OpQ.invoke (ofDay_v fb (cntTo B c d m k) c) (dayM) rfl rfl rfl rfl SubRC.sub) ?_ | refine o_q _ rfl rfl rfl (OpQ.invoke (ofCounted_v B po so lo pc sc lc fb mb (cntTo B c d m k) (B.logs.getD k default) c hg hc hlk2) (countedM) rfl rfl rfl rfl SubRC.sub) ?_
      refine o_st rfl inf115 rfl rfl rfl rfl rfl rfl rfl rfl ?_
      refine o_nil ?_
      repeat (first | with_reducible refine r_then ?_ | with_reducible refine r_in_normal ?_ | with_reducible refine r_sc_normal ?_)
      refine r_region ?_
      refine o_q _ rfl rfl rfl (v_add rfl rfl rfl (by omega)) ?_
      refine o_q _ rfl rfl rfl (v_move rfl rfl) ?_
      refine o_nil ?_
      repeat (first | with_reducible refine r_then ?_ | with_reducible refine r_in_normal ?_ | with_reducible refine r_sc_normal ?_)
      refine r_next (k + 1) ?_ ?_ ?_
      ·
       first
       | (refine Imp.box_to b7 [i64 (cntTo B c d m (k + 1)).lo, i64 (cntTo B c d m (k + 1)).hi] (by rw [cntTo_y (by assumption)]; rfl) ?_; exact r_here (by repeat (first | exact FSub.nil | refine FSub.cons rfl ?_)) SelMC.sel SubRC.sub)
       | (refine Imp.box_to b7 [i64 (cntTo B c d m (k + 1)).lo, i64 (cntTo B c d m (k + 1)).hi] (by rw [cntTo_n (by assumption)]; rfl) ?_; exact r_here (by repeat (first | exact FSub.nil | refine FSub.cons rfl ?_)) SelMC.sel SubRC.sub)
      ·
       omega
      ·
       omega
    ·
     first
     | (exfalso; revert hc28; decide)
     | (exfalso; omega)
     |
      skip
      refine r_skip ?_
      repeat (first | with_reducible refine r_then ?_ | with_reducible refine r_in_normal ?_ | with_reducible refine r_sc_normal ?_)
      refine r_region ?_
      refine o_q _ rfl rfl rfl (v_move rfl rfl) ?_
      refine o_q _ rfl rfl rfl (v_move rfl rfl) ?_
      first | refine o_q _ rfl rfl rfl (v_ldW rfl Try.underlying113 rfl inf113 rfl rfl) ?_ | refine o_q _ rfl rfl rfl (v_lfW rfl Try.underlying113 rfl inf113 rfl rfl) ?_ | refine o_q _ rfl rfl rfl (v_lfN rfl Try.underlying113 rfl inf113 rfl rfl rfl) ?_ | refine o_q _ rfl rfl rfl (v_ldN rfl Try.underlying113 rfl inf113 rfl rfl rfl) ?_ | refine o_q _ rfl rfl rfl (v_loadEN rfl Try.underlying113 rfl inf113 rfl (by omega) rfl rfl rfl) ?_
      first | refine o_q _ rfl rfl rfl (OpQ.invoke (ofDay_v fb (cntTo B c d m k) c) (dayM) rfl rfl rfl rfl SubRC.sub) ?_ | refine o_q _ rfl rfl rfl (OpQ.invoke (ofCounted_v B po so lo pc sc lc fb mb (cntTo B c d m k) (B.logs.getD k default) c hg hc hlk2) (countedM) rfl rfl rfl rfl SubRC.sub) ?_
      refine o_st rfl inf115 rfl rfl rfl rfl rfl rfl rfl rfl ?_
      refine o_nil ?_
      repeat (first | with_reducible refine r_then ?_ | with_reducible refine r_in_normal ?_ | with_reducible refine r_sc_normal ?_)
      refine r_region ?_
      refine o_q _ rfl rfl rfl (v_add rfl rfl rfl (by omega)) ?_
      refine o_q _ rfl rfl rfl (v_move rfl rfl) ?_
      refine o_nil ?_
      repeat (first | with_reducible refine r_then ?_ | with_reducible refine r_in_normal ?_ | with_reducible refine r_sc_normal ?_)
      refine r_next (k + 1) ?_ ?_ ?_
      ·
       first
       | (refine Imp.box_to b7 [i64 (cntTo B c d m (k + 1)).lo, i64 (cntTo B c d m (k + 1)).hi] (by rw [cntTo_y (by assumption)]; rfl) ?_; exact r_here (by repeat (first | exact FSub.nil | refine FSub.cons rfl ?_)) SelMC.sel SubRC.sub)
       | (refine Imp.box_to b7 [i64 (cntTo B c d m (k + 1)).lo, i64 (cntTo B c d m (k + 1)).hi] (by rw [cntTo_n (by assumption)]; rfl) ?_; exact r_here (by repeat (first | exact FSub.nil | refine FSub.cons rfl ?_)) SelMC.sel SubRC.sub)
      ·
       omega
      ·
       omega
  ·
   first
   | (exfalso; revert hc19; decide)
   | (exfalso; omega)
   |
    skip
    refine r_exit ?_
    repeat (first | with_reducible refine r_then_exit ?_ | with_reducible refine r_sc_exit ?_ | with_reducible refine r_in_here ?_ | (with_reducible refine r_in_past (by decide) ?_) | with_reducible refine r_then ?_ | with_reducible refine r_in_normal ?_ | with_reducible refine r_sc_normal ?_)
    refine r_seq ?_
    refine r_region ?_
    first | refine o_q _ rfl rfl rfl (v_ldW rfl Try.underlying115 rfl inf115 rfl rfl) ?_ | refine o_q _ rfl rfl rfl (v_lfW rfl Try.underlying115 rfl inf115 rfl rfl) ?_ | refine o_q _ rfl rfl rfl (v_lfN rfl Try.underlying115 rfl inf115 rfl rfl rfl) ?_ | refine o_q _ rfl rfl rfl (v_ldN rfl Try.underlying115 rfl inf115 rfl rfl rfl) ?_ | refine o_q _ rfl rfl rfl (v_loadEN rfl Try.underlying115 rfl inf115 rfl (by omega) rfl rfl rfl) ?_
    refine o_st rfl inf115 rfl rfl rfl rfl rfl rfl rfl rfl ?_
    refine o_nil ?_
    repeat (first | with_reducible refine r_then ?_ | with_reducible refine r_in_normal ?_ | with_reducible refine r_sc_normal ?_)
    refine r_ret ?_
    repeat (first | with_reducible refine r_then_ret ?_ | with_reducible refine r_in_ret ?_ | with_reducible refine r_sc_ret ?_)
    obtain rfl : k = B.logs.length := by omega
    refine Imp.box_to b8 [i64 (cntTo B c d m B.logs.length).lo, i64 (cntTo B c d m B.logs.length).hi] rfl ?_
    exact r_retv2 (Rd.one rfl (RdI.cellW Try.underlying115 rfl inf115 rfl rfl)) rfl SelMC.sel SubRC.sub
theorem laid0 : laidOutB Try.prog = true := by kernel_rfl
theorem keyLawC : WideMaps.KeyLaw Try.prog 113 := deep_law_gate laid0 (by decide +kernel) (by decide +kernel) (by kernel_rfl) (by kernel_rfl)
theorem kl3 (d : Nat) {x : Int} (h : 0 ≤ x ∧ x ≤ 1000) : Try.prog.keyLits (d + 1) 3 [i64 x] = some [.int .i64 x] := by
  have hw : (Lit.int .i64 x).wf = true := by
    have m1 : IntKind.i64.min = -9223372036854775808 := rfl
    have m2 : IntKind.i64.max = 9223372036854775807 := rfl
    simp only [Lit.wf]
    simp
    omega
  unfold Program.keyLits
  rw [Try.underlying3]
  simp [hw]
theorem key_of (c : T3) (hc : InC c) : ∃ l, keyOf Try.prog 113 (v3 c) = some l := by
  have h1 := Try.underlying113
  unfold keyOf
  rw [h1]
  have h2 : Try.prog.keyType 113 = true := by kernel_rfl
  have h3 : (v3 c).formed Try.prog 113 = true := by kernel_rfl
  have cA : Try.prog.cellsOf 113 = 3 := by kernel_rfl
  have cB : Try.prog.cellsOf 23 = 3 := by kernel_rfl
  have c3 : Try.prog.cellsOf 3 = 1 := by kernel_rfl
  have ha : 0 ≤ c.a ∧ c.a ≤ 1000 := by have : 0 ≤ c.a ∧ c.a ≤ 6 := hc 0 (by omega); omega
  have hb : 0 ≤ c.b ∧ c.b ≤ 1000 := by have : 0 ≤ c.b ∧ c.b ≤ 6 := hc 1 (by omega); omega
  have hd : 0 ≤ c.c ∧ c.c ≤ 1000 := by have : 0 ≤ c.c ∧ c.c ≤ 6 := hc 2 (by omega); omega
  have eB : ∀ m, Try.prog.keyLits (m + 2) 23 [i64 c.a, i64 c.b, i64 c.c] = some [.int .i64 c.a, .int .i64 c.b, .int .i64 c.c] := by
    intro m
    unfold Program.keyLits
    rw [Try.underlying23]
    simp [cB, c3, List.range, List.range.loop, kl3, ha, hb, hd]
  have eA : Try.prog.keyLits (Try.prog.types.size + 1) 113 (v3 c).cells.toList = some [.int .i64 c.a, .int .i64 c.b, .int .i64 c.c] := by
    have hsz : Try.prog.types.size + 1 = 183 + 3 := by kernel_rfl
    rw [hsz]
    unfold Program.keyLits
    rw [Try.underlying113]
    simp [cA, cB, c3, Value.cells, eB]
  rw [eA, h2, h3]
  exact ⟨_, rfl⟩
set_option maxHeartbeats 4000000 in
theorem log_t (c : T3) (hg : GoodS B) (hc : InC c) : FnC Try.prog 73 [pt fb 0, v3 c] (memoH Try.prog 113 (okS B) mb (v3 c) true) [boxF fb 110 [.slice po B.spits.length pc, .slice so B.days.length sc, .slice lo B.logs.length lc, .map (some mb)], rowD po 3 encSp B.spits, rowD so 2 encS B.days, rowD lo 3 encLg B.logs] (vL B c) (memo Try.prog 113 (okS B) mb) := by
 obtain ⟨kl, hkl⟩ := key_of c hc
 refine FnC.intro Try.call73 Try.func73 rfl Try.ntmps73 rfl ?_
 intro W M Rf
 refine r_seq ?_
 refine r_region ?_
 refine o_boxA rfl rfl rfl rfl rfl (fun b3 => ?_)
 refine o_alloc (zs := L13 zF false) rfl inf118 rfl (by kernel_rfl) rfl rfl rfl (fun b4 => ?_)
 refine o_nil ?_
 repeat (first | with_reducible refine r_then ?_ | with_reducible refine r_in_normal ?_ | with_reducible refine r_sc_normal ?_)
 refine r_seq ?_
 refine r_seq ?_
 refine r_par' 11 mixed (by kernel_rfl) (by rfl) ?_
 refine p_q _ rfl rfl rfl (fun _ _ => v_move rfl rfl) ?_
 refine p_q _ rfl rfl rfl (fun _ _ => v_nilCheck rfl rfl) ?_
 first | refine p_q _ rfl rfl rfl (fun _ _ => v_fieldAddr rfl Try.underlying110 inf108 rfl rfl rfl rfl) ?_ | refine p_q _ rfl rfl rfl (fun _ _ => v_fieldAddrE rfl Try.underlying110 inf108 rfl rfl rfl rfl) ?_
 first | refine p_q _ rfl rfl rfl (fun _ _ => v_ld1 rfl Try.underlying108 rfl rfl rfl) ?_ | refine p_q _ rfl rfl rfl (fun _ _ => v_lf1 rfl Try.underlying108 rfl rfl rfl) ?_ | refine p_q _ rfl rfl rfl (fun _ _ => v_loadE1 rfl Try.underlying108 rfl rfl (by omega) rfl rfl) ?_
 first | refine p_q _ rfl rfl rfl (fun _ _ => v_ldW rfl Try.underlying113 rfl inf113 rfl rfl) ?_ | refine p_q _ rfl rfl rfl (fun _ _ => v_lfW rfl Try.underlying113 rfl inf113 rfl rfl) ?_ | refine p_q _ rfl rfl rfl (fun _ _ => v_lfN rfl Try.underlying113 rfl inf113 rfl rfl rfl) ?_ | refine p_q _ rfl rfl rfl (fun _ _ => v_ldN rfl Try.underlying113 rfl inf113 rfl rfl rfl) ?_ | refine p_q _ rfl rfl rfl (fun _ _ => v_loadEN rfl Try.underlying113 rfl inf113 rfl (by omega) rfl rfl rfl) ?_
 refine p_q _ rfl rfl rfl (fun _ _ => v_cast (v := .tuple #[vL B c, .bool true]) (v_lookH (okS B) true (vL B c) keyLawC hkl rfl Try.underlying108 inf118 (z := .agg (L13 zF false).toArray) (by kernel_rfl) (fun _ u hu => hu c rfl) rfl rfl) (rfl)) ?_
 refine p_q _ rfl rfl rfl (fun _ _ => v_move rfl rfl) ?_
 refine p_q _ rfl rfl rfl (fun _ _ => v_extract rfl rfl rfl) ?_
 refine p_q _ rfl rfl rfl (fun _ _ => v_extract rfl rfl rfl) ?_
 refine p_allocL (zs := L13 zF false) 10 (L13 (logD B c) (decide (canC B c))) rfl inf118 rfl (by kernel_rfl) rfl rfl rfl ?_
 refine p_acc (by simp only [List.nil_append, List.cons_append]; rfl) ?_
 refine p_stl 9 rfl rfl rfl inf118 rfl rfl rfl (by kernel_rfl) (fun _ => rfl) rfl (rfl) (rfl) (rfl) ?_
 refine p_nil2 (by simp only [List.nil_append, List.cons_append]; rfl) rfl ?_ (by kernel_rfl)
 refine f_q rfl ?_
 refine f_q rfl ?_
 refine f_q rfl ?_
 refine f_q rfl ?_
 refine f_q rfl ?_
 refine f_q rfl ?_
 refine f_q rfl ?_
 refine f_q rfl ?_
 refine f_q rfl ?_
 refine f_allocL rfl (fun b5 => ?_)
 refine f_s rfl ?_
 refine f_nil ?_
 refine o_q _ rfl rfl rfl (v_assign rfl rfl) ?_
 refine o_nil ?_
 repeat (first | with_reducible refine r_then ?_ | with_reducible refine r_in_normal ?_ | with_reducible refine r_sc_normal ?_)
 refine r_seq ?_
 refine r_region ?_
 refine o_q _ rfl rfl rfl (v_move rfl rfl) ?_
 refine o_nil ?_
 repeat (first | with_reducible refine r_then ?_ | with_reducible refine r_in_normal ?_ | with_reducible refine r_sc_normal ?_)
 first | refine r_condd rfl (fun hc22 => ?_) (fun hc22 => ?_) | refine r_cond rfl (fun hc22 => ?_) (fun hc22 => ?_)
 ·
  first
  | (exfalso; revert hc22; decide)
  | (exfalso; omega)
  |
   skip
   refine r_seq ?_
   refine r_region ?_
   refine o_q _ rfl rfl rfl (v_ldW rfl Try.underlying118 rfl inf118 rfl rfl) ?_
   refine o_st (us := L13 (logD B c) (decide (canC B c))) rfl inf118 rfl rfl rfl rfl rfl rfl rfl (by rfl) ?_
   refine o_nil ?_
   repeat (first | with_reducible refine r_then ?_ | with_reducible refine r_in_normal ?_ | with_reducible refine r_sc_normal ?_)
   refine r_ret ?_
   repeat (first | with_reducible refine r_then_ret ?_ | with_reducible refine r_in_ret ?_ | with_reducible refine r_sc_ret ?_)
   refine Imp.box_to b4 (L13 (logD B c) (decide (canC B c))) rfl ?_
   refine Imp.memo_join (P := Try.prog) (k := 113) (ok := okS B) (b := mb) (kv := v3 c) (has := true) ?_
   exact r_rete [memo Try.prog 113 (okS B) mb] [] (Rd.one rfl (RdI.cellW Try.underlying118 rfl inf118 rfl rfl)) ⟨rfl, rfl, rfl⟩ SelMC.sel SubRC.sub
 ·
  first
  | (exfalso; revert hc22; decide)
  | (exfalso; omega)
  |
   skip
   (exfalso; omega)
theorem day_sm {B : Bank} (hg : GoodS B) (d : Nat) : SmS (B.days.getD d default) := by have := hg.bnd.day d; unfold SmS; omega
theorem last_sm {B : Bank} {c : T3} (hg : GoodS B) (hc : InC c) (d : Nat) : SmS (lastF B c d) := by
  have h2 := hg.2.1
  have := bk_bd hg hc (B.days.length - 1 - d) (by omega)
  unfold SmS lastF; omega
set_option maxHeartbeats 4000000 in
theorem log_f (c : T3) (hg : GoodS B) (hc : InC c) : FnC Try.prog 73 [pt fb 0, v3 c] (memoH Try.prog 113 (okS B) mb (v3 c) false) [boxF fb 110 [.slice po B.spits.length pc, .slice so B.days.length sc, .slice lo B.logs.length lc, .map (some mb)], rowD po 3 encSp B.spits, rowD so 2 encS B.days, rowD lo 3 encLg B.logs] (vL B c) (memo Try.prog 113 (okS B) mb) := by
 obtain ⟨kl, hkl⟩ := key_of c hc
 refine FnC.intro Try.call73 Try.func73 rfl Try.ntmps73 rfl ?_
 intro W M Rf
 refine r_seq ?_
 refine r_region ?_
 refine o_boxA rfl rfl rfl rfl rfl (fun b3 => ?_)
 refine o_alloc (zs := L13 zF false) rfl inf118 rfl (by kernel_rfl) rfl rfl rfl (fun b4 => ?_)
 refine o_nil ?_
 repeat (first | with_reducible refine r_then ?_ | with_reducible refine r_in_normal ?_ | with_reducible refine r_sc_normal ?_)
 refine r_seq ?_
 refine r_seq ?_
 have h2 := hg.2.1
 have h3 := hg.1
 refine r_par' 11 mixed (by kernel_rfl) (by rfl) ?_
 refine p_q _ rfl rfl rfl (fun _ _ => v_move rfl rfl) ?_
 refine p_q _ rfl rfl rfl (fun _ _ => v_nilCheck rfl rfl) ?_
 first | refine p_q _ rfl rfl rfl (fun _ _ => v_fieldAddr rfl Try.underlying110 inf108 rfl rfl rfl rfl) ?_ | refine p_q _ rfl rfl rfl (fun _ _ => v_fieldAddrE rfl Try.underlying110 inf108 rfl rfl rfl rfl) ?_
 first | refine p_q _ rfl rfl rfl (fun _ _ => v_ld1 rfl Try.underlying108 rfl rfl rfl) ?_ | refine p_q _ rfl rfl rfl (fun _ _ => v_lf1 rfl Try.underlying108 rfl rfl rfl) ?_ | refine p_q _ rfl rfl rfl (fun _ _ => v_loadE1 rfl Try.underlying108 rfl rfl (by omega) rfl rfl) ?_
 first | refine p_q _ rfl rfl rfl (fun _ _ => v_ldW rfl Try.underlying113 rfl inf113 rfl rfl) ?_ | refine p_q _ rfl rfl rfl (fun _ _ => v_lfW rfl Try.underlying113 rfl inf113 rfl rfl) ?_ | refine p_q _ rfl rfl rfl (fun _ _ => v_lfN rfl Try.underlying113 rfl inf113 rfl rfl rfl) ?_ | refine p_q _ rfl rfl rfl (fun _ _ => v_ldN rfl Try.underlying113 rfl inf113 rfl rfl rfl) ?_ | refine p_q _ rfl rfl rfl (fun _ _ => v_loadEN rfl Try.underlying113 rfl inf113 rfl (by omega) rfl rfl rfl) ?_
 refine p_q _ rfl rfl rfl (fun _ _ => v_cast (v := .tuple #[.agg (L13 zF false).toArray, .bool false]) (v_lookH (okS B) false (vL B c) keyLawC hkl rfl Try.underlying108 inf118 (z := .agg (L13 zF false).toArray) (by kernel_rfl) (fun _ u hu => hu c rfl) rfl rfl) (rfl)) ?_
 refine p_q _ rfl rfl rfl (fun _ _ => v_move rfl rfl) ?_
 refine p_q _ rfl rfl rfl (fun _ _ => v_extract rfl rfl rfl) ?_
 refine p_q _ rfl rfl rfl (fun _ _ => v_extract rfl rfl rfl) ?_
 refine p_allocL (zs := L13 zF false) 10 (L13 zF false) rfl inf118 rfl (by kernel_rfl) rfl rfl rfl ?_
 refine p_acc (by simp only [List.nil_append, List.cons_append]; rfl) ?_
 refine p_stl 9 rfl rfl rfl inf118 rfl rfl rfl (by kernel_rfl) (fun _ => rfl) rfl (rfl) (rfl) (rfl) ?_
 refine p_nil2 (by simp only [List.nil_append, List.cons_append]; rfl) rfl ?_ (by kernel_rfl)
 refine f_q rfl ?_
 refine f_q rfl ?_
 refine f_q rfl ?_
 refine f_q rfl ?_
 refine f_q rfl ?_
 refine f_q rfl ?_
 refine f_q rfl ?_
 refine f_q rfl ?_
 refine f_q rfl ?_
 refine f_allocL rfl (fun b5 => ?_)
 refine f_s rfl ?_
 refine f_nil ?_
 refine o_q _ rfl rfl rfl (v_assign rfl rfl) ?_
 refine o_nil ?_
 repeat (first | with_reducible refine r_then ?_ | with_reducible refine r_in_normal ?_ | with_reducible refine r_sc_normal ?_)
 refine r_seq ?_
 refine r_region ?_
 refine o_q _ rfl rfl rfl (v_move rfl rfl) ?_
 refine o_nil ?_
 repeat (first | with_reducible refine r_then ?_ | with_reducible refine r_in_normal ?_ | with_reducible refine r_sc_normal ?_)
 first | refine r_condd rfl (fun hc22 => ?_) (fun hc22 => ?_) | refine r_cond rfl (fun hc22 => ?_) (fun hc22 => ?_)
 ·
  first
  | (exfalso; revert hc22; decide)
  | (exfalso; omega)
  |
   skip
   (exfalso; omega)
 ·
  first
  | (exfalso; revert hc22; decide)
  | (exfalso; omega)
  |
   skip
   refine r_skip ?_
   repeat (first | with_reducible refine r_then ?_ | with_reducible refine r_in_normal ?_ | with_reducible refine r_sc_normal ?_)
   refine r_seq ?_
   refine r_region ?_
   refine o_q _ rfl rfl rfl (v_bS0 rfl Try.underlying115 inf115 plt115 rfl rfl) ?_
   refine o_alloc rfl inf115 rfl rfl rfl rfl rfl (fun b7 => ?_)
   refine o_st rfl inf115 rfl rfl rfl rfl rfl rfl rfl rfl ?_
   refine o_nil ?_
   repeat (first | with_reducible refine r_then ?_ | with_reducible refine r_in_normal ?_ | with_reducible refine r_sc_normal ?_)
   refine r_seq ?_
   refine r_seq ?_
   refine r_region ?_
   refine o_q _ rfl rfl rfl (v_move rfl rfl) ?_
   refine o_q _ rfl rfl rfl (v_nilCheck rfl rfl) ?_
   first | refine o_q _ rfl rfl rfl (v_fieldAddr rfl Try.underlying110 inf37 rfl rfl rfl rfl) ?_ | refine o_q _ rfl rfl rfl (v_fieldAddrE rfl Try.underlying110 inf37 rfl rfl rfl rfl) ?_
   first | refine o_q _ rfl rfl rfl (v_fieldAddr rfl Try.underlying37 inf22 rfl rfl rfl rfl) ?_ | refine o_q _ rfl rfl rfl (v_fieldAddrE rfl Try.underlying37 inf22 rfl rfl rfl rfl) ?_
   first | refine o_q _ rfl rfl rfl (v_ld1 rfl Try.underlying22 rfl rfl rfl) ?_ | refine o_q _ rfl rfl rfl (v_lf1 rfl Try.underlying22 rfl rfl rfl) ?_ | refine o_q _ rfl rfl rfl (v_loadE1 rfl Try.underlying22 rfl rfl (by omega) rfl rfl) ?_
   refine o_q _ rfl rfl rfl (v_len rfl rfl Try.underlying22 rfl) ?_
   refine o_q _ rfl rfl rfl (v_move rfl rfl) ?_
   refine o_nil ?_
   repeat (first | with_reducible refine r_then ?_ | with_reducible refine r_in_normal ?_ | with_reducible refine r_sc_normal ?_)
   refine r_block ?_
   refine r_loop (ι := Nat) (fun d => d ≤ B.days.length ∧ someTo B c d) (fun d => [(0, pt fb 0), (3, pt b3 0), (4, pt b4 0), (7, pt b7 0), (29, .slice so B.days.length sc), (30, i64 B.days.length), (31, i64 d)]) (fun d => bx b3 113 [i64 c.a, i64 c.b, i64 c.c] :: bx b4 118 (L13 (fwdD B c d) false) :: bx b7 115 [i64 (nowF B c d).lo, i64 (nowF B c d).hi] :: memoH Try.prog 113 (okS B) mb (v3 c) false :: M) (fun d => [boxF fb 110 [.slice po B.spits.length pc, .slice so B.days.length sc, .slice lo B.logs.length lc, .map (some mb)], rowD po 3 encSp B.spits, rowD so 2 encS B.days, rowD lo 3 encLg B.logs] ++ Rf) (fun d => B.days.length - d) 0 ?_ ?_ ?_
   ·
    refine Imp.box_to b4 (L13 (fwdD B c 0) false) (by rw [← fwd_0]) ?_
    refine Imp.box_to b7 [i64 (nowF B c 0).lo, i64 (nowF B c 0).hi] (by rw [nowF]; rfl) ?_
    exact r_here (by repeat (first | exact FSub.nil | refine FSub.cons rfl ?_)) SelMC.sel SubRC.sub
   ·
    exact ⟨Nat.zero_le _, some_0⟩
   ·
    rintro d hI0
    refine r_seq ?_
    refine r_region ?_
    refine o_q _ rfl rfl rfl (v_lss rfl rfl rfl) ?_
    refine o_nil ?_
    repeat (first | with_reducible refine r_then ?_ | with_reducible refine r_in_normal ?_ | with_reducible refine r_sc_normal ?_)
    refine r_seq ?_
    first | refine r_condd rfl (fun hc32 => ?_) (fun hc32 => ?_) | refine r_cond rfl (fun hc32 => ?_) (fun hc32 => ?_)
    ·
     first
     | (exfalso; revert hc32; decide)
     | (exfalso; omega)
     |
      skip
      refine r_skip ?_
      repeat (first | with_reducible refine r_then ?_ | with_reducible refine r_in_normal ?_ | with_reducible refine r_sc_normal ?_)
      refine r_seq ?_
      refine r_block ?_
      refine r_seq ?_
      refine r_region ?_
      refine o_q _ rfl rfl rfl (v_move rfl rfl) ?_
      first | refine o_q _ rfl rfl rfl (v_indexAddrSn rfl Try.underlying22 inf42 rfl rfl rfl (by omega) rfl) ?_ | refine o_q _ rfl rfl rfl (v_indexAddrS rfl Try.underlying22 inf42 rfl rfl rfl (by omega) (by omega) rfl) ?_
      first | refine o_q _ rfl rfl rfl (v_ldW rfl Try.underlying42 rfl inf42 rfl rfl) ?_ | refine o_q _ rfl rfl rfl (v_lfW rfl Try.underlying42 rfl inf42 rfl rfl) ?_ | refine o_q _ rfl rfl rfl (v_lfN rfl Try.underlying42 rfl inf42 rfl rfl rfl) ?_ | refine o_q _ rfl rfl rfl (v_ldN rfl Try.underlying42 rfl inf42 rfl rfl rfl) ?_ | refine o_q _ rfl rfl rfl (v_loadEN rfl Try.underlying42 rfl inf42 rfl (by omega) rfl rfl rfl) ?_
      refine o_alloc rfl inf42 rfl rfl rfl rfl rfl (fun b9 => ?_)
      refine o_q _ rfl rfl rfl (v_assign rfl rfl) ?_
      refine o_st rfl inf42 rfl rfl rfl rfl rfl rfl rfl rfl ?_
      refine o_nil ?_
      repeat (first | with_reducible refine r_then ?_ | with_reducible refine r_in_normal ?_ | with_reducible refine r_sc_normal ?_)
      refine r_seq ?_
      refine Imp.box_to b9 [i64 (B.days.getD d default).lo, i64 (B.days.getD d default).hi] rfl ?_
      refine r_region ?_
      first | refine o_q _ rfl rfl rfl (v_ldW rfl Try.underlying115 rfl inf115 rfl rfl) ?_ | refine o_q _ rfl rfl rfl (v_lfW rfl Try.underlying115 rfl inf115 rfl rfl) ?_ | refine o_q _ rfl rfl rfl (v_lfN rfl Try.underlying115 rfl inf115 rfl rfl rfl) ?_ | refine o_q _ rfl rfl rfl (v_ldN rfl Try.underlying115 rfl inf115 rfl rfl rfl) ?_ | refine o_q _ rfl rfl rfl (v_loadEN rfl Try.underlying115 rfl inf115 rfl (by omega) rfl rfl rfl) ?_
      refine o_q _ rfl rfl rfl (v_makeFunc rfl rfl rfl) ?_
      refine o_q _ rfl rfl rfl (v_assign rfl rfl) ?_
      refine o_nil ?_
      repeat (first | with_reducible refine r_then ?_ | with_reducible refine r_in_normal ?_ | with_reducible refine r_sc_normal ?_)
      refine r_seq ?_
      refine r_par' 6 mixed (by kernel_rfl) (by rfl) ?_
      refine p_q _ rfl rfl rfl (fun _ _ => v_move rfl rfl) ?_
      first | refine p_q _ rfl rfl rfl (fun _ _ => v_ldW rfl Try.underlying113 rfl inf113 rfl rfl) ?_ | refine p_q _ rfl rfl rfl (fun _ _ => v_lfW rfl Try.underlying113 rfl inf113 rfl rfl) ?_ | refine p_q _ rfl rfl rfl (fun _ _ => v_lfN rfl Try.underlying113 rfl inf113 rfl rfl rfl) ?_ | refine p_q _ rfl rfl rfl (fun _ _ => v_ldN rfl Try.underlying113 rfl inf113 rfl rfl rfl) ?_ | refine p_q _ rfl rfl rfl (fun _ _ => v_loadEN rfl Try.underlying113 rfl inf113 rfl (by omega) rfl rfl rfl) ?_
      refine p_q _ rfl rfl rfl (fun _ _ => v_move rfl rfl) ?_
      refine p_q _ rfl rfl rfl (fun _ _ => v_move rfl rfl) ?_
      first | refine p_q _ rfl rfl rfl (fun _ _ => v_ldW rfl Try.underlying42 rfl inf42 rfl rfl) ?_ | refine p_q _ rfl rfl rfl (fun _ _ => v_lfW rfl Try.underlying42 rfl inf42 rfl rfl) ?_ | refine p_q _ rfl rfl rfl (fun _ _ => v_lfN rfl Try.underlying42 rfl inf42 rfl rfl rfl) ?_ | refine p_q _ rfl rfl rfl (fun _ _ => v_ldN rfl Try.underlying42 rfl inf42 rfl rfl rfl) ?_ | refine p_q _ rfl rfl rfl (fun _ _ => v_loadEN rfl Try.underlying42 rfl inf42 rfl (by omega) rfl rfl rfl) ?_
      refine p_q _ rfl rfl rfl (fun _ _ => OpQ.call (later_v (nowF B c d) (B.days.getD d default) (FwB.sm (nowF_bd hg hc d) (by omega)) (day_sm hg d)) rfl [vS (nowF B c d)] [] rfl rfl rfl SubRC.sub) ?_
      refine p_nil2 (by simp only [List.nil_append, List.cons_append]; rfl) rfl ?_
      refine f_q rfl ?_
      refine f_q rfl ?_
      refine f_q rfl ?_
      refine f_q rfl ?_
      refine f_q rfl ?_
      refine f_q rfl ?_
      refine f_nil ?_
      refine o_q _ rfl rfl rfl (OpQ.fn (counts_v B po so lo pc sc lc fb mb c d (⟨(nowF B c d).lo + (B.days.getD d default).lo, (nowF B c d).hi + (B.days.getD d default).hi⟩ : Span) hg hc) rfl rfl SubRC.sub) ?_
      refine o_st rfl inf115 rfl rfl rfl rfl rfl rfl rfl rfl ?_
      refine o_nil ?_
      repeat (first | with_reducible refine r_then ?_ | with_reducible refine r_in_normal ?_ | with_reducible refine r_sc_normal ?_)
      refine r_seq ?_
      refine r_seq ?_
      refine Imp.box_to b7 [i64 (nowF B c (d + 1)).lo, i64 (nowF B c (d + 1)).hi] (by rw [nowF]; rfl) ?_
      refine r_region ?_
      first | refine o_q _ rfl rfl rfl (v_ldW rfl Try.underlying115 rfl inf115 rfl rfl) ?_ | refine o_q _ rfl rfl rfl (v_lfW rfl Try.underlying115 rfl inf115 rfl rfl) ?_ | refine o_q _ rfl rfl rfl (v_lfN rfl Try.underlying115 rfl inf115 rfl rfl rfl) ?_ | refine o_q _ rfl rfl rfl (v_ldN rfl Try.underlying115 rfl inf115 rfl rfl rfl) ?_ | refine o_q _ rfl rfl rfl (v_loadEN rfl Try.underlying115 rfl inf115 rfl (by omega) rfl rfl rfl) ?_
      first | refine o_q _ rfl rfl rfl (v_true (OpQ.fn (some_v (nowF B c (d + 1))) rfl rfl SubRC.sub) (by omega)) ?_ | refine o_q _ rfl rfl rfl (v_false (OpQ.fn (some_v (nowF B c (d + 1))) rfl rfl SubRC.sub) (by omega)) ?_ | refine o_test rfl rfl rfl (OpQ.fn (some_v (nowF B c (d + 1))) rfl rfl SubRC.sub) (fun h46 => ?_) (fun h46 => ?_)
      all_goals
       refine o_q _ rfl rfl rfl (v_not rfl rfl) ?_
       refine o_nil ?_
       repeat (first | with_reducible refine r_then ?_ | with_reducible refine r_in_normal ?_ | with_reducible refine r_sc_normal ?_)
       first | refine r_condd rfl (fun hc47 => ?_) (fun hc47 => ?_) | refine r_cond rfl (fun hc47 => ?_) (fun hc47 => ?_)
       ·
        first
        | (exfalso; revert hc47; decide)
        | (exfalso; omega)
        |
         skip
         refine r_seq ?_
         refine r_par' 6 mixed (by kernel_rfl) (by rfl) ?_
         refine p_q _ rfl rfl rfl (fun _ _ => v_move rfl rfl) ?_
         refine p_q _ rfl rfl rfl (fun _ _ => v_nilCheck rfl rfl) ?_
         first | refine p_q _ rfl rfl rfl (fun _ _ => v_fieldAddr rfl Try.underlying110 inf108 rfl rfl rfl rfl) ?_ | refine p_q _ rfl rfl rfl (fun _ _ => v_fieldAddrE rfl Try.underlying110 inf108 rfl rfl rfl rfl) ?_
         first | refine p_q _ rfl rfl rfl (fun _ _ => v_ld1 rfl Try.underlying108 rfl rfl rfl) ?_ | refine p_q _ rfl rfl rfl (fun _ _ => v_lf1 rfl Try.underlying108 rfl rfl rfl) ?_ | refine p_q _ rfl rfl rfl (fun _ _ => v_loadE1 rfl Try.underlying108 rfl rfl (by omega) rfl rfl) ?_
         first | refine p_q _ rfl rfl rfl (fun _ _ => v_ldW rfl Try.underlying113 rfl inf113 rfl rfl) ?_ | refine p_q _ rfl rfl rfl (fun _ _ => v_lfW rfl Try.underlying113 rfl inf113 rfl rfl) ?_ | refine p_q _ rfl rfl rfl (fun _ _ => v_lfN rfl Try.underlying113 rfl inf113 rfl rfl rfl) ?_ | refine p_q _ rfl rfl rfl (fun _ _ => v_ldN rfl Try.underlying113 rfl inf113 rfl rfl rfl) ?_ | refine p_q _ rfl rfl rfl (fun _ _ => v_loadEN rfl Try.underlying113 rfl inf113 rfl (by omega) rfl rfl rfl) ?_
         refine p_q _ rfl rfl rfl (fun _ _ => v_ldW rfl Try.underlying118 rfl inf118 rfl rfl) ?_
         refine p_nil2 (by simp only [List.nil_append, List.cons_append]; rfl) rfl ?_
         refine f_q rfl ?_
         refine f_q rfl ?_
         refine f_q rfl ?_
         refine f_q rfl ?_
         refine f_q rfl ?_
         refine f_q rfl ?_
         refine f_nil ?_
         refine o_mapUpdH (ok := okS B) (kv0 := v3 c) (has := false) keyLawC hkl rfl Try.underlying108 rfl rfl rfl rfl rfl (okS_mk (by rw [vL, (log_no hI0.2 (by assumption) (by omega))])) ?_
         refine o_nil ?_
         repeat (first | with_reducible refine r_then ?_ | with_reducible refine r_in_normal ?_ | with_reducible refine r_sc_normal ?_)
         refine r_seq ?_
         refine r_region ?_
         refine o_q _ rfl rfl rfl (v_ldW rfl Try.underlying118 rfl inf118 rfl rfl) ?_
         refine o_st (us := L13 (fwdD B c d) false) rfl inf118 rfl rfl rfl rfl rfl rfl rfl (by rfl) ?_
         refine o_nil ?_
         repeat (first | with_reducible refine r_then ?_ | with_reducible refine r_in_normal ?_ | with_reducible refine r_sc_normal ?_)
         refine r_ret ?_
         repeat (first | with_reducible refine r_then_ret ?_ | with_reducible refine r_in_ret ?_ | with_reducible refine r_sc_ret ?_)
         first
         | (refine Imp.box_to b4 (L13 (logD B c) (decide (canC B c))) (by rw [log_yes hcan]; rfl) ?_; refine Imp.memo_join (P := Try.prog) (k := 113) (ok := okS B) (b := mb) (kv := v3 c) (has := true) ?_; exact r_rete [memo Try.prog 113 (okS B) mb] [] (Rd.one rfl (RdI.cellW Try.underlying118 rfl inf118 rfl rfl)) ⟨rfl, rfl, rfl⟩ SelMC.sel SubRC.sub)
         | (refine Imp.box_to b4 (L13 (logD B c) (decide (canC B c))) (by rw [log_no hI0.2 (by assumption) (by omega)]; rfl) ?_; refine Imp.memo_join (P := Try.prog) (k := 113) (ok := okS B) (b := mb) (kv := v3 c) (has := true) ?_; exact r_rete [memo Try.prog 113 (okS B) mb] [] (Rd.one rfl (RdI.cellW Try.underlying118 rfl inf118 rfl rfl)) ⟨rfl, rfl, rfl⟩ SelMC.sel SubRC.sub)
       ·
        first
        | (exfalso; revert hc47; decide)
        | (exfalso; omega)
        |
         skip
         refine r_skip ?_
         repeat (first | with_reducible refine r_then ?_ | with_reducible refine r_in_normal ?_ | with_reducible refine r_sc_normal ?_)
         refine r_region ?_
         refine o_q _ rfl rfl rfl (v_move rfl rfl) ?_
         first | refine o_q _ rfl rfl rfl (v_ldW rfl Try.underlying115 rfl inf115 rfl rfl) ?_ | refine o_q _ rfl rfl rfl (v_lfW rfl Try.underlying115 rfl inf115 rfl rfl) ?_ | refine o_q _ rfl rfl rfl (v_lfN rfl Try.underlying115 rfl inf115 rfl rfl rfl) ?_ | refine o_q _ rfl rfl rfl (v_ldN rfl Try.underlying115 rfl inf115 rfl rfl rfl) ?_ | refine o_q _ rfl rfl rfl (v_loadEN rfl Try.underlying115 rfl inf115 rfl (by omega) rfl rfl rfl) ?_
         first | refine o_q _ rfl rfl rfl (v_fieldAddr rfl Try.underlying118 inf116 rfl rfl rfl rfl) ?_ | refine o_q _ rfl rfl rfl (v_fieldAddrE rfl Try.underlying118 inf116 rfl rfl rfl rfl) ?_
         first | refine o_q _ rfl rfl rfl (v_indexAddrAn rfl Try.underlying116 inf115 rfl rfl (by omega)) ?_ | refine o_q _ rfl rfl rfl (v_indexAddrA rfl Try.underlying116 inf115 rfl rfl (by omega)) ?_ | refine o_q _ rfl rfl rfl (v_indexAddrE rfl Try.underlying116 inf115 rfl rfl (by omega)) ?_
         refine o_st (us := [i64 (nowF B c (d + 1)).lo, i64 (nowF B c (d + 1)).hi]) rfl inf115 rfl rfl rfl rfl rfl rfl rfl (L13_ble (by omega)) ?_
         refine o_nil ?_
         repeat (first | with_reducible refine r_then ?_ | with_reducible refine r_in_normal ?_ | with_reducible refine r_sc_normal ?_)
         refine r_region ?_
         refine o_q _ rfl rfl rfl (v_add rfl rfl rfl (by omega)) ?_
         refine o_q _ rfl rfl rfl (v_move rfl rfl) ?_
         refine o_nil ?_
         repeat (first | with_reducible refine r_then ?_ | with_reducible refine r_in_normal ?_ | with_reducible refine r_sc_normal ?_)
         refine r_next (d + 1) ?_ ?_ ?_
         ·
          refine Imp.box_to b4 (L13 (fwdD B c (d + 1)) false) (by exact (L13_set (k := d) (by omega)).trans (by rw [fwd_s])) ?_
          exact r_here (by repeat (first | exact FSub.nil | refine FSub.cons rfl ?_)) SelMC.sel SubRC.sub
         ·
          exact ⟨by omega, some_s hI0.2 (by assumption)⟩
         ·
          omega
    ·
     first
     | (exfalso; revert hc32; decide)
     | (exfalso; omega)
     |
      skip
      refine r_exit ?_
      repeat (first | with_reducible refine r_then_exit ?_ | with_reducible refine r_sc_exit ?_ | with_reducible refine r_in_here ?_ | (with_reducible refine r_in_past (by decide) ?_) | with_reducible refine r_then ?_ | with_reducible refine r_in_normal ?_ | with_reducible refine r_sc_normal ?_)
      refine r_seq ?_
      refine r_region ?_
      refine o_q _ rfl rfl rfl (v_assign rfl rfl) ?_
      refine o_nil ?_
      repeat (first | with_reducible refine r_then ?_ | with_reducible refine r_in_normal ?_ | with_reducible refine r_sc_normal ?_)
      refine r_seq ?_
      refine r_seq ?_
      refine r_region ?_
      refine o_q _ rfl rfl rfl (v_move rfl rfl) ?_
      refine o_q _ rfl rfl rfl (v_nilCheck rfl rfl) ?_
      first | refine o_q _ rfl rfl rfl (v_fieldAddr rfl Try.underlying110 inf37 rfl rfl rfl rfl) ?_ | refine o_q _ rfl rfl rfl (v_fieldAddrE rfl Try.underlying110 inf37 rfl rfl rfl rfl) ?_
      first | refine o_q _ rfl rfl rfl (v_fieldAddr rfl Try.underlying37 inf22 rfl rfl rfl rfl) ?_ | refine o_q _ rfl rfl rfl (v_fieldAddrE rfl Try.underlying37 inf22 rfl rfl rfl rfl) ?_
      first | refine o_q _ rfl rfl rfl (v_ld1 rfl Try.underlying22 rfl rfl rfl) ?_ | refine o_q _ rfl rfl rfl (v_lf1 rfl Try.underlying22 rfl rfl rfl) ?_ | refine o_q _ rfl rfl rfl (v_loadE1 rfl Try.underlying22 rfl rfl (by omega) rfl rfl) ?_
      refine o_q _ rfl rfl rfl (v_len rfl rfl Try.underlying22 rfl) ?_
      refine o_q _ rfl rfl rfl (v_sub rfl rfl rfl (by omega)) ?_
      refine o_q _ rfl rfl rfl (v_assign rfl rfl) ?_
      refine o_nil ?_
      repeat (first | with_reducible refine r_then ?_ | with_reducible refine r_in_normal ?_ | with_reducible refine r_sc_normal ?_)
      refine r_block ?_
      refine r_loop (ι := Nat) (fun e => e + 1 ≤ B.days.length ∧ canC B c) (fun e => [(0, pt fb 0), (3, pt b3 0), (4, pt b4 0), (11, .func (.func 82) #[] #[]), (12, i64 ((e : Int) - 1))]) (fun e => bx b3 113 [i64 c.a, i64 c.b, i64 c.c] :: bx b4 118 (L13 (bckD B c e) false) :: memoH Try.prog 113 (okS B) mb (v3 c) false :: M) (fun e => [boxF fb 110 [.slice po B.spits.length pc, .slice so B.days.length sc, .slice lo B.logs.length lc, .map (some mb)], rowD po 3 encSp B.spits, rowD so 2 encS B.days, rowD lo 3 encLg B.logs] ++ Rf) (fun e => e) (B.days.length - 1) ?_ ?_ ?_
      ·
       obtain rfl : d = B.days.length := by omega
       refine Imp.box_to b4 (L13 (bckD B c (B.days.length - 1)) false) (by rw [bck_0 (by omega)]) ?_
       exact r_here (by repeat (first | exact FSub.nil | refine FSub.cons rfl ?_ | refine FSub.cons2 rfl (congrArg (Value.int .i64) (by omega)) ?_)) SelMC.sel SubRC.sub
      ·
       exact ⟨by omega, by have hd9 : d = B.days.length := (by omega); subst hd9; exact hI0.2⟩
      ·
       rintro e hI1
       refine r_seq ?_
       refine r_seq ?_
       refine r_region ?_
       refine o_q _ rfl rfl rfl (v_move rfl rfl) ?_
       refine o_q _ rfl rfl rfl (v_geq rfl rfl rfl) ?_
       refine o_nil ?_
       repeat (first | with_reducible refine r_then ?_ | with_reducible refine r_in_normal ?_ | with_reducible refine r_sc_normal ?_)
       first | refine r_condd rfl (fun hc68 => ?_) (fun hc68 => ?_) | refine r_cond rfl (fun hc68 => ?_) (fun hc68 => ?_)
       ·
        first
        | (exfalso; revert hc68; decide)
        | (exfalso; omega)
        |
         skip
         refine r_skip ?_
         repeat (first | with_reducible refine r_then ?_ | with_reducible refine r_in_normal ?_ | with_reducible refine r_sc_normal ?_)
         refine r_seq ?_
         refine r_block ?_
         obtain ⟨d, rfl⟩ : ∃ d, e = d + 1 := ⟨e - 1, by omega⟩
         rw [show ((d + 1 : Nat) : Int) - 1 = (d : Int) from by omega]
         refine r_par' 24 mixed (by kernel_rfl) (by rfl) ?_
         refine p_q _ rfl rfl rfl (fun _ _ => v_move rfl rfl) ?_
         refine p_q _ rfl rfl rfl (fun _ _ => v_move rfl rfl) ?_
         first | refine p_q _ rfl rfl rfl (fun _ _ => v_fieldAddr rfl Try.underlying118 inf116 rfl rfl rfl rfl) ?_ | refine p_q _ rfl rfl rfl (fun _ _ => v_fieldAddrE rfl Try.underlying118 inf116 rfl rfl rfl rfl) ?_
         first | refine p_q _ rfl rfl rfl (fun _ _ => v_indexAddrAn rfl Try.underlying116 inf115 rfl rfl (by omega)) ?_ | refine p_q _ rfl rfl rfl (fun _ _ => v_indexAddrA rfl Try.underlying116 inf115 rfl rfl (by omega)) ?_ | refine p_q _ rfl rfl rfl (fun _ _ => v_indexAddrE rfl Try.underlying116 inf115 rfl rfl (by omega)) ?_
         refine p_q _ rfl rfl rfl (fun _ _ => v_cast (v := vS (nowF B c (d + 1))) (v_ldN (us := [i64 (bckD B c (d + 1) d).lo, i64 (bckD B c (d + 1) d).hi]) rfl Try.underlying115 rfl inf115 rfl (L13_get (by omega)) rfl) (by rw [bck_at (by omega)])) ?_
         refine p_q _ rfl rfl rfl (fun _ _ => v_move rfl rfl) ?_
         refine p_q _ rfl rfl rfl (fun _ _ => v_move rfl rfl) ?_
         refine p_q _ rfl rfl rfl (fun _ _ => v_cast (v := i64 ((d + 1 : Nat) : Int)) (v_add rfl rfl rfl (by omega)) (congrArg (Value.int .i64) (by push_cast; rfl))) ?_
         first | refine p_q _ rfl rfl rfl (fun _ _ => v_fieldAddr rfl Try.underlying118 inf116 rfl rfl rfl rfl) ?_ | refine p_q _ rfl rfl rfl (fun _ _ => v_fieldAddrE rfl Try.underlying118 inf116 rfl rfl rfl rfl) ?_
         first | refine p_q _ rfl rfl rfl (fun _ _ => v_indexAddrAn rfl Try.underlying116 inf115 rfl rfl (by omega)) ?_ | refine p_q _ rfl rfl rfl (fun _ _ => v_indexAddrA rfl Try.underlying116 inf115 rfl rfl (by omega)) ?_ | refine p_q _ rfl rfl rfl (fun _ _ => v_indexAddrE rfl Try.underlying116 inf115 rfl rfl (by omega)) ?_
         refine p_q _ rfl rfl rfl (fun _ _ => v_cast (v := vS (lastF B c (d + 1))) (v_ldN (us := [i64 (bckD B c (d + 1) (d + 1)).lo, i64 (bckD B c (d + 1) (d + 1)).hi]) rfl Try.underlying115 rfl inf115 rfl (L13_get (by omega)) rfl) (by rw [bck_at1 (by omega)])) ?_
         refine p_q _ rfl rfl rfl (fun _ _ => v_move rfl rfl) ?_
         refine p_q _ rfl rfl rfl (fun _ _ => v_nilCheck rfl rfl) ?_
         first | refine p_q _ rfl rfl rfl (fun _ _ => v_fieldAddr rfl Try.underlying110 inf37 rfl rfl rfl rfl) ?_ | refine p_q _ rfl rfl rfl (fun _ _ => v_fieldAddrE rfl Try.underlying110 inf37 rfl rfl rfl rfl) ?_
         first | refine p_q _ rfl rfl rfl (fun _ _ => v_fieldAddr rfl Try.underlying37 inf22 rfl rfl rfl rfl) ?_ | refine p_q _ rfl rfl rfl (fun _ _ => v_fieldAddrE rfl Try.underlying37 inf22 rfl rfl rfl rfl) ?_
         first | refine p_q _ rfl rfl rfl (fun _ _ => v_ld1 rfl Try.underlying22 rfl rfl rfl) ?_ | refine p_q _ rfl rfl rfl (fun _ _ => v_lf1 rfl Try.underlying22 rfl rfl rfl) ?_ | refine p_q _ rfl rfl rfl (fun _ _ => v_loadE1 rfl Try.underlying22 rfl rfl (by omega) rfl rfl) ?_
         refine p_q _ rfl rfl rfl (fun _ _ => v_move rfl rfl) ?_
         refine p_q _ rfl rfl rfl (fun _ _ => v_cast (v := i64 ((d + 1 : Nat) : Int)) (v_add rfl rfl rfl (by omega)) (congrArg (Value.int .i64) (by push_cast; rfl))) ?_
         first | refine p_q _ rfl rfl rfl (fun _ _ => v_indexAddrSn rfl Try.underlying22 inf42 rfl rfl rfl (by omega) rfl) ?_ | refine p_q _ rfl rfl rfl (fun _ _ => v_indexAddrS rfl Try.underlying22 inf42 rfl rfl rfl (by omega) (by omega) rfl) ?_
         first | refine p_q _ rfl rfl rfl (fun _ _ => v_ldW rfl Try.underlying42 rfl inf42 rfl rfl) ?_ | refine p_q _ rfl rfl rfl (fun _ _ => v_lfW rfl Try.underlying42 rfl inf42 rfl rfl) ?_ | refine p_q _ rfl rfl rfl (fun _ _ => v_lfN rfl Try.underlying42 rfl inf42 rfl rfl rfl) ?_ | refine p_q _ rfl rfl rfl (fun _ _ => v_ldN rfl Try.underlying42 rfl inf42 rfl rfl rfl) ?_ | refine p_q _ rfl rfl rfl (fun _ _ => v_loadEN rfl Try.underlying42 rfl inf42 rfl (by omega) rfl rfl rfl) ?_
         refine p_q _ rfl rfl rfl (fun _ _ => OpQ.call (earlier_v (lastF B c (d + 1)) (B.days.getD (d + 1) default) (last_sm hg hc (d + 1)) (day_sm hg (d + 1))) rfl [] [] rfl rfl rfl SubRC.sub) ?_
         refine p_lit rfl Try.underlying167 inf115 rfl rfl rfl rfl rfl rfl rfl rfl (by repeat (first | exact trivial | refine ⟨rfl, ?_⟩)) (by rfl) ?_
         refine p_acc (by simp only [List.nil_append, List.cons_append]; rfl) ?_
         refine p_depLit 21 rfl rfl (by kernel_rfl) rfl rfl rfl (fun b93 _ _ => OpQ.fn (common_v (nowF B c (d + 1)) (⟨(lastF B c (d + 1)).lo - (B.days.getD (d + 1) default).hi, (lastF B c (d + 1)).hi - (B.days.getD (d + 1) default).lo⟩ : Span) b93) rfl rfl SubRC.sub) ?_
         first | refine p_q _ rfl rfl rfl (fun _ _ => v_fieldAddr rfl Try.underlying118 inf116 rfl rfl rfl rfl) ?_ | refine p_q _ rfl rfl rfl (fun _ _ => v_fieldAddrE rfl Try.underlying118 inf116 rfl rfl rfl rfl) ?_
         refine p_nil2 (by simp only [List.nil_append, List.cons_append]; rfl) rfl ?_
         refine f_q rfl ?_
         refine f_q rfl ?_
         refine f_q rfl ?_
         refine f_q rfl ?_
         refine f_q rfl ?_
         refine f_q rfl ?_
         refine f_q rfl ?_
         refine f_q rfl ?_
         refine f_q rfl ?_
         refine f_q rfl ?_
         refine f_q rfl ?_
         refine f_q rfl ?_
         refine f_q rfl ?_
         refine f_q rfl ?_
         refine f_q rfl ?_
         refine f_q rfl ?_
         refine f_q rfl ?_
         refine f_q rfl ?_
         refine f_q rfl ?_
         refine f_q rfl ?_
         refine f_q rfl ?_
         refine f_lit rfl (fun b92 => ?_)
         refine f_q rfl ?_
         refine f_q rfl ?_
         refine f_nil ?_
         first | refine o_q _ rfl rfl rfl (v_indexAddrAn rfl Try.underlying116 inf115 rfl rfl (by omega)) ?_ | refine o_q _ rfl rfl rfl (v_indexAddrA rfl Try.underlying116 inf115 rfl rfl (by omega)) ?_ | refine o_q _ rfl rfl rfl (v_indexAddrE rfl Try.underlying116 inf115 rfl rfl (by omega)) ?_
         refine o_st (us := [i64 (comS (nowF B c (d + 1)) (⟨(lastF B c (d + 1)).lo - (B.days.getD (d + 1) default).hi, (lastF B c (d + 1)).hi - (B.days.getD (d + 1) default).lo⟩ : Span)).lo, i64 (comS (nowF B c (d + 1)) (⟨(lastF B c (d + 1)).lo - (B.days.getD (d + 1) default).hi, (lastF B c (d + 1)).hi - (B.days.getD (d + 1) default).lo⟩ : Span)).hi]) rfl inf115 rfl rfl rfl rfl rfl rfl rfl (L13_ble (by omega)) ?_
         refine o_nil ?_
         repeat (first | with_reducible refine r_then ?_ | with_reducible refine r_in_normal ?_ | with_reducible refine r_sc_normal ?_)
         refine r_region ?_
         refine o_q _ rfl rfl rfl (v_move rfl rfl) ?_
         refine o_q _ rfl rfl rfl (v_sub rfl rfl rfl (by omega)) ?_
         refine o_q _ rfl rfl rfl (v_assign rfl rfl) ?_
         refine o_nil ?_
         repeat (first | with_reducible refine r_then ?_ | with_reducible refine r_in_normal ?_ | with_reducible refine r_sc_normal ?_)
         refine r_next d ?_ ?_ ?_
         ·
          refine Imp.box_to b4 (L13 (bckD B c d) false) (by exact (L13_set (k := d) (by omega)).trans (by rw [bck_s (by omega)])) ?_
          exact r_here (by repeat (first | exact FSub.nil | refine FSub.cons rfl ?_)) SelMC.sel SubRC.sub
         ·
          exact ⟨by omega, hI1.2⟩
         ·
          omega
       ·
        first
        | (exfalso; revert hc68; decide)
        | (exfalso; omega)
        |
         skip
         refine r_exit ?_
         repeat (first | with_reducible refine r_then_exit ?_ | with_reducible refine r_sc_exit ?_ | with_reducible refine r_in_here ?_ | (with_reducible refine r_in_past (by decide) ?_) | with_reducible refine r_then ?_ | with_reducible refine r_in_normal ?_ | with_reducible refine r_sc_normal ?_)
         refine r_seq ?_
         obtain rfl : e = 0 := by omega
         have hcan : canC B c := hI1.2
         refine r_region ?_
         first | refine o_q _ rfl rfl rfl (v_fieldAddr rfl Try.underlying118 inf4 rfl rfl rfl rfl) ?_ | refine o_q _ rfl rfl rfl (v_fieldAddrE rfl Try.underlying118 inf4 rfl rfl rfl rfl) ?_
         refine o_st rfl inf4 rfl rfl rfl rfl rfl rfl rfl rfl ?_
         refine o_nil ?_
         repeat (first | with_reducible refine r_then ?_ | with_reducible refine r_in_normal ?_ | with_reducible refine r_sc_normal ?_)
         refine r_seq ?_
         refine Imp.box_to b4 (L13 (bckD B c 0) true) rfl ?_
         refine r_par' 6 mixed (by kernel_rfl) (by rfl) ?_
         refine p_q _ rfl rfl rfl (fun _ _ => v_move rfl rfl) ?_
         refine p_q _ rfl rfl rfl (fun _ _ => v_nilCheck rfl rfl) ?_
         first | refine p_q _ rfl rfl rfl (fun _ _ => v_fieldAddr rfl Try.underlying110 inf108 rfl rfl rfl rfl) ?_ | refine p_q _ rfl rfl rfl (fun _ _ => v_fieldAddrE rfl Try.underlying110 inf108 rfl rfl rfl rfl) ?_
         first | refine p_q _ rfl rfl rfl (fun _ _ => v_ld1 rfl Try.underlying108 rfl rfl rfl) ?_ | refine p_q _ rfl rfl rfl (fun _ _ => v_lf1 rfl Try.underlying108 rfl rfl rfl) ?_ | refine p_q _ rfl rfl rfl (fun _ _ => v_loadE1 rfl Try.underlying108 rfl rfl (by omega) rfl rfl) ?_
         first | refine p_q _ rfl rfl rfl (fun _ _ => v_ldW rfl Try.underlying113 rfl inf113 rfl rfl) ?_ | refine p_q _ rfl rfl rfl (fun _ _ => v_lfW rfl Try.underlying113 rfl inf113 rfl rfl) ?_ | refine p_q _ rfl rfl rfl (fun _ _ => v_lfN rfl Try.underlying113 rfl inf113 rfl rfl rfl) ?_ | refine p_q _ rfl rfl rfl (fun _ _ => v_ldN rfl Try.underlying113 rfl inf113 rfl rfl rfl) ?_ | refine p_q _ rfl rfl rfl (fun _ _ => v_loadEN rfl Try.underlying113 rfl inf113 rfl (by omega) rfl rfl rfl) ?_
         refine p_q _ rfl rfl rfl (fun _ _ => v_ldW rfl Try.underlying118 rfl inf118 rfl rfl) ?_
         refine p_nil2 (by simp only [List.nil_append, List.cons_append]; rfl) rfl ?_
         refine f_q rfl ?_
         refine f_q rfl ?_
         refine f_q rfl ?_
         refine f_q rfl ?_
         refine f_q rfl ?_
         refine f_q rfl ?_
         refine f_nil ?_
         refine o_mapUpdH (ok := okS B) (kv0 := v3 c) (has := false) keyLawC hkl rfl Try.underlying108 rfl rfl rfl rfl rfl (okS_mk (by rw [vL, log_yes hcan])) ?_
         refine o_nil ?_
         repeat (first | with_reducible refine r_then ?_ | with_reducible refine r_in_normal ?_ | with_reducible refine r_sc_normal ?_)
         refine r_seq ?_
         refine r_region ?_
         refine o_q _ rfl rfl rfl (v_ldW rfl Try.underlying118 rfl inf118 rfl rfl) ?_
         refine o_st (us := L13 (bckD B c 0) true) rfl inf118 rfl rfl rfl rfl rfl rfl rfl (by rfl) ?_
         refine o_nil ?_
         repeat (first | with_reducible refine r_then ?_ | with_reducible refine r_in_normal ?_ | with_reducible refine r_sc_normal ?_)
         refine r_ret ?_
         repeat (first | with_reducible refine r_then_ret ?_ | with_reducible refine r_in_ret ?_ | with_reducible refine r_sc_ret ?_)
         first
         | (refine Imp.box_to b4 (L13 (logD B c) (decide (canC B c))) (by rw [log_yes hcan]; rfl) ?_; refine Imp.memo_join (P := Try.prog) (k := 113) (ok := okS B) (b := mb) (kv := v3 c) (has := true) ?_; exact r_rete [memo Try.prog 113 (okS B) mb] [] (Rd.one rfl (RdI.cellW Try.underlying118 rfl inf118 rfl rfl)) ⟨rfl, rfl, rfl⟩ SelMC.sel SubRC.sub)
         | (refine Imp.box_to b4 (L13 (logD B c) (decide (canC B c))) (by rw [log_no hI0.2 (by assumption) (by omega)]; rfl) ?_; refine Imp.memo_join (P := Try.prog) (k := 113) (ok := okS B) (b := mb) (kv := v3 c) (has := true) ?_; exact r_rete [memo Try.prog 113 (okS B) mb] [] (Rd.one rfl (RdI.cellW Try.underlying118 rfl inf118 rfl rfl)) ⟨rfl, rfl, rfl⟩ SelMC.sel SubRC.sub)
theorem log_m (c : T3) (hg : GoodS B) (hc : InC c) : FnM Try.prog 73 [pt fb 0, v3 c] (memo Try.prog 113 (okS B) mb) [boxF fb 110 [.slice po B.spits.length pc, .slice so B.days.length sc, .slice lo B.logs.length lc, .map (some mb)], rowD po 3 encSp B.spits, rowD so 2 encS B.days, rowD lo 3 encLg B.logs] (fun u => u = vL B c) :=
  FnM.of_memo (log_t B po so lo pc sc lc fb mb c hg hc) (log_f B po so lo pc sc lc fb mb c hg hc)
end Go.Proofs.Ytpndeonmmcaikaa.SodW


namespace Sod2
open Go Go.G Foot4
/-! ### costs -/
theorem at_set {c : T3} {i k : Nat} {x : Int} (hi : i < 3) (hk : k < 3) : (set3 c i x).at k = if k = i then x else c.at k := by
  obtain rfl | rfl | rfl : i = 0 ∨ i = 1 ∨ i = 2 := by omega
  all_goals
    obtain rfl | rfl | rfl : k = 0 ∨ k = 1 ∨ k = 2 := by omega
    all_goals rfl
theorem t3_ext {a b : T3} (h : ∀ k, k < 3 → a.at k = b.at k) : a = b := by
  have h0 : a.a = b.a := h 0 (by omega)
  have h1 : a.b = b.b := h 1 (by omega)
  have h2 : a.c = b.c := h 2 (by omega)
  cases a; cases b
  simp only at h0 h1 h2
  subst h0; subst h1; subst h2; rfl
theorem set_set {c : T3} {i : Nat} {x y : Int} (hi : i < 3) : set3 (set3 c i x) i y = set3 c i y := by
  refine t3_ext fun k hk => ?_
  by_cases h : k = i
  · rw [at_set hi hk, if_pos h, at_set hi hk, if_pos h]
  · rw [at_set hi hk, if_neg h, at_set hi hk, if_neg h, at_set hi hk, if_neg h]
theorem set_cells {c : T3} {i : Nat} {x : Int} (hi : i < 3) : splice [i64 c.a, i64 c.b, i64 c.c] (0 + i * 1) [i64 x] = [i64 (set3 c i x).a, i64 (set3 c i x).b, i64 (set3 c i x).c] := by
  obtain rfl | rfl | rfl : i = 0 ∨ i = 1 ∨ i = 2 := by omega
  all_goals rfl
theorem set_ble {a b c d : Value} {i : Nat} (hi : i < 3) : Nat.ble (0 + i * 1 + [d].length) [a, b, c].length = true := by
  obtain rfl | rfl | rfl : i = 0 ∨ i = 1 ∨ i = 2 := by omega
  all_goals rfl
theorem mem_costs {c : T3} : ∀ (ps : List Spit) (i : Nat) (c0 : T3), i + ps.length ≤ 3 → (∀ p ∈ ps, p.lo ≤ p.hi) →
    (c ∈ costsL ps i c0 ↔ (∀ j, j < ps.length → (ps.getD j default).lo ≤ c.at (i + j) ∧ c.at (i + j) ≤ (ps.getD j default).hi) ∧ ∀ k, k < 3 → (k < i ∨ i + ps.length ≤ k) → c.at k = c0.at k)
  | [], i, c0, h, _ => by
    simp only [costsL, List.mem_singleton, List.length_nil, Nat.add_zero]
    constructor
    · rintro rfl; exact ⟨fun j hj => absurd hj (by omega), fun k _ _ => rfl⟩
    · intro ⟨_, h2⟩; exact t3_ext fun k hk => h2 k hk (by omega)
  | p :: ps, i, c0, h, hp => by
    rw [List.length_cons] at h
    have hpl := hp p (by simp)
    have ih := fun c1 => mem_costs (c := c) ps (i + 1) c1 (by omega) (fun q hq => hp q (List.mem_cons_of_mem _ hq))
    simp only [costsL, List.mem_flatMap, List.mem_range]
    constructor
    · rintro ⟨j, hj, hc⟩
      obtain ⟨h1, h2⟩ := (ih _).1 hc
      have hci : c.at i = p.lo + j := by rw [h2 i (by omega) (by omega), at_set (by omega) (by omega), if_pos rfl]
      refine ⟨fun m hm => ?_, fun k hk hk2 => ?_⟩
      · cases m with
        | zero => show p.lo ≤ c.at i ∧ c.at i ≤ p.hi; omega
        | succ m =>
          rw [List.length_cons] at hm
          have := h1 m (by omega)
          rw [show i + (m + 1) = i + 1 + m from by omega]; exact this
      · rw [List.length_cons] at hk2
        rw [h2 k hk (by omega), at_set (by omega) hk, if_neg (by omega)]
    · rintro ⟨h1, h2⟩
      have h0 := h1 0 (by simp)
      simp only [Nat.add_zero, List.getD_cons_zero] at h0
      refine ⟨(c.at i - p.lo).toNat, by omega, (ih _).2 ⟨fun m hm => ?_, fun k hk hk2 => ?_⟩⟩
      · have := h1 (m + 1) (by rw [List.length_cons]; omega)
        rw [show i + 1 + m = i + (m + 1) from by omega]; exact this
      · rw [at_set (by omega) hk]
        by_cases e : k = i
        · subst e; rw [if_pos rfl]; omega
        · rw [if_neg e]; exact h2 k hk (by rw [List.length_cons]; omega)
/-- Costs that there can be. -/
def InB (B : Bank) (c : T3) : Prop := (∀ k, k < B.spits.length → (B.spits.getD k default).lo ≤ c.at k ∧ c.at k ≤ (B.spits.getD k default).hi) ∧ ∀ k, k < 3 → B.spits.length ≤ k → c.at k = 0
theorem zero_at {k : Nat} : (⟨0, 0, 0⟩ : T3).at k = 0 := by unfold T3.at; split <;> (try split) <;> rfl
theorem spit_lo {B : Bank} (hg : GoodS B) : ∀ p ∈ B.spits, p.lo ≤ p.hi := fun p hp => by
  obtain ⟨k, hk, rfl⟩ := List.mem_iff_getElem.1 hp
  have := hg.2.2.2.1 k hk
  rw [List.getD_eq_getElem?_getD, List.getElem?_eq_getElem hk] at this
  exact this.2.1.2.1
theorem mem_all {B : Bank} (hg : GoodS B) {c : T3} : c ∈ allC B ↔ InB B c := by
  have h3 := hg.1
  unfold allC InB
  rw [mem_costs B.spits 0 ⟨0, 0, 0⟩ (by omega) (spit_lo hg)]
  simp only [Nat.zero_add, zero_at]
  constructor
  · intro ⟨h1, h2⟩; exact ⟨h1, fun k hk hk2 => h2 k hk (.inr hk2)⟩
  · intro ⟨h1, h2⟩; exact ⟨h1, fun k hk hk2 => h2 k hk (by omega)⟩
theorem InB.inC {B : Bank} (hg : GoodS B) {c : T3} (h : InB B c) : InC c := fun k hk => by
  by_cases hk2 : k < B.spits.length
  · have h1 := h.1 k hk2
    have h2 := hg.2.2.2.1 k hk2
    omega
  · rw [h.2 k hk (by omega)]; omega
theorem InB.pos {B : Bank} (hg : GoodS B) {c : T3} (h : InB B c) : ∀ k, k < B.spits.length → 1 ≤ c.at k := fun k hk => by
  have h1 := h.1 k hk
  have h2 := hg.2.2.2.1 k hk
  omega
/-! ### the walk through all costs -/
def cntC (B : Bank) (i : Nat) : Nat := ((B.spits.getD i default).hi - (B.spits.getD i default).lo + 1).toNat
def nxC (B : Bank) (c : T3) (i k : Nat) : List T3 := costsL (B.spits.drop (i + 1)) (i + 1) (set3 c i ((B.spits.getD i default).lo + (k : Int)))
theorem nxC_eq {B : Bank} {c : T3} {i k : Nat} : nxC B c i k = costsL (B.spits.drop (i + 1)) (i + 1) (set3 c i ((B.spits.getD i default).lo + (k : Int))) := rfl
def preC (B : Bank) (c : T3) (i : Nat) : Nat → List T3
  | 0 => []
  | k + 1 => preC B c i k ++ nxC B c i k
theorem range_flat {α : Type} (f : Nat → List α) (g : Nat → List α) (h0 : g 0 = []) (hs : ∀ k, g (k + 1) = g k ++ f k) : ∀ n, (List.range n).flatMap f = g n
  | 0 => by rw [h0]; rfl
  | n + 1 => by rw [List.range_succ, List.flatMap_append, range_flat f g h0 hs n, hs]; simp
theorem costs_split {B : Bank} {c : T3} {i : Nat} (h : i < B.spits.length) : costsL (B.spits.drop i) i c = preC B c i (cntC B i) := by
  rw [drop_cons h]
  exact range_flat _ (preC B c i) rfl (fun k => rfl) _
theorem costs_end {B : Bank} {c : T3} {i : Nat} (h : B.spits.length ≤ i) : costsL (B.spits.drop i) i c = [c] := by
  rw [List.drop_eq_nil_of_le h]; rfl
def SubL (l xs : List T3) (i0 : Nat) : Prop := ∀ (j : Nat) (y : T3), l[j]? = some y → xs[i0 + j]? = some y
theorem SubL.left {a b xs : List T3} {i0 : Nat} (h : SubL (a ++ b) xs i0) : SubL a xs i0 := fun j y hj => h j y (by
  have : j < a.length := by
    by_cases hl : j < a.length
    · exact hl
    · rw [List.getElem?_eq_none (by omega)] at hj; cases hj
  rw [List.getElem?_append_left this]; exact hj)
theorem SubL.right {a b xs : List T3} {i0 : Nat} (h : SubL (a ++ b) xs i0) : SubL b xs (i0 + a.length) := fun j y hj => by
  have := h (a.length + j) y (by rw [List.getElem?_append_right (by omega)]; rw [show a.length + j - a.length = j from by omega]; exact hj)
  rw [show i0 + a.length + j = i0 + (a.length + j) from by omega]; exact this
theorem sub_mid {B : Bank} {c : T3} {i i0 k : Nat} {xs : List T3} : ∀ n, SubL (preC B c i n) xs i0 → k < n → SubL (nxC B c i k) xs (i0 + (preC B c i k).length)
  | 0, _, h => by omega
  | n + 1, h, hk => by
    by_cases e : k = n
    · subst e; exact h.right
    · exact sub_mid n h.left (by omega)
theorem pre_len {B : Bank} {c : T3} {i k : Nat} : (preC B c i (k + 1)).length = (preC B c i k).length + (nxC B c i k).length := by rw [preC, List.length_append]
/-! ### what is left of strokes -/
theorem cnt_sub {B : Bank} {c : T3} {d : Nat} {m : Span} (k : Nat) : m.lo ≤ (cntTo B c d m k).lo ∧ (cntTo B c d m k).hi ≤ m.hi := by
  induction k with
  | zero => exact ⟨Int.le_refl _, Int.le_refl _⟩
  | succ k ih =>
    rw [cntTo]
    split
    · simp only; omega
    · exact ih
theorem now_sub {B : Bank} {c : T3} (d : Nat) : (nowF B c d).lo + (B.days.getD d default).lo ≤ (nowF B c (d + 1)).lo ∧ (nowF B c (d + 1)).hi ≤ (nowF B c d).hi + (B.days.getD d default).hi := by
  have := cnt_sub (B := B) (c := c) (d := d) (m := ⟨(nowF B c d).lo + (B.days.getD d default).lo, (nowF B c d).hi + (B.days.getD d default).hi⟩) B.logs.length
  exact this
theorem bk_ok {B : Bank} {c : T3} (hg : GoodS B) (hcan : canC B c) : ∀ j, j < B.days.length → (nowF B c (B.days.length - j)).lo ≤ (bk B c j).lo ∧ (bk B c j).lo ≤ (bk B c j).hi ∧ (bk B c j).hi ≤ (nowF B c (B.days.length - j)).hi
  | 0, h => by
    have h1 := hcan (B.days.length - 1) (by omega)
    rw [show B.days.length - 1 + 1 = B.days.length from by omega] at h1
    rw [bk, Nat.sub_zero]; omega
  | j + 1, h => by
    obtain ⟨h1, h2, h3⟩ := bk_ok hg hcan j (by omega)
    have h4 := now_sub (B := B) (c := c) (B.days.length - 1 - j)
    have h5 := hcan (B.days.length - 2 - j) (by omega)
    have h6 := hg.2.2.2.2.1 (B.days.length - 1 - j) (by omega)
    rw [show B.days.length - 1 - j + 1 = B.days.length - j from by omega] at h4
    rw [show B.days.length - 2 - j + 1 = B.days.length - 1 - j from by omega] at h5
    rw [bk, show B.days.length - (j + 1) = B.days.length - 1 - j from by omega]
    simp only
    omega
theorem log_bd {B : Bank} {c : T3} (hg : GoodS B) (hc : InC c) (hcan : canC B c) {d : Nat} (h : d < B.days.length) : 0 ≤ (logD B c d).lo ∧ (logD B c d).lo ≤ (logD B c d).hi ∧ (logD B c d).hi ≤ 1000 := by
  have e : logD B c d = bk B c (B.days.length - 1 - d) := by unfold logD; rw [if_pos hcan]; unfold bckD; rw [if_pos h, if_pos (Nat.zero_le _)]; rfl
  have h2 := hg.2.1
  have h1 := bk_ok hg hcan (B.days.length - 1 - d) (by omega)
  have h3 := bk_bd hg hc (B.days.length - 1 - d) (by omega)
  rw [e]; omega
theorem L13_lo {f : Nat → Span} {b : Bool} {k : Nat} (h : k < 6) : (L13 f b)[0 + k * 2 + 0]? = some (i64 (f k).lo) := by
  rcases six_cases h with rfl | rfl | rfl | rfl | rfl | rfl <;> rfl
theorem L13_hi {f : Nat → Span} {b : Bool} {k : Nat} (h : k < 6) : (L13 f b)[0 + k * 2 + 1]? = some (i64 (f k).hi) := by
  rcases six_cases h with rfl | rfl | rfl | rfl | rfl | rfl <;> rfl
/-! ### the answer -/
def hullTo (l : List Span) : Nat → Span
  | 0 => l.getD 0 default
  | k + 1 => ⟨min (hullTo l k).lo (l.getD k default).lo, max (hullTo l k).hi (l.getD k default).hi⟩
def hullP (l : List Span) : Span := hullTo l l.length
theorem hullTo_in {l : List Span} : ∀ k j, j < k → (hullTo l k).lo ≤ (l.getD j default).lo ∧ (l.getD j default).hi ≤ (hullTo l k).hi
  | 0, _, h => by omega
  | k + 1, j, h => by
    rw [hullTo]; simp only
    by_cases e : j = k
    · subst e; omega
    · have := hullTo_in k j (by omega) (l := l)
      omega
theorem hull_in {l : List Span} {s : Span} (h : s ∈ l) : (hullP l).lo ≤ s.lo ∧ s.hi ≤ (hullP l).hi := by
  obtain ⟨k, hk, rfl⟩ := List.mem_iff_getElem.1 h
  have := hullTo_in l.length k hk (l := l)
  rw [List.getD_eq_getElem?_getD, List.getElem?_eq_getElem hk] at this
  exact this
theorem hullTo_bd {l : List Span} {a b : Int} (h : ∀ s ∈ l, a ≤ s.lo ∧ s.lo ≤ s.hi ∧ s.hi ≤ b) (hl : 0 < l.length) : ∀ k, k ≤ l.length → a ≤ (hullTo l k).lo ∧ (hullTo l k).lo ≤ (hullTo l k).hi ∧ (hullTo l k).hi ≤ b
  | 0, _ => by
    rw [hullTo, List.getD_eq_getElem?_getD, List.getElem?_eq_getElem hl]
    exact h _ (List.getElem_mem hl)
  | k + 1, hk => by
    have h1 := hullTo_bd h hl k (by omega)
    have h2 : a ≤ (l.getD k default).lo ∧ (l.getD k default).lo ≤ (l.getD k default).hi ∧ (l.getD k default).hi ≤ b := by
      rw [List.getD_eq_getElem?_getD, List.getElem?_eq_getElem (show k < l.length by omega)]
      exact h _ (List.getElem_mem (by omega))
    rw [hullTo]; simp only; omega
def cutTo (B : Bank) (d i : Nat) : List Span := (((allC B).take i).filter fun c => decide (canC B c)).map (cutSp B d)
def cutP (B : Bank) (d : Nat) : Span := hullP ((goodC B).map (cutSp B d))
theorem cutTo_y {B : Bank} {d i : Nat} {c : T3} (h : (allC B)[i]? = some c) (hc : canC B c) : cutTo B d i ++ [cutSp B d c] = cutTo B d (i + 1) := by
  unfold cutTo
  rw [List.take_add_one, h]
  simp [List.filter_append, hc]
theorem cutTo_n {B : Bank} {d i : Nat} {c : T3} (h : (allC B)[i]? = some c) (hc : ¬ canC B c) : cutTo B d i = cutTo B d (i + 1) := by
  unfold cutTo
  rw [List.take_add_one, h]
  simp [List.filter_append, hc]
theorem cutTo_all {B : Bank} {d : Nat} : cutTo B d (allC B).length = (goodC B).map (cutSp B d) := by unfold cutTo goodC; rw [List.take_length]
theorem costsL_len : ∀ (ps : List Spit) (i : Nat) (c : T3), (∀ p ∈ ps, p.hi - p.lo ≤ 2) → (costsL ps i c).length ≤ 3 ^ ps.length
  | [], _, _, _ => by simp [costsL]
  | p :: ps, i, c, h => by
    have h1 := h p (by simp)
    have h2 := flatMap_len (fun j : Nat => costsL ps (i + 1) (set3 c i (p.lo + (j : Int)))) (3 ^ ps.length) (List.range (p.hi - p.lo + 1).toNat) (fun j _ => costsL_len ps (i + 1) _ (fun q hq => h q (List.mem_cons_of_mem _ hq)))
    rw [List.length_range] at h2
    rw [costsL, List.length_cons, Nat.pow_succ, Nat.mul_comm]
    have h3 : (p.hi - p.lo + 1).toNat * 3 ^ ps.length ≤ 3 * 3 ^ ps.length := Nat.mul_le_mul_right _ (by omega)
    omega
theorem allC_len {B : Bank} (hg : GoodS B) : (allC B).length ≤ 27 := by
  have h3 := hg.1
  have h := costsL_len B.spits 0 ⟨0, 0, 0⟩ (fun p hp => by
    obtain ⟨k, hk, rfl⟩ := List.mem_iff_getElem.1 hp
    have := hg.2.2.2.1 k hk
    rw [List.getD_eq_getElem?_getD, List.getElem?_eq_getElem hk] at this
    exact this.2.2)
  have h4 : 3 ^ B.spits.length ≤ 3 ^ 3 := Nat.pow_le_pow_right (by decide) (by omega)
  unfold allC
  omega
theorem cutTo_len {B : Bank} (hg : GoodS B) (d i : Nat) : (cutTo B d i).length ≤ 27 := by
  unfold cutTo
  rw [List.length_map]
  have h1 := List.length_filter_le (fun c => decide (canC B c)) ((allC B).take i)
  have h2 := allC_len hg
  have h3 : ((allC B).take i).length ≤ (allC B).length := by rw [List.length_take]; omega
  omega
theorem goodC_pos {B : Bank} {d : Nat} (h : canS B) : 0 < ((goodC B).map (cutSp B d)).length := by
  obtain ⟨c, h1, h2⟩ := h
  rw [List.length_map]
  exact List.length_pos_of_mem (List.mem_filter.2 ⟨h1, by simpa using h2⟩)
end Sod2


namespace Go.G
variable {P : Program} {W : World} {n : Nat} {D : List Deferred} {L : Tm} {M : List Res} {R : List Fact} {Q : Exit → Act → World → Prop} {o : Oper} {Z : World → Prop}
/-- All orders; and at each step something stays so. -/
def wpAnyZ (Z : World → Prop) (P : Program) (ops : Array Oper) (Q : Exit → Act → World → Prop) : Nat → Array Bool → Act → World → Prop
  | 0, listed, a, w => Z w ∧ Region.ready .any ops listed = [] ∧ Q .normal a w
  | fuel + 1, listed, a, w => Z w ∧ (Region.ready .any ops listed = [] → Q .normal a w) ∧ ∀ i ∈ Region.ready .any ops listed, wpOp P ops Q i (wpAnyZ Z P ops Q fuel (listed.setIfInBounds i true)) a w
theorem wpAnyZ.any {ops : Array Oper} : ∀ {fuel : Nat} {listed : Array Bool} {a : Act} {w : World}, wpAnyZ Z P ops Q fuel listed a w → wpAny P .any ops Q fuel listed a w
  | 0, _, _, _, h => h.2
  | _ + 1, _, _, _, h => ⟨h.2.1, fun i hi => wpOp_mono (fun _ _ h' => h'.any) (h.2.2 i hi)⟩
theorem wpAnyZ.z {ops : Array Oper} {fuel : Nat} {listed : Array Bool} {a : Act} {w : World} (h : wpAnyZ Z P ops Q fuel listed a w) : Z w := by
  cases fuel with
  | zero => exact h.1
  | succ f => exact h.1
/-- It comes to v in every world in which Z holds. -/
def YieldsZ (Z : World → Prop) (P : Program) (ops : Array Oper) (o : Oper) (v : Value) (a : Act) : Prop := Region.wanted o (yielded ops a.tmps) = true ∧ ∀ w, Z w → (execOp a.eval o).run P w = .ok (.value v) w
theorem YieldsZ.wpOp {ops : Array Oper} {i : Nat} {v : Value} {a : Act} (hi : ops[i]? = some o) (hy : YieldsZ Z P ops o v a) {K : Act → World → Prop} {w : World} (hz : Z w) (h : K (a.put o.dst v) w) : wpOp P ops Q i K a w := by
  unfold Go.wpOp
  simp only [hi]
  rw [if_pos hy.1]
  unfold Oper.wp
  rw [hy.2 w hz]
  exact .inl h
theorem YieldsZ.put {ops : Array Oper} {oi oj : Oper} {v : Value} {a : Act} (hy : YieldsZ Z P ops oi v a) (hsi : ∀ cs b, oi.op ≠ .select cs b) (h3 : ∀ d, oj.dst = some d → d ∉ oi.looksAt ops) (u : Value) : YieldsZ Z P ops oi v (a.put oj.dst u) := by
  refine ⟨?_, fun w hz => ?_⟩
  · rw [wanted_put oi a oj.dst u h3]; exact hy.1
  · rw [execOp_put oi hsi a oj.dst u h3]; exact hy.2 w hz
/-- One that comes to the same at whatever time may as well be carried out first: a step of another one. -/
theorem wpOpZ_put {ops : Array Oper} {j : Nat} {oi oj : Oper} {v : Value} (hj : ops[j]? = some oj) (hap : oi.apart ops oj = true)
    (hsi : ∀ cs b, oi.op ≠ .select cs b) (hsj : ∀ cs b, oj.op ≠ .select cs b) {K : Act → World → Prop} {a : Act} {w : World}
    (hy : YieldsZ Z P ops oi v a) (h : wpOp P ops (NoP Q) j K (a.put oi.dst v) w) :
    wpOp P ops (NoP Q) j (fun a' w' => YieldsZ Z P ops oi v a' ∧ K (a'.put oi.dst v) w') a w := by
  obtain ⟨h1, h2, h3⟩ := Oper.apart_spec hap
  have keep := fun (b : Act) (hb : YieldsZ Z P ops oi v b) u => hb.put (oj := oj) hsi h3 u
  unfold wpOp at *
  simp only [hj] at *
  rw [wanted_put oj a oi.dst v h1] at h
  split
  · rename_i hw
    rw [if_pos hw] at h
    rcases h with h | ⟨_, a0, w0, hx⟩
    · refine .inl ?_
      unfold Oper.wp at *
      rw [execOp_put oj hsj a oi.dst v h1] at h
      generalize (execOp a.eval oj).run P w = r at h
      unfold Oper.upon at h ⊢
      split at h
      · rename_i u w'
        exact ⟨keep a hy u, by rw [← Act.put_comm a v u h2]; exact h⟩
      · rename_i w'
        exact ⟨keep a hy _, by rw [← Act.put_comm a v undef h2]; exact h⟩
      · rename_i d w'
        refine ⟨keep { a with defers := d :: a.defers } ⟨hy.1, hy.2⟩ _, ?_⟩
        rw [← Act.put_comm _ v undef h2, ← Act.put_defers]
        exact h
      · rename_i f args w'
        refine Calls.mono h fun e w'' he => ?_
        cases e with
        | returned u => exact ⟨keep a hy u, by rw [← Act.put_comm a v u h2]; exact he⟩
        | panicked c => exact he.elim
        | outgrown => obtain ⟨a1, w1, hx⟩ := he; exact hx.elim
      · refine Rows.mono h fun u w'' he => ⟨keep a hy u, by rw [← Act.put_comm a v u h2]; exact he⟩
      · exact h.elim
      · exact h.elim
    · exact hx.elim
  · rename_i hw
    rw [if_neg hw] at h
    exact ⟨keep a hy _, by rw [← Act.put_comm a v undef h2]; exact h⟩
theorem wpAnyZ_first {ops : Array Oper} {i : Nat} {oi : Oper} {v : Value} (hi : ops[i]? = some oi) (hsel : ∀ (j : Nat) (o : Oper) cs b, ops[j]? = some o → o.op ≠ .select cs b) :
    ∀ (fuel : Nat) (listed : Array Bool) (a : Act) (w : World),
      (∀ j oj, ops[j]? = some oj → j ≠ i → listed.getD j true = false → (∀ e ∈ oj.after, Region.binds .any e = true → e.on ≠ i) → oi.apart ops oj = true) →
      i ∈ Region.ready .any ops listed → YieldsZ Z P ops oi v a →
      wpAnyZ Z P ops (NoP Q) fuel (listed.setIfInBounds i true) (a.put oi.dst v) w → wpAnyZ Z P ops (NoP Q) (fuel + 1) listed a w := by
  intro fuel
  induction fuel with
  | zero =>
    intro listed a w _ hr hy H
    refine ⟨H.1, fun h => (by rw [h] at hr; cases hr), fun j hj => ?_⟩
    by_cases hji : j = i
    · subst hji; exact hy.wpOp hi H.1 H
    · have := ready_mono hj hji
      rw [H.2.1] at this
      cases this
  | succ fuel ih =>
    intro listed a w hfree hr hy H
    refine ⟨H.1, fun h => (by rw [h] at hr; cases hr), fun j hj => ?_⟩
    by_cases hji : j = i
    · subst hji; exact hy.wpOp hi H.1 H
    · have h1 := H.2.2 j (ready_mono hj hji)
      obtain ⟨hjun, oj, hoj, hall⟩ := mem_ready.1 hj
      have hnot : ∀ e ∈ oj.after, Region.binds .any e = true → e.on ≠ i := fun e he hb heq => by
        have g1 := hall e he hb
        have g0 := (mem_ready.1 hr).1
        rw [heq] at g1
        rw [getD_both g0] at g1; cases g1
      have h2 := wpOpZ_put hoj (hfree j oj hoj hji hjun hnot) (fun cs b => hsel i oi cs b hi) (fun cs b => hsel j oj cs b hoj) hy h1
      refine wpOp_mono (fun a' w' h3 => ih (listed.setIfInBounds j true) a' w' (fun k ok hk hki hun hno => ?_) (ready_mono hr (Ne.symm hji)) h3.1 ?_) h2
      · refine hfree k ok hk hki ?_ hno
        by_cases hjk : j = k
        · subst hjk; exact hjun
        · rw [getD_set_ne true hjk] at hun; exact hun
      · rw [Array.setIfInBounds_comm _ _ hji]
        exact h3.2
/-- A tail, in its order, and at each step something stays so. -/
def wpListZ (Z : World → Prop) (P : Program) (ops : Array Oper) (Q : Exit → Act → World → Prop) : List Oper → Act → World → Prop
  | [], a, w => Z w ∧ Q .normal a w
  | o :: rest, a, w => Z w ∧ if Region.wanted o (yielded ops a.tmps) then o.wp P a w (wpListZ Z P ops Q rest) Q ∨ (o.asks P a w ∧ LetsOut Q) else wpListZ Z P ops Q rest (a.put o.dst undef) w
theorem oz_nil {ops : Array Oper} (hz : ∀ w, St W M R w → Z w) (h : Imp W n D L M R (Q .normal)) : Imp W n D L M R (wpListZ Z P ops Q []) := fun a w h1 h2 h3 => ⟨hz w h3, h a w h1 h2 h3⟩
theorem oz_lift {ops : Array Oper} {rest : List Oper} (hz : ∀ w, St W M R w → Z w) (h : Imp W n D L M R (wpList P ops (Exit.then (wpListZ Z P ops (NoP Q) rest) (NoP Q)) [o])) : Imp W n D L M R (wpListZ Z P ops (NoP Q) (o :: rest)) := by
  intro a w h1 h2 h3
  refine ⟨hz w h3, ?_⟩
  have := h a w h1 h2 h3
  unfold wpList at this
  split
  · rename_i hw
    rw [if_pos hw] at this
    rcases this with h' | ⟨_, a0, w0, h'⟩
    · refine .inl ?_
      unfold Oper.wp at *
      generalize (execOp a.eval o).run P w = r at h'
      unfold Oper.upon at h' ⊢
      split at h'
      · exact h'
      · exact h'
      · exact h'
      · refine Calls.mono h' fun e w'' he => ?_
        cases e with
        | returned u => exact he
        | panicked c => exact he.elim
        | outgrown => obtain ⟨a1, w1, hx⟩ := he; exact hx.elim
      · exact h'
      · exact h'.elim
      · exact h'.elim
    · exact h'.elim
  · rename_i hw
    rw [if_neg hw] at this
    exact this
theorem wpAnyZ_tail {ops : Array Oper} (hb : backB ops.toList = true) : ∀ (k t fuel : Nat) (listed : Array Bool) (a : Act) (w : World), t + k = ops.size → k ≤ fuel → listed.size = ops.size → Closed ops listed →
    (∀ i, i < t → listed.getD i false = true) → (∀ i, t ≤ i → i < ops.size → listed.getD i true = false) →
    (∀ listed', Closed ops listed' → ∀ i o, t ≤ i → ops[i]? = some o → (∀ e ∈ o.after, Region.binds .any e = true → listed'.getD e.on false = true) → ∀ j, j < i → listed'.getD j false = true) →
    wpListZ Z P ops Q (ops.toList.drop t) a w → wpAnyZ Z P ops Q fuel listed a w := by
  intro k
  induction k with
  | zero =>
    intro t fuel listed a w htk _ hsz _ hl _ _ h
    have hdrop : ops.toList.drop t = [] := List.drop_eq_nil_of_le (by simp; omega)
    rw [hdrop] at h
    have hready : Region.ready .any ops listed = [] := by
      apply List.eq_nil_iff_forall_not_mem.2
      intro i hi
      obtain ⟨h0, o, ho, _⟩ := mem_ready.1 hi
      have hlt := (Array.getElem?_eq_some_iff.1 ho).1
      have := hl i (by omega)
      rw [getD_both h0] at this; cases this
    cases fuel with
    | zero => exact ⟨h.1, hready, h.2⟩
    | succ f => exact ⟨h.1, fun _ => h.2, fun i hi => by rw [hready] at hi; cases hi⟩
  | succ k ih =>
    intro t fuel listed a w htk hkf hsz hcl hl hu hm h
    have ht : t < ops.size := by omega
    obtain ⟨fuel, rfl⟩ : ∃ f, fuel = f + 1 := ⟨fuel - 1, by omega⟩
    have hot : ops[t]? = some ops[t] := Array.getElem?_eq_getElem ht
    have hback : ∀ i o, ops[i]? = some o → ∀ e ∈ o.after, Region.binds .any e = true → e.on < i := by
      intro i o ho e he hbi
      have hlt := (Array.getElem?_eq_some_iff.1 ho).1
      have := List.all_eq_true.1 hb i (List.mem_range.2 (by simpa using hlt))
      rw [show ops.toList[i]? = some o from by simpa using ho] at this
      have := Array.all_eq_true_iff_forall_mem.1 this e he
      simpa [hbi] using this
    have htr : t ∈ Region.ready .any ops listed := mem_ready.2 ⟨hu t (Nat.le_refl _) ht, _, hot, fun e he hbi => hl _ (hback t _ hot e he hbi)⟩
    have hz : Z w := by
      have ht2 : t < ops.toList.length := by simpa using ht
      rw [List.drop_eq_getElem_cons ht2] at h; exact h.1
    refine ⟨hz, fun h0 => (by rw [h0] at htr; cases htr), fun i hi => ?_⟩
    obtain ⟨h0, o, ho, hp⟩ := mem_ready.1 hi
    have hlt := (Array.getElem?_eq_some_iff.1 ho).1
    have hge : t ≤ i := by
      rcases Nat.lt_or_ge i t with h' | h'
      · have := hl i h'; rw [getD_both h0] at this; cases this
      · exact h'
    have hit : i = t := by
      rcases Nat.lt_or_ge t i with h' | h'
      · have := hm listed hcl i o hge ho hp t h'
        rw [getD_both (hu t (Nat.le_refl _) ht)] at this; cases this
      · omega
    subst hit
    have hoi : o = ops[i] := Option.some.inj (ho.symm.trans hot)
    have hdrop : ops.toList.drop i = o :: ops.toList.drop (i + 1) := by
      rw [List.drop_eq_getElem_cons (by simpa using ht)]; simp [hoi]
    rw [hdrop] at h
    have hcl' : Closed ops (listed.setIfInBounds i true) := by
      intro j oj hj hlj e he hbi
      by_cases hij : i = j
      · subst hij
        have : oj = o := Option.some.inj (hj.symm.trans ho)
        subst this
        exact getD_set_true (hp e he hbi)
      · rw [getD_set_ne false hij] at hlj
        exact getD_set_true (hcl j oj hj hlj e he hbi)
    have hih := fun a w => ih (i + 1) fuel (listed.setIfInBounds i true) a w (by omega) (by omega) (by simp [hsz]) hcl'
      (fun j hj => by
        by_cases hij : i = j
        · subst hij; simp [hsz, ht]
        · rw [getD_set_ne false hij]; exact hl j (by omega))
      (fun j hj hj' => by rw [getD_set_ne true (by omega)]; exact hu j (by omega) hj')
      (fun l' hc' j oj hj => hm l' hc' j oj (by omega))
    unfold wpOp
    simp only [ho]
    unfold wpListZ at h
    replace h := h.2
    split
    · rename_i hw
      rw [if_pos hw] at h
      exact h.imp (Oper.wp_mono fun a w => hih a w) id
    · rename_i hw
      rw [if_neg hw] at h
      exact hih _ _ h
theorem parZ_any {free tail : List Oper} {ss : List Spc} (hZ : ∀ X F w, St W (X ++ M) (F ++ R) w → Z w) (hpb : parB free tail = true) (hl : ss.length = free.length) (hfr : ∀ o ∈ free, look L (o.dst.getD 1000000) = none) (hL : LateOK (free ++ tail).toArray ss) (hab : ∀ (i : Nat) (s : Spc) (c : List PanicEntry), ss[i]? = some s → s.ab = some c → Imp W n D L M R (Q (.panic c)))
    (hstep : ∀ i o s, free[i]? = some o → ss[i]? = some s → Step1 P W n M R (free ++ tail).toArray ss i o s (detL (free.take i) (ss.take i) L))
    (hfin : Fin W n D (wpListZ Z P (free ++ tail).toArray Q tail) free ss L M R) :
    ∀ (fuel : Nat) (listed : Array Bool) (a : Act) (w : World), J W n D L M R (free ++ tail).toArray free ss listed a w → unl (free ++ tail).length listed ≤ fuel → wpAnyZ Z P (free ++ tail).toArray Q fuel listed a w := by
  simp only [parB, Bool.and_eq_true] at hpb
  obtain ⟨⟨⟨⟨hns, hfree⟩, hnd0⟩, hback⟩, htail⟩ := hpb
  have hnd := injB_sound hnd0
  have hmN : free.length ≤ (free ++ tail).length := by simp
  have hmask : ∀ listed', Closed (free ++ tail).toArray listed' → ∀ i o, free.length ≤ i → (free ++ tail).toArray[i]? = some o → (∀ e ∈ o.after, Region.binds .any e = true → listed'.getD e.on false = true) → ∀ j, j < i → listed'.getD j false = true := by
    intro listed' hc i o hi ho hp j hj
    have hlt : i < (free ++ tail).length := by simpa using (Array.getElem?_eq_some_iff.1 ho).1
    have h1 := List.all_eq_true.1 htail i (List.mem_range.2 hlt)
    simp only [Bool.or_eq_true] at h1
    rcases h1 with h1 | h1
    · have : i < free.length := by simpa using h1
      omega
    · have h2 := List.all_eq_true.1 h1 j (List.mem_range.2 hj)
      exact (masks_sound hc (free ++ tail) [] (fun j => by simp) (fun i hi => by simp at hi)).1 i o (Nat.zero_le _) ho hp j h2
  have hbk : ∀ i o, (free ++ tail).toArray[i]? = some o → ∀ e ∈ o.after, Region.binds .any e = true → e.on < i := by
    intro i o ho e he hbi
    have hlt : i < (free ++ tail).length := by simpa using (Array.getElem?_eq_some_iff.1 ho).1
    have := List.all_eq_true.1 hback i (List.mem_range.2 hlt)
    rw [show (free ++ tail)[i]? = some o from by simpa using ho] at this
    have := Array.all_eq_true_iff_forall_mem.1 this e he
    simpa [hbi] using this
  intro fuel
  induction fuel with
  | zero =>
    intro listed a w hJ hu
    have hall : ∀ i, i < free.length → listed.getD i false = true := by
      intro i hi
      cases h : listed.getD i true with
      | true =>
        have : i < listed.size := by rw [hJ.size]; simp; omega
        simp [this] at h ⊢; exact h
      | false =>
        have hsz : listed.size = (free ++ tail).length := by rw [hJ.size]; simp
        have := unl_set (N := (free ++ tail).length) (i := i) (by omega) hsz h
        omega
    obtain ⟨g, hg, hS⟩ := hJ.vals
    refine wpAnyZ_tail (by simpa using hback) ((free ++ tail).length - free.length) free.length 0 listed a w (by simp) (Nat.le_trans (unl_ge (fun i h1 h2 => hJ.late i h1 (by simpa using h2))) hu) hJ.size hJ.closed hall (fun i h1 h2 => hJ.late i h1 h2) hmask ?_
    have hd : ((free ++ tail).toArray).toList.drop free.length = tail := by simp
    rw [hd]
    have hsame : resOf ss listed g free.length = lastOf ss g free.length := by
      refine flatMap_same _ _ _ fun j hj => ?_
      have := List.mem_range.1 hj
      rw [hall j this, if_pos rfl]
      cases hsj : ss[j]? with
      | none => rfl
      | some sj =>
        unfold Spc.rsL Spc.last
        cases hl2 : sj.late with
        | none => simp [hl2]
        | some kr =>
          obtain ⟨k, r⟩ := kr
          have hk := (hL j sj k r hsj hl2).1
          simp [hl2, hall k (by omega)]
    have hsamf : ∀ (f : Spc → Value → List Fact), ((List.range free.length).flatMap fun i => if listed.getD i false then (match ss[i]? with | some s => f s (g i) | none => []) else []) = ((List.range free.length).flatMap fun i => if (Array.replicate free.length true).getD i false then (match ss[i]? with | some s => f s (g i) | none => []) else []) := by
      intro f
      refine flatMap_same _ _ _ fun j hj => ?_
      have := List.mem_range.1 hj
      rw [hall j this]; simp [this]
    refine fin_use free ss L M R hl hfin g a w hJ.defers hJ.frame hnd (fun i o s e1 e2 => hg i o s e1 e2 (hall i (List.getElem?_eq_some_iff.1 e1).1)) ?_
    rw [hsame] at hS
    have hf : fctOf ss listed g free.length = fctOf ss (Array.replicate free.length true) g free.length := hsamf Spc.fs
    rw [hf] at hS
    exact hS
  | succ fuel ih =>
    intro listed a w hJ hu
    by_cases hall : ∀ i, i < free.length → listed.getD i false = true
    · obtain ⟨g, hg, hS⟩ := hJ.vals
      refine wpAnyZ_tail (by simpa using hback) ((free ++ tail).length - free.length) free.length (fuel + 1) listed a w (by simp) (Nat.le_trans (unl_ge (fun i h1 h2 => hJ.late i h1 (by simpa using h2))) hu) hJ.size hJ.closed hall (fun i h1 h2 => hJ.late i h1 h2) hmask ?_
      have hd : ((free ++ tail).toArray).toList.drop free.length = tail := by simp
      rw [hd]
      have hsame : resOf ss listed g free.length = lastOf ss g free.length := by
        refine flatMap_same _ _ _ fun j hj => ?_
        have := List.mem_range.1 hj
        rw [hall j this, if_pos rfl]
        cases hsj : ss[j]? with
        | none => rfl
        | some sj =>
          unfold Spc.rsL Spc.last
          cases hl2 : sj.late with
          | none => simp [hl2]
          | some kr =>
            obtain ⟨k, r⟩ := kr
            have hk := (hL j sj k r hsj hl2).1
            simp [hl2, hall k (by omega)]
      have hsamf : ∀ (f : Spc → Value → List Fact), ((List.range free.length).flatMap fun i => if listed.getD i false then (match ss[i]? with | some s => f s (g i) | none => []) else []) = ((List.range free.length).flatMap fun i => if (Array.replicate free.length true).getD i false then (match ss[i]? with | some s => f s (g i) | none => []) else []) := by
        intro f
        refine flatMap_same _ _ _ fun j hj => ?_
        have := List.mem_range.1 hj
        rw [hall j this]; simp [this]
      refine fin_use free ss L M R hl hfin g a w hJ.defers hJ.frame hnd (fun i o s e1 e2 => hg i o s e1 e2 (hall i (List.getElem?_eq_some_iff.1 e1).1)) ?_
      rw [hsame] at hS
      have hf : fctOf ss listed g free.length = fctOf ss (Array.replicate free.length true) g free.length := hsamf Spc.fs
      rw [hf] at hS
      exact hS
    · have hex : ∃ i, i < free.length ∧ listed.getD i false = false := by
        apply Classical.byContradiction
        intro hne
        refine hall fun i hi => ?_
        cases h : listed.getD i false
        · exact absurd ⟨i, hi, h⟩ hne
        · rfl
      obtain ⟨k, ⟨hk, hkf⟩, hkm⟩ := least hex
      have hkt : listed.getD k true = false := by
        have : k < listed.size := by rw [hJ.size]; simp; omega
        simp [this] at hkf ⊢; exact hkf
      have hready : k ∈ Region.ready .any (free ++ tail).toArray listed := by
        refine mem_ready.2 ⟨hkt, (free ++ tail)[k]'(by simp; omega), by simp [List.getElem?_eq_getElem (show k < (free ++ tail).length by simp; omega)], fun e he hbi => ?_⟩
        have hlt := hbk k _ (by simp [List.getElem?_eq_getElem (show k < (free ++ tail).length by simp; omega)]) e he hbi
        cases h : listed.getD e.on false
        · exact absurd ⟨by omega, h⟩ (hkm e.on hlt)
        · rfl
      refine ⟨(by obtain ⟨g, _, hS⟩ := hJ.vals; exact hZ _ _ w hS), fun h0 => (by rw [h0] at hready; cases hready), fun i hi => ?_⟩
      obtain ⟨h0, o, hoi, hp⟩ := mem_ready.1 hi
      have him : i < free.length := by
        rcases Nat.lt_or_ge i free.length with h' | h'
        · exact h'
        · have := hmask listed hJ.closed i o h' hoi hp k (by omega)
          rw [hkf] at this; cases this
      refine par_step (by simp only [parB, Bool.and_eq_true]; exact ⟨⟨⟨⟨hns, hfree⟩, hnd0⟩, hback⟩, htail⟩) hl hfr hL hab hstep hJ hi him _ fun a' w' hJ' => ih _ _ _ hJ' ?_
      have hsz : listed.size = (free ++ tail).length := by rw [hJ.size]; simp
      have := unl_set (N := (free ++ tail).length) (i := i) (by have := (List.getElem?_eq_some_iff.1 (show (free ++ tail)[i]? = some o by simpa using hoi)).1; omega) hsz h0
      omega
theorem floatZ_any {fl : List Nat} {m : Nat} {l : List Oper} : ∀ (fuel : Nat) (listed : Array Bool) (a : Act) (w : World), (∀ i ∈ fl, listed.getD i false = true) → wpAnyZ Z P (floatL fl m l).toArray Q fuel listed a w → wpAnyZ Z P l.toArray Q fuel listed a w
  | 0, listed, a, w, hi, h => by
    refine ⟨h.1, ?_, h.2.2⟩
    cases hr : Region.ready .any l.toArray listed with
    | nil => rfl
    | cons x xs =>
      have : x ∈ Region.ready .any (floatL fl m l).toArray listed := (float_ready hi).2 (by rw [hr]; simp)
      rw [h.2.1] at this; cases this
  | fuel + 1, listed, a, w, hi, h => by
    refine ⟨h.1, fun hr => h.2.1 ?_, fun j hj => float_op (wpOp_mono (fun a' w' h' => floatZ_any fuel _ a' w' (fun i hi' => getD_set_true (hi i hi')) h') (h.2.2 j ((float_ready hi).2 hj)))⟩
    cases hr' : Region.ready .any (floatL fl m l).toArray listed with
    | nil => rfl
    | cons x xs =>
      have : x ∈ Region.ready .any l.toArray listed := (float_ready hi).1 (by rw [hr']; simp)
      rw [hr] at this; cases this
/-- Those that may be drawn late look at what stays. -/
def FlZ (Z : World → Prop) (P : Program) (n : Nat) (L : Tm) (free : List Oper) (ss : List Spc) : List Nat → Prop
  | [] => True
  | i :: r => (∃ (o : Oper) (v : Value) (d : Nat), free[i]? = some o ∧ ss[i]? = some (Spc.q v) ∧ o.guard = none ∧ o.dst = some d ∧ Nat.blt d n = true ∧ ∀ a, FSat n (detL (free.take i) (ss.take i) L) a → ∀ w, Z w → (execOp a.eval o).run P w = .ok (.value v) w) ∧ FlZ Z P n L free ss r
theorem FlZ.at {free : List Oper} {ss : List Spc} : ∀ {fl : List Nat}, FlZ Z P n L free ss fl → ∀ i ∈ fl, ∃ (o : Oper) (v : Value) (d : Nat), free[i]? = some o ∧ ss[i]? = some (Spc.q v) ∧ o.guard = none ∧ o.dst = some d ∧ Nat.blt d n = true ∧ ∀ a, FSat n (detL (free.take i) (ss.take i) L) a → ∀ w, Z w → (execOp a.eval o).run P w = .ok (.value v) w
  | [], _, _, h => by cases h
  | j :: r, ⟨h1, h2⟩, i, hi => by
    rcases List.mem_cons.1 hi with rfl | hi
    · exact h1
    · exact FlZ.at h2 i hi
theorem floatZ_all {fl : List Nat} {m : Nat} {l : List Oper} (hZ : ∀ X F w, St W (X ++ M) (F ++ R) w → Z w) (hml : m ≤ l.length) {ss : List Spc} (hpb : parB ((floatL fl m l).take m) ((floatL fl m l).drop m) = true) (hlen : ss.length = ((floatL fl m l).take m).length) (hfr : ∀ o ∈ (floatL fl m l).take m, look L (o.dst.getD 1000000) = none) (hL : LateOK (floatL fl m l).toArray ss)
    (hab : ∀ (i : Nat) (s : Spc) (c : List PanicEntry), ss[i]? = some s → s.ab = some c → Imp W n D L M R (NoP Q (.panic c)))
    (hstep : ∀ i o s, ((floatL fl m l).take m)[i]? = some o → ss[i]? = some s → Step1 P W n M R (floatL fl m l).toArray ss i o s (detL (((floatL fl m l).take m).take i) (ss.take i) L))
    (hfin : Fin W n D (wpListZ Z P (floatL fl m l).toArray (NoP Q) ((floatL fl m l).drop m)) ((floatL fl m l).take m) ss L M R)
    (hfl : FlZ Z P n L ((floatL fl m l).take m) ss fl) (hns : Region.noSelect l.toArray = true) (hbk : backB l = true) (htl : tailF fl (masks l []) m l.length = true) (hfs : freesB l fl = true) :
    ∀ (fuel : Nat) (listed : Array Bool) (a : Act) (w : World), J W n D L M R (floatL fl m l).toArray ((floatL fl m l).take m) ss listed a w → unl l.length listed ≤ fuel → wpAnyZ Z P l.toArray (NoP Q) fuel listed a w := by
  have hflat := hfl.at
  have hFat := floatL_at fl m l
  have hFlen := floatL_len fl m l
  generalize hF : floatL fl m l = F at *
  have hsplit : F.take m ++ F.drop m = F := List.take_append_drop m F
  have hmF : (F.take m).length = m := by rw [List.length_take]; omega
  have hlow : ∀ j, j < m → F[j]? = l[j]? := fun j hj => by
    rw [hFat j]; cases l[j]? with
    | none => rfl
    | some o => simp [hj]
  have hfree : ∀ j, j < m → (F.take m)[j]? = l[j]? := fun j hj => by rw [List.getElem?_take, if_pos hj, hlow j hj]
  have hlate : LateOK (F.take m ++ F.drop m).toArray ss := by rw [hsplit]; exact hL
  have hst' : ∀ i o s, (F.take m)[i]? = some o → ss[i]? = some s → Step1 P W n M R (F.take m ++ F.drop m).toArray ss i o s (detL ((F.take m).take i) (ss.take i) L) := by rw [hsplit]; exact hstep
  have hclosed : ∀ listed, Closed F.toArray listed → Closed l.toArray listed := fun listed hc j o ho hj e he hb => by
    have ho : l[j]? = some o := by simpa using ho
    refine hc j (if j < m then o else addE fl o) (by rw [List.getElem?_toArray, hFat, ho]; rfl) hj e ?_ hb
    split
    · exact he
    · unfold addE; exact Array.mem_append_left _ he
  have hback : ∀ i o, l[i]? = some o → ∀ e ∈ o.after, Region.binds .any e = true → e.on < i := by
    intro i o ho e he hbi
    have hlt : i < l.length := (List.getElem?_eq_some_iff.1 ho).1
    have := List.all_eq_true.1 hbk i (List.mem_range.2 hlt)
    rw [ho] at this
    have := Array.all_eq_true_iff_forall_mem.1 this e he
    simpa [hbi] using this
  intro fuel
  induction fuel with
  | zero =>
    intro listed a w hJ hu
    have hsz : listed.size = l.length := by rw [hJ.size]; simp [hFlen]
    have hall : ∀ i ∈ fl, listed.getD i false = true := fun i hi => by
      obtain ⟨o, v, d, ho, _⟩ := hflat i hi
      have hi' : i < m := by have := (List.getElem?_eq_some_iff.1 ho).1; omega
      cases h : listed.getD i true with
      | true =>
        have : i < listed.size := by omega
        simp [this] at h ⊢; exact h
      | false =>
        have := unl_set (N := l.length) (i := i) (by omega) hsz h
        omega
    refine floatZ_any (fl := fl) (m := m) 0 listed a w hall ?_
    rw [hF, ← hsplit]
    replace hJ : J W n D L M R (F.take m ++ F.drop m).toArray (F.take m) ss listed a w := by rw [hsplit]; exact hJ
    exact parZ_any hZ hpb hlen hfr hlate hab hst' (by rw [hsplit]; exact hfin) 0 listed a w hJ (by rw [hsplit, hFlen]; exact hu)
  | succ fuel ih =>
    intro listed a w hJ hu
    have hsz : listed.size = l.length := by rw [hJ.size]; simp [hFlen]
    have hboth : ∀ j, j < l.length → listed.getD j true = listed.getD j false := fun j hj => by
      have : j < listed.size := by omega
      simp [this]
    by_cases hall : ∀ i ∈ fl, listed.getD i false = true
    · refine floatZ_any (fl := fl) (m := m) (fuel + 1) listed a w hall ?_
      rw [hF, ← hsplit]
      replace hJ : J W n D L M R (F.take m ++ F.drop m).toArray (F.take m) ss listed a w := by rw [hsplit]; exact hJ
      exact parZ_any hZ hpb hlen hfr hlate hab hst' (by rw [hsplit]; exact hfin) (fuel + 1) listed a w hJ (by rw [hsplit, hFlen]; exact hu)
    · by_cases hrd : ∃ i ∈ fl, i ∈ Region.ready .any l.toArray listed
      · obtain ⟨i, hi, hir⟩ := hrd
        obtain ⟨o, v, d, ho, hs, hg, hdst, hdn, hpure⟩ := hflat i hi
        have him : i < m := by have := (List.getElem?_eq_some_iff.1 ho).1; omega
        have hol : l[i]? = some o := by rw [← hfree i him]; exact ho
        obtain ⟨h0, o', ho', hp⟩ := mem_ready.1 hir
        have ho' : l[i]? = some o' := by simpa using ho'
        rw [hol] at ho'; cases ho'
        have hJ' : J W n D L M R (F.take m ++ F.drop m).toArray (F.take m) ss listed a w := by rw [hsplit]; exact hJ
        obtain ⟨a', g, f1, hex, hgv, hS⟩ := frame_at hpb hlen hfr hlate hab hst' hJ' ho hp
        have hirF : i ∈ Region.ready .any (F.take m ++ F.drop m).toArray listed := by
          rw [hsplit]
          exact mem_ready.2 ⟨h0, o, by rw [List.getElem?_toArray, hlow i him]; exact hol, hp⟩
        have hy : YieldsZ Z P l.toArray o v a := ⟨by simp [Region.wanted, hg], fun w hz => by rw [hex]; exact hpure a' f1 w hz⟩
        refine wpAnyZ_first (i := i) (oi := o) (v := v) (by simpa using hol) (Region.noSelect_spec hns) fuel listed a w (freeAt_spec hol (List.all_eq_true.1 hfs i hi) hp) hir hy ?_
        · have hnd : Inj (F.take m) := by
            simp only [parB, Bool.and_eq_true] at hpb
            exact injB_sound hpb.1.1.2
          have hset : (resOf ss listed g (F.take m).length ++ M).Perm (restOf ss listed g (F.take m).length i ++ M) := by
            refine List.Perm.append_right M (List.Perm.of_eq ?_)
            refine flatMap_same _ _ _ fun j hj => ?_
            by_cases e : j = i
            · subst e
              have : listed.getD j false = false := by rw [← hboth j (by omega)]; exact h0
              rw [if_pos rfl, this, hs]; rfl
            · rw [if_neg e]
          have hJn := hJ.next (v := v) (o := o) (s := Spc.q v) (i := i) (w' := w) hnd hfr (by simp [hFlen, hmF]; omega) (by rw [← hsplit]; exact hirF) (by rw [List.getElem?_toArray, hlow i him]; exact hol) ho hs (by rw [hdst]; exact hdn) rfl rfl hL hgv (hS.perm hset)
          refine ih _ _ _ hJn ?_
          have := unl_set (N := l.length) (i := i) (by omega) hsz h0
          omega
      · have hex : ∃ i, (i ∈ fl ∧ listed.getD i false = false) := by
          apply Classical.byContradiction
          intro hne
          refine hall fun i hi => ?_
          cases h : listed.getD i false
          · exact absurd ⟨i, hi, h⟩ hne
          · rfl
        obtain ⟨k, ⟨hk, hkf⟩, hkm⟩ := least hex
        obtain ⟨ok, vk, dk, hok, _⟩ := hflat k hk
        have hkm' : k < m := by have := (List.getElem?_eq_some_iff.1 hok).1; omega
        have hokl : l[k]? = some ok := by rw [← hfree k hkm']; exact hok
        have hlt : ∀ j, j ∈ Region.ready .any l.toArray listed → j < m := by
          intro j hj
          rcases Nat.lt_or_ge j m with h | h
          · exact h
          · exfalso
            obtain ⟨j0, o, hoj, hp⟩ := mem_ready.1 hj
            have hoj' : l[j]? = some o := by simpa using hoj
            have hjl : j < l.length := (List.getElem?_eq_some_iff.1 hoj').1
            have h1 := List.all_eq_true.1 htl j (List.mem_range.2 hjl)
            simp only [Bool.or_eq_true] at h1
            have hnon : ∀ t, t < j → t ∉ fl → listed.getD t false = true := fun t ht hnf => by
              rcases h1 with h1 | h1
              · have : j < m := by simpa using h1
                omega
              · have h2 := List.all_eq_true.1 h1 t (List.mem_range.2 ht)
                simp only [Bool.or_eq_true, List.contains_eq_mem, decide_eq_true_eq] at h2
                rcases h2 with h2 | h2
                · exact absurd h2 hnf
                · exact (masks_sound (ops := l.toArray) (hclosed listed hJ.closed) l [] (fun j => by simp) (fun i hi => by simp at hi)).1 j o (Nat.zero_le _) hoj hp t h2
            refine hrd ⟨k, hk, mem_ready.2 ⟨by rw [hboth k (by omega)]; exact hkf, ok, by simpa using hokl, fun e he hb => ?_⟩⟩
            have hek := hback k ok hokl e he hb
            by_cases hef : e.on ∈ fl
            · cases h : listed.getD e.on false
              · exact absurd ⟨hef, h⟩ (hkm e.on hek)
              · rfl
            · exact hnon e.on (by omega) hef
        refine ⟨(by obtain ⟨g, _, hS⟩ := hJ.vals; exact hZ _ _ w hS), fun hr => ?_, fun j hj => ?_⟩
        · exfalso
          have hex2 : ∃ t, t < l.length ∧ listed.getD t false = false := ⟨k, by omega, hkf⟩
          obtain ⟨t, ⟨ht, htf⟩, htm⟩ := least hex2
          have : t ∈ Region.ready .any l.toArray listed := mem_ready.2 ⟨by rw [hboth t ht]; exact htf, l[t], by simp, fun e he hb => by
            have hlt2 := hback t l[t] (List.getElem?_eq_getElem ht) e he hb
            cases h : listed.getD e.on false
            · exact absurd ⟨by omega, h⟩ (htm e.on hlt2)
            · rfl⟩
          rw [hr] at this; cases this
        · have hjm := hlt j hj
          obtain ⟨j0, o, hoj, hp⟩ := mem_ready.1 hj
          have hoj' : l[j]? = some o := by simpa using hoj
          refine float_op (fl := fl) (m := m) ?_
          rw [hF, ← hsplit]
          replace hJ : J W n D L M R (F.take m ++ F.drop m).toArray (F.take m) ss listed a w := by rw [hsplit]; exact hJ
          refine par_step hpb hlen hfr hlate hab hst' hJ (mem_ready.2 ⟨j0, o, ?_, hp⟩) (by omega) _ fun a' w' hJ' => ih _ _ _ (by rw [hsplit] at hJ'; exact hJ') ?_
          · rw [List.getElem?_toArray, hsplit, hlow j hjm]; exact hoj'
          · have := unl_set (N := l.length) (i := j) (by have := (List.getElem?_eq_some_iff.1 hoj').1; omega) hsz j0
            omega
theorem r_parZ {id : Nat} {l : List Oper} (Z : World → Prop) (hZ : ∀ X F w, St W (X ++ M) (F ++ R) w → Z w) (fl : List Nat) (m : Nat) (hml : Nat.ble m l.length = true) (hns : Region.noSelect l.toArray = true) (hbk : backB l = true) (htl : tailF fl (masks l []) m l.length = true) (hfs : freesB l fl = true)
    (hm : P.follows .mixedOrders = true) (hpb : parB ((floatL fl m l).take m) ((floatL fl m l).drop m) = true) (hfr : freshB L ((floatL fl m l).take m) = true)
    (h : ParO P W n M R (floatL fl m l).toArray (fun ss => FlZ Z P n L ((floatL fl m l).take m) ss fl ∧ preOf ss = [] ∧ lateX (floatL fl m l).toArray ss = true ∧ Fin W n D (wpListZ Z P (floatL fl m l).toArray (NoP Q) ((floatL fl m l).drop m)) ((floatL fl m l).take m) ss L M R) ((floatL fl m l).take m) [] L) : Imp W n D L M R ((Code.region id l.toArray true).wp P Q) := by
  have hml : m ≤ l.length := by simpa using hml
  intro a w h1 h2 h3
  refine Code.wp_mono (Q := NoP Q) (fun e a' w' he => ?_) ?_
  · cases e with
    | normal => exact he
    | _ => exact he.elim
  refine wp_region_any hm ?_
  obtain ⟨ss, hl, ⟨hsi, hpre, hlx, hfin⟩, hs⟩ := ParO.out ((floatL fl m l).take m) [] L h
  rw [List.nil_append] at hsi hpre hlx hfin
  have hLB : lateB (floatL fl m l).toArray ss 0 ss = true := by simp only [lateX, Bool.and_eq_true] at hlx; exact hlx.1
  have hlk : ∀ o ∈ (floatL fl m l).take m, look L (o.dst.getD 1000000) = none := fun o ho => by
    have := List.all_eq_true.1 hfr o ho
    simpa using this
  refine (floatZ_all hZ hml hpb hl hlk (lateOK_of hLB) (fun k s c e1 e2 => (lateX_ab hlx k s c e1 e2).elim) (fun k o s e1 e2 => by
    have := hs k o s e1 e2
    rw [List.nil_append, List.length_nil, Nat.zero_add] at this
    exact this) hfin hsi hns hbk htl hfs _ _ _ _ ⟨?_, ?_, ?_, h1, h2, fun _ => undef, ?_, ?_⟩ ?_).any
  · simp [floatL_len]
  · intro j o _ hj
    rw [rep_false] at hj; cases hj
  · intro t _ ht
    have : t < l.length := by simpa [floatL_len] using ht
    simp [this]
  · intro i o s e1 _ hj
    rw [rep_false] at hj; cases hj
  · have e1 : resOf ss (Array.replicate l.toArray.size false) (fun _ => undef) ((floatL fl m l).take m).length = [] := by
      rw [← hpre, ← preOf_range, hl]
      refine flatMap_same _ _ _ fun j hj => ?_
      rw [rep_false]; rfl
    have e2 : ∀ k, fctOf ss (Array.replicate l.toArray.size false) (fun _ => undef) k = [] := by
      intro k
      unfold fctOf
      induction k with
      | zero => rfl
      | succ k ih => rw [List.range_succ, List.flatMap_append, ih, List.nil_append, List.flatMap_cons, List.flatMap_nil, List.append_nil, rep_false]; rfl
    rw [e1, e2]
    exact h3.heap rfl rfl rfl rfl
  · have := unl_tail (N := l.length) (m := 0) (listed := Array.replicate l.length false) (fun i hi => by omega)
    simpa using this
/-- A load of a variable that is owned. -/
theorem float_load {o : Oper} {T B : TypeId} {x : Operand} {b : Nat} {vs : List Value} {d : TypeDesc} {i : TypeInfo} (ho : o.op = .load T x) (hT : P.underlying T = some d) (hd : aggD d = true) (hi : P.info? T = some i) (hx : ev L x = some (pt b 0)) (hu : vs.length = i.size) (hz : ∀ w, Z w → w.heap[b]? = some (.cells vs.toArray B (0, 0))) : ∀ a, FSat n L a → ∀ w, Z w → (execOp a.eval o).run P w = .ok (.value (.agg vs.toArray)) w := fun a ha w h => by
  have hs : St w [bx b B vs] [] w := ⟨rfl, rfl, rfl, [(b, .cells vs.toArray B (0, 0))], ⟨[(b, .cells vs.toArray B (0, 0))], [], rfl, rfl, rfl⟩, ⟨by simp [keys], fun p hp => by
    have : p = (b, .cells vs.toArray B (0, 0)) := by simpa using hp
    subst this; exact hz w h⟩, fun φ hφ => by cases hφ⟩
  have hagg := run_isAgg' (w := w) hT
  rw [hd] at hagg
  have hl := run_loadCells_bx (P := P) (off := 0) (k := i.size) hs (List.mem_singleton.2 rfl) hu (fun j _ => by rw [Nat.zero_add])
  simp [execOp, ho, ha.ev hx, Instr.loadAt, pt, Instr.sureAddr, loadVar, hagg, run_sizeOf' hi, hl]
theorem float_mv {o : Oper} {x : Operand} {v : Value} (ho : o.op = .move x) (hx : ev L x = some v) : ∀ a, FSat n L a → ∀ w, Z w → (execOp a.eval o).run P w = .ok (.value v) w := fun a h w _ => float_move ho hx a h w
theorem float_field {o : Oper} {T : TypeId} {x : Operand} {b off j : Nat} {fs : Array Field} {f : Field} {i : TypeInfo} (ho : o.op = .fieldAddr T x j) (hT : P.underlying T = some (.struct fs)) {ft : TypeId} (hi : P.info? ft = some i) (hf : fs[j]? = some f) (hft : f.type = ft) (hz : Nat.beq i.size 0 = false)
    (hx : ev L x = some (pt b off)) : ∀ a, FSat n L a → ∀ w, Z w → (execOp a.eval o).run P w = .ok (.value (pt b (off + f.offset))) w := fun a h1 w _ => by
  subst hft
  have hz' : ¬ i.size = 0 := fun e => by rw [e] at hz; cases hz
  simp [execOp, ho, h1.ev hx, Instr.fieldAt, pt, run_underlying hT, hf, Instr.sureAddr, fieldPlace, run_sizeOf' hi, hz', add_at]
theorem float_cell {o : Oper} {T B : TypeId} {x : Operand} {b off : Nat} {vs : List Value} {v : Value} {d : TypeDesc} (ho : o.op = .load T x) (hT : P.underlying T = some d) (hd : aggD d = false)
    (hx : ev L x = some (pt b off)) (hv : vs[off]? = some v) (hz : ∀ w, Z w → w.heap[b]? = some (.cells vs.toArray B (0, 0))) : ∀ a, FSat n L a → ∀ w, Z w → (execOp a.eval o).run P w = .ok (.value v) w := fun a h1 w h => by
  have hs : St w [bx b B vs] [] w := ⟨rfl, rfl, rfl, [(b, .cells vs.toArray B (0, 0))], ⟨[(b, .cells vs.toArray B (0, 0))], [], rfl, rfl, rfl⟩, ⟨by simp [keys], fun p hp => by
    have : p = (b, .cells vs.toArray B (0, 0)) := by simpa using hp
    subst this; exact hz w h⟩, fun φ hφ => by cases hφ⟩
  have hc := hs.cell (List.mem_singleton.2 rfl) off
  rw [hv] at hc
  have hagg := run_isAgg' (w := w) hT
  rw [hd] at hagg
  simp [execOp, ho, h1.ev hx, Instr.loadAt, pt, Instr.sureAddr, loadVar, hagg, hc]
end Go.G


namespace Go.G
open MapKept
variable {P : Program} {W : World} {n : Nat} {D : List Deferred} {L : Tm} {M : List Res} {R : List Fact} {Q : Exit → Act → World → Prop} {o : Oper}
/-- What a map holds. -/
abbrev Cont := Value → Option Value
structure Holds (P : Program) (k : TypeId) (G : Cont) (es : Array MapEntry) (clock : Nat) : Prop where
  st : Stamped es clock
  keys : ∀ e ∈ es.toList, ∃ l, keyOf P k e.key = some l
  yes : ∀ e ∈ es.toList, G e.key = some e.val
  no : ∀ kv, (∀ e ∈ es.toList, e.key ≠ kv) → G kv = none
noncomputable def Cont.put (G : Cont) (kv u : Value) : Cont := fun x => match Classical.propDecidable (x = kv) with
  | .isTrue _ => some u
  | .isFalse _ => G x
theorem Holds.empty (P : Program) (k : TypeId) : Holds P k (fun _ => none) #[] 0 :=
  ⟨⟨fun x hx => by simp at hx, by simp, by simp⟩, fun e he => by simp at he, fun e he => by simp at he, fun _ _ => rfl⟩
end Go.G


namespace Go.G
variable {P : Program} {W : World} {n m : Nat} {D : List Deferred} {L : Tm} {M : List Res} {R : List Fact} {Q : Exit → Act → World → Prop} {o : Oper} {F : Fence}
/-- An iterator's value hands out these, one by one; each round goes from one state of a family to one of the next. -/
def YieldsG {α γ : Type} (P : Program) (W : World) (l : Nat) (enc : α → List Value) (xs : List α) (J : γ → Nat → Res) (F : γ → Nat → Fact) (Rf : List Fact) : Prop :=
  ∀ i x, xs[i]? = some x → ∀ g Mi Ri w, St W (J g i :: Mi) (F g i :: (Ri ++ Rf)) w → YieldAt Fence.wide 0 P l (enc x).toArray w fun e w' => e = .returned (.bool true) ∧ ∃ g', St W (J g' (i + 1) :: Mi) (F g' (i + 1) :: (Ri ++ Rf)) w'
def RetSeqG {γ : Type} (W : World) (J : γ → Nat → Res) (F : γ → Nat → Fact) (N : Nat) (R : List Fact) (e : Ending) (w' : World) : Prop := (∃ v, e = .returned v) ∧ ∃ g, St W [J g N] (F g N :: R) w'
structure IsSeqG {α : Type} (P : Program) (g : FuncId) (lb : List Value) (Rs : List Fact) (enc : α → List Value) (xs : List α) : Prop where
  enter : ∀ (ag : Array Value) (w : World), (callFunc g ag).run P w = .ok (.enter g ag) w
  calls : ∀ {γ : Type} (l : Nat) (J : γ → Nat → Res) (F : γ → Nat → Fact) (g0 : γ) (W : World) (Rf : List Fact) (w : World), YieldsG P W l enc xs J F Rf → St W [J g0 0] (F g0 0 :: (Rs ++ Rf)) w → Calls P g (.func (.yield l) #[] #[] :: lb).toArray w (RetSeqG W J F xs.length (Rs ++ Rf))
theorem IsSeqG.intro {α : Type} {g : FuncId} {lb : List Value} {Rs : List Fact} {enc : α → List Value} {xs : List α} {fn : Func} {c : Code} (he : ∀ (ag : Array Value) (w : World), (callFunc g ag).run P w = .ok (.enter g ag) w)
    (hf : P.funcs[g]? = some fn) (hb : fn.body = some c) (hn : fn.ntmps = n) (ha : Nat.ble (lb.length + 1) n = true)
    (h : ∀ {γ : Type} l (J : γ → Nat → Res) (F : γ → Nat → Fact) (g0 : γ) W Rf, YieldsG P W l enc xs J F Rf → Imp W n [] (argsL (.func (.yield l) #[] #[] :: lb) 0) [J g0 0] (F g0 0 :: (Rs ++ Rf)) (c.wp P (bodyPost P fn (RetSeqG W J F xs.length (Rs ++ Rf))))) : IsSeqG P g lb Rs enc xs := by
  refine ⟨he, fun l J F g0 W Rf w hY hw => calls_of_wp hf hb ?_⟩
  rw [hn]
  exact h l J F g0 W Rf hY _ w (FSat.entry (by simpa using Nat.le_of_ble_eq_true ha)) rfl hw
theorem FnS.introM {k : FuncId} {args : List Value} {M0 : List Res} {R0 : List Fact} {Post : Ending → List Res → List Fact → Prop} {fn : Func} {c : Code} (he : ∀ (ag : Array Value) (w : World), (callFunc k ag).run P w = .ok (.enter k ag) w)
    (hf : P.funcs[k]? = some fn) (hb : fn.body = some c) (hn : fn.ntmps = n) (ha : Nat.ble args.length n = true)
    (h : ∀ W Mf Rf, Imp W n [] (argsL args 0) (M0 ++ Mf) (R0 ++ Rf) (c.wp P (bodyPostM Fence.wide 0 P fn (RetE W Mf (R0 ++ Rf) Post)))) : FnS P k args M0 R0 Post := by
  refine ⟨he, fun W Mf Rf w hw => (callsIn_wide (n := 0)).1 (callsIn_of_wp_marks hf hb trivial (wpIn_wide.2 ?_))⟩
  rw [hn]
  exact h W Mf Rf _ w (FSat.entry (Nat.le_of_ble_eq_true ha)) rfl hw
theorem FnS.introM1 {k : FuncId} {args : List Value} {r : Res} {R0 : List Fact} {Post : Ending → List Res → List Fact → Prop} {fn : Func} {c : Code} (he : ∀ (ag : Array Value) (w : World), (callFunc k ag).run P w = .ok (.enter k ag) w)
    (hf : P.funcs[k]? = some fn) (hb : fn.body = some c) (hn : fn.ntmps = n) (ha : Nat.ble args.length n = true)
    (h : ∀ W Mf Rf, Imp W n [] (argsL args 0) (r :: Mf) (R0 ++ Rf) (c.wp P (bodyPostM Fence.wide 0 P fn (RetE W Mf (R0 ++ Rf) Post)))) : FnS P k args [r] R0 Post := FnS.introM he hf hb hn ha h
end Go.G


namespace Go.G
variable {P : Program} {W : World} {n : Nat} {D : List Deferred} {L : Tm} {M : List Res} {R : List Fact} {Q : Exit → Act → World → Prop} {o : Oper} {F : Fence} {m0 : Nat}
theorem anyIn_of_any {ops : Array Oper} (hF : WideF P F) (hnd : ∀ (i : Nat) (o : Oper), ops[i]? = some o → noDefer o.op = true) (hno : ∀ a w, Q .outgrown a w → False) : ∀ {fuel : Nat} {listed : Array Bool} {a : Act} {w : World}, wpAny P .any ops Q fuel listed a w → wpAnyIn F m0 P .any ops Q fuel listed a w
  | 0, _, _, _, h => h
  | fuel + 1, listed, a, w, h => by
    refine ⟨h.1, fun i hi => ?_⟩
    have h2 := h.2 i hi
    unfold wpOp at h2
    unfold wpOpIn
    cases ho : ops[i]? with
    | none =>
      rw [ho] at h2
      exact anyIn_of_any hF hnd hno h2
    | some o =>
      rw [ho] at h2
      dsimp only at h2 ⊢
      split
      · rename_i hw
        rw [if_pos hw] at h2
        rcases h2 with h2 | ⟨_, a0, w0, h3⟩
        · exact Oper.wpIn_mono (fun _ _ h' => anyIn_of_any hF hnd hno h') (opIn_of_wp hF (hnd i o ho) h2)
        · exact (hno _ _ h3).elim
      · rename_i hw
        rw [if_neg hw] at h2
        exact ⟨fun f _ => hF.fn f, anyIn_of_any hF hnd hno h2⟩
theorem ri_parZ {id : Nat} {l : List Oper} (Z : World → Prop) (hZ : ∀ X F w, St W (X ++ M) (F ++ R) w → Z w) (fl : List Nat) (m : Nat) (hF : WideF P F) (hnd : l.all (fun o => noDefer o.op) = true) (hml : Nat.ble m l.length = true) (hns : Region.noSelect l.toArray = true) (hbk : backB l = true) (htl : tailF fl (masks l []) m l.length = true) (hfs : freesB l fl = true)
    (hm : P.follows .mixedOrders = true) (hpb : parB ((floatL fl m l).take m) ((floatL fl m l).drop m) = true) (hfr : freshB L ((floatL fl m l).take m) = true)
    (h : ParO P W n M R (floatL fl m l).toArray (fun ss => FlZ Z P n L ((floatL fl m l).take m) ss fl ∧ preOf ss = [] ∧ lateX (floatL fl m l).toArray ss = true ∧ Fin W n D (wpListZ Z P (floatL fl m l).toArray (NoP Q) ((floatL fl m l).drop m)) ((floatL fl m l).take m) ss L M R) ((floatL fl m l).take m) [] L) : Imp W n D L M R ((Code.region id l.toArray true).wpIn F m0 P Q) := by
  have hml : m ≤ l.length := by simpa using hml
  intro a w h1 h2 h3
  refine Go.wpIn_mono (Q := NoP Q) ?_ (fun e a' w' he => ?_)
  rotate_left
  · cases e with
    | normal => exact he
    | _ => exact he.elim
  refine wpIn_region_any hm (anyIn_of_any hF (fun i o ho => ?_) (fun _ _ h => h) ?_)
  · have : l[i]? = some o := by simpa using ho
    exact List.all_eq_true.1 hnd o (List.mem_of_getElem? this)
  obtain ⟨ss, hl, ⟨hsi, hpre, hlx, hfin⟩, hs⟩ := ParO.out ((floatL fl m l).take m) [] L h
  rw [List.nil_append] at hsi hpre hlx hfin
  have hLB : lateB (floatL fl m l).toArray ss 0 ss = true := by simp only [lateX, Bool.and_eq_true] at hlx; exact hlx.1
  have hlk : ∀ o ∈ (floatL fl m l).take m, look L (o.dst.getD 1000000) = none := fun o ho => by
    have := List.all_eq_true.1 hfr o ho
    simpa using this
  refine (floatZ_all hZ hml hpb hl hlk (lateOK_of hLB) (fun k s c e1 e2 => (lateX_ab hlx k s c e1 e2).elim) (fun k o s e1 e2 => by
    have := hs k o s e1 e2
    rw [List.nil_append, List.length_nil, Nat.zero_add] at this
    exact this) hfin hsi hns hbk htl hfs _ _ _ _ ⟨?_, ?_, ?_, h1, h2, fun _ => undef, ?_, ?_⟩ ?_).any
  · simp [floatL_len]
  · intro j o _ hj
    rw [rep_false] at hj; cases hj
  · intro t _ ht
    have : t < l.length := by simpa [floatL_len] using ht
    simp [this]
  · intro i o s e1 _ hj
    rw [rep_false] at hj; cases hj
  · have e1 : resOf ss (Array.replicate l.toArray.size false) (fun _ => undef) ((floatL fl m l).take m).length = [] := by
      rw [← hpre, ← preOf_range, hl]
      refine flatMap_same _ _ _ fun j hj => ?_
      rw [rep_false]; rfl
    have e2 : ∀ k, fctOf ss (Array.replicate l.toArray.size false) (fun _ => undef) k = [] := by
      intro k
      unfold fctOf
      induction k with
      | zero => rfl
      | succ k ih => rw [List.range_succ, List.flatMap_append, ih, List.nil_append, List.flatMap_cons, List.flatMap_nil, List.append_nil, rep_false]; rfl
    rw [e1, e2]
    exact h3.heap rfl rfl rfl rfl
  · have := unl_tail (N := l.length) (m := 0) (listed := Array.replicate l.length false) (fun i hi => by omega)
    simpa using this
end Go.G


namespace Go.G
variable {P : Program} {W : World} {n : Nat} {D : List Deferred} {L : Tm} {M : List Res} {R : List Fact} {Q : Exit → Act → World → Prop} {o : Oper} {Z : World → Prop}
/-- Those that may be drawn late: what they come to hangs on what stays, and on one that has been carried out. -/
def FlY (Z : World → Prop) (P : Program) (n : Nat) (L : Tm) (free : List Oper) (ss : List Spc) : List Nat → Prop
  | [] => True
  | i :: r => (∃ (o : Oper) (s : Spc) (d : Nat), free[i]? = some o ∧ ss[i]? = some s ∧ o.guard = none ∧ o.dst = some d ∧ Nat.blt d n = true ∧ s.of = none ∧ s.pre = [] ∧ (∀ u, s.rs u = []) ∧
      ((∃ v, s = Spc.q v ∧ ∀ a, FSat n (detL (free.take i) (ss.take i) L) a → ∀ w, Z w → (execOp a.eval o).run P w = .ok (.value v) w) ∨
       (s.det = none ∧ ∃ (j : Nat) (oj : Oper) (sj : Spc) (f : Value → Value), free[j]? = some oj ∧ ss[j]? = some sj ∧ sj.det = none ∧ depOn o j = true ∧ oj.dst.isSome = true ∧
         ∀ u, sj.pval u → s.pval (f u) ∧ (∀ φ ∈ s.fct (f u), φ ∈ sj.fct u) ∧ ∀ a, FSat n ((oj.dst.getD 1000000, u) :: detL (free.take i) (ss.take i) L) a → ∀ w, Z w → (execOp a.eval o).run P w = .ok (.value (f u)) w))) ∧ FlY Z P n L free ss r
theorem FlY.at {free : List Oper} {ss : List Spc} : ∀ {fl : List Nat}, FlY Z P n L free ss fl → ∀ i ∈ fl, (∃ (o : Oper) (s : Spc) (d : Nat), free[i]? = some o ∧ ss[i]? = some s ∧ o.guard = none ∧ o.dst = some d ∧ Nat.blt d n = true ∧ s.of = none ∧ s.pre = [] ∧ (∀ u, s.rs u = []) ∧
      ((∃ v, s = Spc.q v ∧ ∀ a, FSat n (detL (free.take i) (ss.take i) L) a → ∀ w, Z w → (execOp a.eval o).run P w = .ok (.value v) w) ∨
       (s.det = none ∧ ∃ (j : Nat) (oj : Oper) (sj : Spc) (f : Value → Value), free[j]? = some oj ∧ ss[j]? = some sj ∧ sj.det = none ∧ depOn o j = true ∧ oj.dst.isSome = true ∧
         ∀ u, sj.pval u → s.pval (f u) ∧ (∀ φ ∈ s.fct (f u), φ ∈ sj.fct u) ∧ ∀ a, FSat n ((oj.dst.getD 1000000, u) :: detL (free.take i) (ss.take i) L) a → ∀ w, Z w → (execOp a.eval o).run P w = .ok (.value (f u)) w)))
  | [], _, _, h => by cases h
  | j :: r, ⟨h1, h2⟩, i, hi => by
    rcases List.mem_cons.1 hi with rfl | hi
    · exact h1
    · exact FlY.at h2 i hi
end Go.G


namespace Go.G
variable {P : Program} {W : World} {n : Nat} {D : List Deferred} {L : Tm} {M : List Res} {R : List Fact} {Q : Exit → Act → World → Prop} {o : Oper} {Z : World → Prop}
/-- The operation, with its waits told anew. -/
def ren (τ : Nat → Nat) (o : Oper) : Oper := { o with after := o.after.map fun e => { e with on := τ e.on }, guard := o.guard.map fun p => (τ p.1, p.2) }
/-- In the order of a list of their numbers. -/
def permL (σ : List Nat) (l : List Oper) : List Oper := σ.map fun i => match l[i]? with | some o => ren (fun j => σ.idxOf j) o | none => { dst := none, op := .move (.tmp 0), type := 0, pos := "", after := #[], guard := none }
def permB (σ : List Nat) (l : List Oper) : Bool := nodupB σ && Nat.beq σ.length l.length && (List.range l.length).all (fun j => Nat.blt (σ.idxOf j) σ.length) && σ.all (fun i => Nat.blt i l.length) &&
  l.all (fun o => o.after.all (fun e => Nat.blt e.on l.length) && match o.guard with | some (g, _) => Nat.blt g l.length | none => true)
structure PermOK (σ : List Nat) (l : List Oper) : Prop where
  len : σ.length = l.length
  at_ : ∀ j, j < l.length → σ.idxOf j < σ.length ∧ σ[σ.idxOf j]? = some j
  inv : ∀ k (i : Nat), σ[k]? = some i → i < l.length ∧ σ.idxOf i = k
  edge : ∀ o ∈ l, ∀ e ∈ o.after, e.on < l.length
  gd : ∀ o ∈ l, ∀ g b, o.guard = some (g, b) → g < l.length
theorem permOK_of {σ : List Nat} {l : List Oper} (h : permB σ l = true) : PermOK σ l := by
  simp only [permB, Bool.and_eq_true] at h
  obtain ⟨⟨⟨⟨h0, h1⟩, h2⟩, h3⟩, h4⟩ := h
  have hlen : σ.length = l.length := by simpa using h1
  have hat : ∀ j, j < l.length → σ.idxOf j < σ.length ∧ σ[σ.idxOf j]? = some j := fun j hj => by
    have := List.all_eq_true.1 h2 j (List.mem_range.2 hj)
    have hlt : σ.idxOf j < σ.length := by simpa using this
    exact ⟨hlt, by rw [List.getElem?_eq_getElem hlt, List.getElem_idxOf hlt]⟩
  have hmem : ∀ i ∈ σ, i < l.length := fun i hi => by simpa using List.all_eq_true.1 h3 i hi
  have hnd : σ.Nodup := nodupB_sound h0
  refine ⟨hlen, hat, fun k i hk => ?_, fun o ho e he => ?_, fun o ho g b hg => ?_⟩
  · have hi := hmem i (List.mem_of_getElem? hk)
    refine ⟨hi, ?_⟩
    obtain ⟨g1, g2⟩ := hat i hi
    have hk2 := List.getElem?_eq_some_iff.1 hk
    have g3 := List.getElem?_eq_some_iff.1 g2
    exact (List.getElem_inj hnd).1 (g3.2.trans hk2.2.symm)
  · have := List.all_eq_true.1 h4 o ho
    simp only [Bool.and_eq_true] at this
    simpa using Array.all_eq_true_iff_forall_mem.1 this.1 e he
  · have := List.all_eq_true.1 h4 o ho
    simp only [Bool.and_eq_true, hg] at this
    simpa using this.2
section
variable {σ : List Nat} {l : List Oper}
theorem permL_at (h : PermOK σ l) {k i : Nat} (hk : σ[k]? = some i) : ∃ o, l[i]? = some o ∧ (permL σ l)[k]? = some (ren (fun j => σ.idxOf j) o) := by
  obtain ⟨hi, _⟩ := h.inv k i hk
  refine ⟨l[i], List.getElem?_eq_getElem hi, ?_⟩
  unfold permL
  rw [List.getElem?_map, hk, Option.map_some, List.getElem?_eq_getElem hi]
theorem permL_len (σ : List Nat) (l : List Oper) : (permL σ l).length = σ.length := by unfold permL; rw [List.length_map]
/-- What has been carried out, told anew. -/
def SameL (σ : List Nat) (listed listed' : Array Bool) : Prop := listed.size = σ.length ∧ listed'.size = σ.length ∧ ∀ k (i : Nat), σ[k]? = some i → ∀ d, listed'.getD k d = listed.getD i d
theorem perm_ready (h : PermOK σ l) {listed listed' : Array Bool} (hs : SameL σ listed listed') {k i : Nat} (hk : σ[k]? = some i) : k ∈ Region.ready .any (permL σ l).toArray listed' ↔ i ∈ Region.ready .any l.toArray listed := by
  obtain ⟨o, ho, hp⟩ := permL_at h hk
  have hom : o ∈ l := List.mem_of_getElem? ho
  have hedge : ∀ e ∈ o.after, listed'.getD (σ.idxOf e.on) false = listed.getD e.on false := fun e he => by
    have := h.edge o hom e he
    exact hs.2.2 _ _ (h.at_ e.on this).2 false
  constructor
  · intro hr
    obtain ⟨h0, o', ho', hall⟩ := mem_ready.1 hr
    have : o' = ren (fun j => σ.idxOf j) o := Option.some.inj (ho'.symm.trans (by simpa using hp))
    subst this
    refine mem_ready.2 ⟨by rw [← hs.2.2 k i hk true]; exact h0, o, by simpa using ho, fun e he hb => ?_⟩
    have := hall { e with on := σ.idxOf e.on } (Array.mem_map.2 ⟨e, he, rfl⟩) hb
    rw [← hedge e he]; exact this
  · intro hr
    obtain ⟨h0, o', ho', hall⟩ := mem_ready.1 hr
    have : o' = o := Option.some.inj (ho'.symm.trans (by simpa using ho))
    subst this
    refine mem_ready.2 ⟨by rw [hs.2.2 k i hk true]; exact h0, _, by simpa using hp, fun e he hb => ?_⟩
    obtain ⟨e0, he0, rfl⟩ := Array.mem_map.1 he
    show listed'.getD (σ.idxOf e0.on) false = true
    rw [hedge e0 he0]; exact hall e0 he0 hb
theorem perm_yielded (h : PermOK σ l) (tmps : Array Value) {g : Nat} (hg : g < l.length) : yielded (permL σ l).toArray tmps (σ.idxOf g) = yielded l.toArray tmps g := by
  obtain ⟨_, h2⟩ := h.at_ g hg
  obtain ⟨o, ho, hp⟩ := permL_at h h2
  unfold yielded
  rw [List.getElem?_toArray, List.getElem?_toArray, ho, hp]
  rfl
theorem perm_op (h : PermOK σ l) {k i : Nat} (hk : σ[k]? = some i) {K : Act → World → Prop} {a : Act} {w : World} (hw : wpOp P (permL σ l).toArray Q k K a w) : wpOp P l.toArray Q i K a w := by
  obtain ⟨o, ho, hp⟩ := permL_at h hk
  have hom : o ∈ l := List.mem_of_getElem? ho
  unfold wpOp at *
  rw [List.getElem?_toArray] at hw ⊢
  rw [hp] at hw
  rw [ho]
  have hwant : Region.wanted (ren (fun j => σ.idxOf j) o) (yielded (permL σ l).toArray a.tmps) = Region.wanted o (yielded l.toArray a.tmps) := by
    unfold Region.wanted ren
    cases hgd : o.guard with
    | none => rfl
    | some p =>
      obtain ⟨g, b⟩ := p
      dsimp only [Option.map]
      rw [perm_yielded h a.tmps (h.gd o hom g b hgd)]
  dsimp only at hw ⊢
  rw [hwant] at hw
  exact hw
theorem same_set (h : PermOK σ l) {listed listed' : Array Bool} (hs : SameL σ listed listed') {k i : Nat} (hk : σ[k]? = some i) : SameL σ (listed.setIfInBounds i true) (listed'.setIfInBounds k true) := by
  refine ⟨by simp [hs.1], by simp [hs.2.1], fun k' i' hk' d => ?_⟩
  by_cases e : k = k'
  · subst e
    have : i = i' := Option.some.inj (hk.symm.trans hk')
    subst this
    have h1 : k < listed'.size := by rw [hs.2.1]; exact (List.getElem?_eq_some_iff.1 hk).1
    have h2 : i < listed.size := by rw [hs.1, h.len]; exact (h.inv k i hk).1
    simp [h1, h2]
  · have hne : i ≠ i' := fun e2 => by
      subst e2
      exact e ((h.inv k i hk).2.symm.trans (h.inv k' i hk').2)
    rw [getD_set_ne d e, getD_set_ne d hne]
    exact hs.2.2 k' i' hk' d
theorem perm_any (h : PermOK σ l) : ∀ (fuel : Nat) (listed listed' : Array Bool) (a : Act) (w : World), SameL σ listed listed' → wpAny P .any (permL σ l).toArray Q fuel listed' a w → wpAny P .any l.toArray Q fuel listed a w := by
  have nil : ∀ {listed listed' : Array Bool}, SameL σ listed listed' → Region.ready .any l.toArray listed = [] → Region.ready .any (permL σ l).toArray listed' = [] := fun {listed listed'} hs hr => by
    apply List.eq_nil_iff_forall_not_mem.2
    intro k hk
    have hlt : k < σ.length := by
      obtain ⟨_, o, ho, _⟩ := mem_ready.1 hk
      have := (Array.getElem?_eq_some_iff.1 ho).1
      simpa [permL_len] using this
    have := (perm_ready h hs (List.getElem?_eq_getElem hlt)).1 hk
    rw [hr] at this; cases this
  have nil' : ∀ {listed listed' : Array Bool}, SameL σ listed listed' → Region.ready .any (permL σ l).toArray listed' = [] → Region.ready .any l.toArray listed = [] := fun {listed listed'} hs hr => by
    apply List.eq_nil_iff_forall_not_mem.2
    intro i hi
    have hlt : i < l.length := by
      obtain ⟨_, o, ho, _⟩ := mem_ready.1 hi
      simpa using (Array.getElem?_eq_some_iff.1 ho).1
    have := (perm_ready h hs (h.at_ i hlt).2).2 hi
    rw [hr] at this; cases this
  intro fuel
  induction fuel with
  | zero => intro listed listed' a w hs hw; exact ⟨nil' hs hw.1, hw.2⟩
  | succ fuel ih =>
    intro listed listed' a w hs hw
    refine ⟨fun hr => hw.1 (nil hs hr), fun i hi => ?_⟩
    have hlt : i < l.length := by
      obtain ⟨_, o, ho, _⟩ := mem_ready.1 hi
      simpa using (Array.getElem?_eq_some_iff.1 ho).1
    have hk := (h.at_ i hlt).2
    exact wpOp_mono (fun a' w' h' => ih _ _ a' w' (same_set h hs hk) h') (perm_op h hk (hw.2 _ ((perm_ready h hs hk).2 hi)))
end
end Go.G


namespace Go.G
variable {P : Program} {W : World} {n : Nat} {D : List Deferred} {L : Tm} {M : List Res} {R : List Fact} {Q : Exit → Act → World → Prop} {o : Oper} {Z : World → Prop}
theorem r_parPZ {id : Nat} {l0 l : List Oper} (σ : List Nat) (hpm : permB σ l0 = true) (hl0 : permL σ l0 = l) (Z : World → Prop) (hZ : ∀ X F w, St W (X ++ M) (F ++ R) w → Z w) (fl : List Nat) (m : Nat) (hml : Nat.ble m l.length = true) (hns : Region.noSelect l.toArray = true) (hbk : backB l = true) (htl : tailF fl (masks l []) m l.length = true) (hfs : freesB l fl = true)
    (hm : P.follows .mixedOrders = true) (hpb : parB ((floatL fl m l).take m) ((floatL fl m l).drop m) = true) (hfr : freshB L ((floatL fl m l).take m) = true)
    (h : ParO P W n M R (floatL fl m l).toArray (fun ss => FlZ Z P n L ((floatL fl m l).take m) ss fl ∧ preOf ss = [] ∧ lateX (floatL fl m l).toArray ss = true ∧ Fin W n D (wpListZ Z P (floatL fl m l).toArray (NoP Q) ((floatL fl m l).drop m)) ((floatL fl m l).take m) ss L M R) ((floatL fl m l).take m) [] L) : Imp W n D L M R ((Code.region id l0.toArray true).wp P Q) := by
  have hml : m ≤ l.length := by simpa using hml
  intro a w h1 h2 h3
  refine Code.wp_mono (Q := NoP Q) (fun e a' w' he => ?_) ?_
  · cases e with
    | normal => exact he
    | _ => exact he.elim
  refine wp_region_any hm ?_
  have hpk := permOK_of hpm
  have hsz : l0.length = l.length := by rw [← hl0, permL_len, hpk.len]
  rw [show l0.toArray.size = l.toArray.size by simpa using hsz]
  refine perm_any hpk _ _ (Array.replicate l.toArray.size false) _ _ ⟨by simp [hpk.len, hsz], by simp [hpk.len, hsz], fun k i hk d => ?_⟩ ?_
  · have h1 : k < l.length := by rw [← hsz, ← hpk.len]; exact (List.getElem?_eq_some_iff.1 hk).1
    have h2 : i < l.length := by rw [← hsz]; exact (hpk.inv k i hk).1
    simp [h1, h2]
  rw [hl0]
  obtain ⟨ss, hl, ⟨hsi, hpre, hlx, hfin⟩, hs⟩ := ParO.out ((floatL fl m l).take m) [] L h
  rw [List.nil_append] at hsi hpre hlx hfin
  have hLB : lateB (floatL fl m l).toArray ss 0 ss = true := by simp only [lateX, Bool.and_eq_true] at hlx; exact hlx.1
  have hlk : ∀ o ∈ (floatL fl m l).take m, look L (o.dst.getD 1000000) = none := fun o ho => by
    have := List.all_eq_true.1 hfr o ho
    simpa using this
  refine (floatZ_all hZ hml hpb hl hlk (lateOK_of hLB) (fun k s c e1 e2 => (lateX_ab hlx k s c e1 e2).elim) (fun k o s e1 e2 => by
    have := hs k o s e1 e2
    rw [List.nil_append, List.length_nil, Nat.zero_add] at this
    exact this) hfin hsi hns hbk htl hfs _ _ _ _ ⟨?_, ?_, ?_, h1, h2, fun _ => undef, ?_, ?_⟩ ?_).any
  · simp [floatL_len]
  · intro j o _ hj
    rw [rep_false] at hj; cases hj
  · intro t _ ht
    have : t < l.length := by simpa [floatL_len] using ht
    simp [this]
  · intro i o s e1 _ hj
    rw [rep_false] at hj; cases hj
  · have e1 : resOf ss (Array.replicate l.toArray.size false) (fun _ => undef) ((floatL fl m l).take m).length = [] := by
      rw [← hpre, ← preOf_range, hl]
      refine flatMap_same _ _ _ fun j hj => ?_
      rw [rep_false]; rfl
    have e2 : ∀ k, fctOf ss (Array.replicate l.toArray.size false) (fun _ => undef) k = [] := by
      intro k
      unfold fctOf
      induction k with
      | zero => rfl
      | succ k ih => rw [List.range_succ, List.flatMap_append, ih, List.nil_append, List.flatMap_cons, List.flatMap_nil, List.append_nil, rep_false]; rfl
    rw [e1, e2]
    exact h3.heap rfl rfl rfl rfl
  · have := unl_tail (N := l.length) (m := 0) (listed := Array.replicate l.length false) (fun i hi => by omega)
    simpa using this
end Go.G


namespace Go.Proofs.Ytpndeonmmcaikaa.SodW
open Go.G Foot4 Sod2
set_option maxRecDepth 1000000
attribute [local irreducible] G.ParO G.Fin
attribute [local irreducible] strokes strS cntTo nowF bk logD someTo upTo sodsOf cutL one preC nxC costsL
variable (B : Bank) (po so lo : Option Addr) (pc sc lc : Nat)
variable (fb mb : Nat)
def capC : Value → Nat
  | .func _ _ cs => blk (cs.getD 0 undef)
  | _ => 0
theorem FnC.toM {k : FuncId} {args : List Value} {m : Res} {R0 : List Fact} {v : Value} (h : FnC Try.prog k args m R0 v m) : FnM Try.prog k args m R0 (fun u => u = v) :=
  ⟨h.enter, fun W M Rf w hw => (h.calls W M Rf w hw).mono fun e w' ⟨M', R', ⟨he, hM, hR⟩, hs⟩ => by subst hM; subst hR; exact ⟨v, he, rfl, hs.weak (fun φ hφ => by simpa using hφ)⟩⟩
theorem r_round_retP {β : Code → Type} {N : (c : Code) → β c → List Res} {W : World} {n : Nat} {D : List Deferred} {L : Tm} {M M0 : List Res} {R R0 : List Fact} {J1 : Res} (x : β .ret) (hM : SelM M (N .ret x ++ M0)) (hR : SubR R R0) : Imp W n D L M R (RoundQ W J1 (fun c => exR (N c)) M0 R0 .ret) :=
  fun _ _ _ _ h3 => St.pk x ((h3.sel hM).weak hR)
theorem r_roundP {α : Type} {N : α → List Res} {Jx : Code → Res} {W : World} {n : Nat} {D : List Deferred} {L : Tm} {M M0 : List Res} {R R0 : List Fact} (x : α) (hM : SelM M (N x ++ M0)) (hR : SubR R R0) : Imp W n D L M R (RoundQ W (exR N) Jx M0 R0 .normal) :=
  fun _ _ _ _ h3 => St.pk x ((h3.sel hM).weak hR)
set_option maxHeartbeats 4000000 in
theorem costs_r  : FnR Try.prog 72 [pt fb 0] [] (fun v => v = .func (.func 77) #[] #[pt (capC v) 0]) (fun v => [boxF (capC v) 76 [pt fb 0]]) := by
 refine FnR.intro Try.call72 Try.func72 rfl Try.ntmps72 rfl ?_
 intro W M Rf
 refine r_seq ?_
 refine r_region ?_
 refine o_box1 rfl rfl rfl rfl rfl rfl (fun b1 => ?_)
 refine o_q _ rfl rfl rfl (v_assign rfl rfl) ?_
 refine o_nil ?_
 repeat (first | with_reducible refine r_then ?_ | with_reducible refine r_in_normal ?_ | with_reducible refine r_sc_normal ?_)
 refine r_seq ?_
 refine r_region ?_
 refine o_q _ rfl rfl rfl (v_makeFunc rfl rfl rfl) ?_
 refine o_q _ rfl rfl rfl (v_assign rfl rfl) ?_
 refine o_nil ?_
 repeat (first | with_reducible refine r_then ?_ | with_reducible refine r_in_normal ?_ | with_reducible refine r_sc_normal ?_)
 refine r_ret ?_
 repeat (first | with_reducible refine r_then_ret ?_ | with_reducible refine r_in_ret ?_ | with_reducible refine r_sc_ret ?_)
 refine Imp.sealB b1 ?_
 exact r_retr (Rd.tmp rfl rfl) rfl SelMC.sel (fun _ h => h)
set_option maxHeartbeats 4000000 in
theorem on_0 {W : World} {l : Nat} {J Jx : Nat → Res} {Rf : List Fact} {xs : List T3} (hY : G.Yields Try.prog W l (fun c : T3 => [v3 c]) xs J Jx Rf) (c1 yb ob : Nat) (hg : GoodS B) (c : T3) (i i0 : Nat) (hi : i = B.spits.length) (hx : xs[i0]? = some c) : FnY Try.prog W 78 [v3 (c), i64 ((i : Nat) : Int), pt c1 0, pt yb 0, pt ob 0] (J (i0)) (J (i0 + 1)) (jxR Jx xs.length) [boxF c1 76 [pt fb 0], boxF yb 153 [.func (.yield l) #[] #[]], boxF ob 154 [.func (.func 78) #[] #[pt c1 0, pt yb 0, pt ob 0]], boxF fb 110 [.slice po B.spits.length pc, .slice so B.days.length sc, .slice lo B.logs.length lc, .map (some mb)], rowD po 3 encSp B.spits, rowD so 2 encS B.days, rowD lo 3 encLg B.logs] Rf := by
 refine FnY.intro Try.call78 Try.func78 rfl Try.ntmps78 rfl ?_
 intro M Ri
 refine r_seq ?_
 have hlt : i0 < xs.length := (List.getElem?_eq_some_iff.1 hx).1
 refine r_region ?_
 refine o_boxA rfl rfl rfl rfl rfl (fun b5 => ?_)
 refine o_q _ rfl rfl rfl (v_assign rfl rfl) ?_
 refine o_nil ?_
 repeat (first | with_reducible refine r_then ?_ | with_reducible refine r_in_normal ?_ | with_reducible refine r_sc_normal ?_)
 refine r_seq ?_
 refine r_seq ?_
 refine r_region ?_
 refine o_q _ rfl rfl rfl (v_move rfl rfl) ?_
 first | refine o_q _ rfl rfl rfl (v_ld1 rfl Try.underlying76 rfl rfl rfl) ?_ | refine o_q _ rfl rfl rfl (v_lf1 rfl Try.underlying76 rfl rfl rfl) ?_ | refine o_q _ rfl rfl rfl (v_loadE1 rfl Try.underlying76 rfl rfl (by omega) rfl rfl) ?_
 refine o_q _ rfl rfl rfl (v_nilCheck rfl rfl) ?_
 first | refine o_q _ rfl rfl rfl (v_fieldAddr rfl Try.underlying110 inf37 rfl rfl rfl rfl) ?_ | refine o_q _ rfl rfl rfl (v_fieldAddrE rfl Try.underlying110 inf37 rfl rfl rfl rfl) ?_
 first | refine o_q _ rfl rfl rfl (v_fieldAddr rfl Try.underlying37 inf34 rfl rfl rfl rfl) ?_ | refine o_q _ rfl rfl rfl (v_fieldAddrE rfl Try.underlying37 inf34 rfl rfl rfl rfl) ?_
 first | refine o_q _ rfl rfl rfl (v_ld1 rfl Try.underlying34 rfl rfl rfl) ?_ | refine o_q _ rfl rfl rfl (v_lf1 rfl Try.underlying34 rfl rfl rfl) ?_ | refine o_q _ rfl rfl rfl (v_loadE1 rfl Try.underlying34 rfl rfl (by omega) rfl rfl) ?_
 refine o_q _ rfl rfl rfl (v_len rfl rfl Try.underlying34 rfl) ?_
 refine o_q _ rfl rfl rfl (v_eql rfl rfl rfl) ?_
 refine o_nil ?_
 repeat (first | with_reducible refine r_then ?_ | with_reducible refine r_in_normal ?_ | with_reducible refine r_sc_normal ?_)
 first | refine r_condd rfl (fun hc16 => ?_) (fun hc16 => ?_) | refine r_cond rfl (fun hc16 => ?_) (fun hc16 => ?_)
 ·
  first
  | (exfalso; revert hc16; decide)
  | (exfalso; omega)
  |
   skip
   refine r_seq ?_
   refine r_region_in ?_
   refine oi_lift wideF rfl (fun _ _ h => by rcases h with ⟨h, _⟩ | ⟨h, _⟩ <;> cases h) ?_
   first | refine o_q _ rfl rfl rfl (v_ld1 rfl Try.underlying153 rfl rfl rfl) ?_ | refine o_q _ rfl rfl rfl (v_lf1 rfl Try.underlying153 rfl rfl rfl) ?_ | refine o_q _ rfl rfl rfl (v_loadE1 rfl Try.underlying153 rfl rfl (by omega) rfl rfl) ?_
   refine o_nil ?_
   refine r_then ?_
   refine oi_lift wideF rfl (fun _ _ h => by rcases h with ⟨h, _⟩ | ⟨h, _⟩ <;> cases h) ?_
   first | refine o_q _ rfl rfl rfl (v_ldW rfl Try.underlying113 rfl inf113 rfl rfl) ?_ | refine o_q _ rfl rfl rfl (v_lfW rfl Try.underlying113 rfl inf113 rfl rfl) ?_ | refine o_q _ rfl rfl rfl (v_lfN rfl Try.underlying113 rfl inf113 rfl rfl rfl) ?_ | refine o_q _ rfl rfl rfl (v_ldN rfl Try.underlying113 rfl inf113 rfl rfl rfl) ?_ | refine o_q _ rfl rfl rfl (v_loadEN rfl Try.underlying113 rfl inf113 rfl (by omega) rfl rfl rfl) ?_
   refine o_nil ?_
   refine r_then ?_
   refine oi_yields (Ri := [boxF c1 76 [pt fb 0], boxF yb 153 [.func (.yield l) #[] #[]], boxF ob 154 [.func (.func 78) #[] #[pt c1 0, pt yb 0, pt ob 0]], boxF fb 110 [.slice po B.spits.length pc, .slice so B.days.length sc, .slice lo B.logs.length lc, .map (some mb)], rowD po 3 encSp B.spits, rowD so 2 encS B.days, rowD lo 3 encLg B.logs] ++ Ri) hY hx rfl rfl rfl rfl rfl rfl rfl ?_ ?_
   all_goals
    refine oi_lift wideF rfl (fun _ _ h => by rcases h with ⟨h, _⟩ | ⟨h, _⟩ <;> cases h) ?_
    refine o_q _ rfl rfl rfl (v_assign rfl rfl) ?_
    refine o_nil ?_
    refine r_then ?_
    refine oi_nil ?_
    repeat (first | with_reducible refine r_then ?_ | with_reducible refine r_in_normal ?_ | with_reducible refine r_sc_normal ?_)
    refine r_ret ?_
    repeat (first | with_reducible refine r_then_ret ?_ | with_reducible refine r_in_ret ?_ | with_reducible refine r_sc_ret ?_)
    first
    | exact r_yes (Rd.tmp rfl rfl) SelMC.sel SubRC.sub
    | (refine Imp.jx_pk (Jx := Jx) (N := xs.length) (i := i0 + 1) ⟨by omega, by omega⟩ ?_; exact r_no (Rd.tmp rfl rfl) SelMC.sel SubRC.sub)
 ·
  first
  | (exfalso; revert hc16; decide)
  | (exfalso; omega)
  |
   skip
   refine r_skip ?_
   repeat (first | with_reducible refine r_then ?_ | with_reducible refine r_in_normal ?_ | with_reducible refine r_sc_normal ?_)
   refine r_seq ?_
   refine r_seq ?_
   (exfalso; omega)
set_option maxHeartbeats 4000000 in
theorem on_s {W : World} {l : Nat} {J Jx : Nat → Res} {Rf : List Fact} {xs : List T3} (hY : G.Yields Try.prog W l (fun c : T3 => [v3 c]) xs J Jx Rf) (c1 yb ob : Nat) (hg : GoodS B) (c : T3) (i i0 : Nat) (hi : i < B.spits.length) (ih : ∀ (c2 : T3) (j0 : Nat), SubL (costsL (B.spits.drop (i + 1)) (i + 1) c2) xs j0 → FnY Try.prog W 78 [v3 (c2), i64 ((i + 1 : Nat) : Int), pt c1 0, pt yb 0, pt ob 0] (J (j0)) (J (j0 + (costsL (B.spits.drop (i + 1)) (i + 1) c2).length)) (jxR Jx xs.length) [boxF c1 76 [pt fb 0], boxF yb 153 [.func (.yield l) #[] #[]], boxF ob 154 [.func (.func 78) #[] #[pt c1 0, pt yb 0, pt ob 0]], boxF fb 110 [.slice po B.spits.length pc, .slice so B.days.length sc, .slice lo B.logs.length lc, .map (some mb)], rowD po 3 encSp B.spits, rowD so 2 encS B.days, rowD lo 3 encLg B.logs] Rf) (hx : SubL (preC B c i (cntC B i)) xs i0) : FnY Try.prog W 78 [v3 (c), i64 ((i : Nat) : Int), pt c1 0, pt yb 0, pt ob 0] (J (i0)) (J (i0 + (preC B c i (cntC B i)).length)) (jxR Jx xs.length) [boxF c1 76 [pt fb 0], boxF yb 153 [.func (.yield l) #[] #[]], boxF ob 154 [.func (.func 78) #[] #[pt c1 0, pt yb 0, pt ob 0]], boxF fb 110 [.slice po B.spits.length pc, .slice so B.days.length sc, .slice lo B.logs.length lc, .map (some mb)], rowD po 3 encSp B.spits, rowD so 2 encS B.days, rowD lo 3 encLg B.logs] Rf := by
 refine FnY.intro Try.call78 Try.func78 rfl Try.ntmps78 rfl ?_
 intro M Ri
 refine r_seq ?_
 have h3 := hg.1
 have hsp := hg.2.2.2.1 i hi
 refine r_region ?_
 refine o_boxA rfl rfl rfl rfl rfl (fun b5 => ?_)
 refine o_q _ rfl rfl rfl (v_assign rfl rfl) ?_
 refine o_nil ?_
 repeat (first | with_reducible refine r_then ?_ | with_reducible refine r_in_normal ?_ | with_reducible refine r_sc_normal ?_)
 refine r_seq ?_
 refine r_seq ?_
 refine r_region ?_
 refine o_q _ rfl rfl rfl (v_move rfl rfl) ?_
 first | refine o_q _ rfl rfl rfl (v_ld1 rfl Try.underlying76 rfl rfl rfl) ?_ | refine o_q _ rfl rfl rfl (v_lf1 rfl Try.underlying76 rfl rfl rfl) ?_ | refine o_q _ rfl rfl rfl (v_loadE1 rfl Try.underlying76 rfl rfl (by omega) rfl rfl) ?_
 refine o_q _ rfl rfl rfl (v_nilCheck rfl rfl) ?_
 first | refine o_q _ rfl rfl rfl (v_fieldAddr rfl Try.underlying110 inf37 rfl rfl rfl rfl) ?_ | refine o_q _ rfl rfl rfl (v_fieldAddrE rfl Try.underlying110 inf37 rfl rfl rfl rfl) ?_
 first | refine o_q _ rfl rfl rfl (v_fieldAddr rfl Try.underlying37 inf34 rfl rfl rfl rfl) ?_ | refine o_q _ rfl rfl rfl (v_fieldAddrE rfl Try.underlying37 inf34 rfl rfl rfl rfl) ?_
 first | refine o_q _ rfl rfl rfl (v_ld1 rfl Try.underlying34 rfl rfl rfl) ?_ | refine o_q _ rfl rfl rfl (v_lf1 rfl Try.underlying34 rfl rfl rfl) ?_ | refine o_q _ rfl rfl rfl (v_loadE1 rfl Try.underlying34 rfl rfl (by omega) rfl rfl) ?_
 refine o_q _ rfl rfl rfl (v_len rfl rfl Try.underlying34 rfl) ?_
 refine o_q _ rfl rfl rfl (v_eql rfl rfl rfl) ?_
 refine o_nil ?_
 repeat (first | with_reducible refine r_then ?_ | with_reducible refine r_in_normal ?_ | with_reducible refine r_sc_normal ?_)
 first | refine r_condd rfl (fun hc16 => ?_) (fun hc16 => ?_) | refine r_cond rfl (fun hc16 => ?_) (fun hc16 => ?_)
 ·
  first
  | (exfalso; revert hc16; decide)
  | (exfalso; omega)
  |
   skip
   refine r_seq ?_
   (exfalso; omega)
 ·
  first
  | (exfalso; revert hc16; decide)
  | (exfalso; omega)
  |
   skip
   refine r_skip ?_
   repeat (first | with_reducible refine r_then ?_ | with_reducible refine r_in_normal ?_ | with_reducible refine r_sc_normal ?_)
   refine r_seq ?_
   refine r_seq ?_
   refine r_region ?_
   first | refine o_q _ rfl rfl rfl (v_ld1 rfl Try.underlying76 rfl rfl rfl) ?_ | refine o_q _ rfl rfl rfl (v_lf1 rfl Try.underlying76 rfl rfl rfl) ?_ | refine o_q _ rfl rfl rfl (v_loadE1 rfl Try.underlying76 rfl rfl (by omega) rfl rfl) ?_
   refine o_q _ rfl rfl rfl (v_nilCheck rfl rfl) ?_
   first | refine o_q _ rfl rfl rfl (v_fieldAddr rfl Try.underlying110 inf37 rfl rfl rfl rfl) ?_ | refine o_q _ rfl rfl rfl (v_fieldAddrE rfl Try.underlying110 inf37 rfl rfl rfl rfl) ?_
   first | refine o_q _ rfl rfl rfl (v_fieldAddr rfl Try.underlying37 inf34 rfl rfl rfl rfl) ?_ | refine o_q _ rfl rfl rfl (v_fieldAddrE rfl Try.underlying37 inf34 rfl rfl rfl rfl) ?_
   first | refine o_q _ rfl rfl rfl (v_ld1 rfl Try.underlying34 rfl rfl rfl) ?_ | refine o_q _ rfl rfl rfl (v_lf1 rfl Try.underlying34 rfl rfl rfl) ?_ | refine o_q _ rfl rfl rfl (v_loadE1 rfl Try.underlying34 rfl rfl (by omega) rfl rfl) ?_
   refine o_q _ rfl rfl rfl (v_move rfl rfl) ?_
   first | refine o_q _ rfl rfl rfl (v_indexAddrSn rfl Try.underlying34 inf67 rfl rfl rfl (by omega) rfl) ?_ | refine o_q _ rfl rfl rfl (v_indexAddrS rfl Try.underlying34 inf67 rfl rfl rfl (by omega) (by omega) rfl) ?_
   first | refine o_q _ rfl rfl rfl (v_fieldAddr rfl Try.underlying67 inf42 rfl rfl rfl rfl) ?_ | refine o_q _ rfl rfl rfl (v_fieldAddrE rfl Try.underlying67 inf42 rfl rfl rfl rfl) ?_
   first | refine o_q _ rfl rfl rfl (v_fieldAddr rfl Try.underlying42 inf3 rfl rfl rfl rfl) ?_ | refine o_q _ rfl rfl rfl (v_fieldAddrE rfl Try.underlying42 inf3 rfl rfl rfl rfl) ?_
   first | refine o_q _ rfl rfl rfl (v_ld1 rfl Try.underlying3 rfl rfl rfl) ?_ | refine o_q _ rfl rfl rfl (v_lf1 rfl Try.underlying3 rfl rfl rfl) ?_ | refine o_q _ rfl rfl rfl (v_loadE1 rfl Try.underlying3 rfl rfl (by omega) rfl rfl) ?_
   refine o_q _ rfl rfl rfl (v_assign rfl rfl) ?_
   refine o_nil ?_
   repeat (first | with_reducible refine r_then ?_ | with_reducible refine r_in_normal ?_ | with_reducible refine r_sc_normal ?_)
   refine r_block ?_
   refine r_loop (ι := Nat × T3) (fun gh => gh.1 ≤ cntC B i ∧ ∀ x, set3 gh.2 i x = set3 c i x) (fun gh => [(1, i64 (i : Int)), (2, pt c1 0), (3, pt yb 0), (4, pt ob 0), (5, pt b5 0), (8, i64 ((B.spits.getD i default).lo + (gh.1 : Int)))]) (fun gh => J (i0 + (preC B c i gh.1).length) :: bx b5 113 [i64 gh.2.a, i64 gh.2.b, i64 gh.2.c] :: M) (fun gh => ([boxF c1 76 [pt fb 0], boxF yb 153 [.func (.yield l) #[] #[]], boxF ob 154 [.func (.func 78) #[] #[pt c1 0, pt yb 0, pt ob 0]], boxF fb 110 [.slice po B.spits.length pc, .slice so B.days.length sc, .slice lo B.logs.length lc, .map (some mb)], rowD po 3 encSp B.spits, rowD so 2 encS B.days, rowD lo 3 encLg B.logs] ++ Ri) ++ Rf) (fun gh => cntC B i - gh.1) (0, c) ?_ ?_ ?_
   ·
    rw [show J i0 = J (i0 + (preC B c i ((0, c) : Nat × T3).1).length) from by rw [preC]; rfl]
    exact r_here (by repeat (first | exact FSub.nil | refine FSub.cons rfl ?_ | refine FSub.cons2 rfl (congrArg (Value.int .i64) (by show _ = _ + ((0 : Nat) : Int); omega)) ?_)) SelMC.sel SubRC.sub
   ·
    exact ⟨Nat.zero_le _, fun x => rfl⟩
   ·
    rintro ⟨k, cc⟩ hI0
    dsimp only at hI0
    dsimp only
    have hcn : cntC B i = ((B.spits.getD i default).hi - (B.spits.getD i default).lo + 1).toNat := rfl
    have h3 := hg.1
    have hsp := hg.2.2.2.1 i hi
    refine r_seq ?_
    refine r_seq ?_
    refine r_region ?_
    refine o_q _ rfl rfl rfl (v_move rfl rfl) ?_
    first | refine o_q _ rfl rfl rfl (v_ld1 rfl Try.underlying76 rfl rfl rfl) ?_ | refine o_q _ rfl rfl rfl (v_lf1 rfl Try.underlying76 rfl rfl rfl) ?_ | refine o_q _ rfl rfl rfl (v_loadE1 rfl Try.underlying76 rfl rfl (by omega) rfl rfl) ?_
    refine o_q _ rfl rfl rfl (v_nilCheck rfl rfl) ?_
    first | refine o_q _ rfl rfl rfl (v_fieldAddr rfl Try.underlying110 inf37 rfl rfl rfl rfl) ?_ | refine o_q _ rfl rfl rfl (v_fieldAddrE rfl Try.underlying110 inf37 rfl rfl rfl rfl) ?_
    first | refine o_q _ rfl rfl rfl (v_fieldAddr rfl Try.underlying37 inf34 rfl rfl rfl rfl) ?_ | refine o_q _ rfl rfl rfl (v_fieldAddrE rfl Try.underlying37 inf34 rfl rfl rfl rfl) ?_
    first | refine o_q _ rfl rfl rfl (v_ld1 rfl Try.underlying34 rfl rfl rfl) ?_ | refine o_q _ rfl rfl rfl (v_lf1 rfl Try.underlying34 rfl rfl rfl) ?_ | refine o_q _ rfl rfl rfl (v_loadE1 rfl Try.underlying34 rfl rfl (by omega) rfl rfl) ?_
    refine o_q _ rfl rfl rfl (v_move rfl rfl) ?_
    first | refine o_q _ rfl rfl rfl (v_indexAddrSn rfl Try.underlying34 inf67 rfl rfl rfl (by omega) rfl) ?_ | refine o_q _ rfl rfl rfl (v_indexAddrS rfl Try.underlying34 inf67 rfl rfl rfl (by omega) (by omega) rfl) ?_
    first | refine o_q _ rfl rfl rfl (v_fieldAddr rfl Try.underlying67 inf42 rfl rfl rfl rfl) ?_ | refine o_q _ rfl rfl rfl (v_fieldAddrE rfl Try.underlying67 inf42 rfl rfl rfl rfl) ?_
    first | refine o_q _ rfl rfl rfl (v_fieldAddr rfl Try.underlying42 inf3 rfl rfl rfl rfl) ?_ | refine o_q _ rfl rfl rfl (v_fieldAddrE rfl Try.underlying42 inf3 rfl rfl rfl rfl) ?_
    refine o_q _ rfl rfl rfl (v_loadE1 (j := 2) rfl Try.underlying3 rfl rfl (by omega) rfl rfl) ?_
    refine o_q _ rfl rfl rfl (v_leq rfl rfl rfl) ?_
    refine o_nil ?_
    repeat (first | with_reducible refine r_then ?_ | with_reducible refine r_in_normal ?_ | with_reducible refine r_sc_normal ?_)
    first | refine r_condd rfl (fun hc41 => ?_) (fun hc41 => ?_) | refine r_cond rfl (fun hc41 => ?_) (fun hc41 => ?_)
    ·
     first
     | (exfalso; revert hc41; decide)
     | (exfalso; omega)
     |
      skip
      refine r_skip ?_
      repeat (first | with_reducible refine r_then ?_ | with_reducible refine r_in_normal ?_ | with_reducible refine r_sc_normal ?_)
      refine r_seq ?_
      refine r_block ?_
      refine r_seq ?_
      have hsub : SubL (costsL (B.spits.drop (i + 1)) (i + 1) (set3 cc i ((B.spits.getD i default).lo + (k : Int)))) xs (i0 + (preC B c i k).length) := by rw [hI0.2, ← nxC_eq]; exact sub_mid (cntC B i) hx (by omega)
      have hlen : i0 + (preC B c i (k + 1)).length = i0 + (preC B c i k).length + (costsL (B.spits.drop (i + 1)) (i + 1) (set3 cc i ((B.spits.getD i default).lo + (k : Int)))).length := by rw [hI0.2, pre_len, ← nxC_eq, Nat.add_assoc]
      refine r_region ?_
      refine o_q _ rfl rfl rfl (v_move rfl rfl) ?_
      refine o_q _ rfl rfl rfl (v_move rfl rfl) ?_
      first | refine o_q _ rfl rfl rfl (v_fieldAddr rfl Try.underlying113 inf23 rfl rfl rfl rfl) ?_ | refine o_q _ rfl rfl rfl (v_fieldAddrE rfl Try.underlying113 inf23 rfl rfl rfl rfl) ?_
      first | refine o_q _ rfl rfl rfl (v_indexAddrAn rfl Try.underlying23 inf3 rfl rfl (by omega)) ?_ | refine o_q _ rfl rfl rfl (v_indexAddrA rfl Try.underlying23 inf3 rfl rfl (by omega)) ?_ | refine o_q _ rfl rfl rfl (v_indexAddrE rfl Try.underlying23 inf3 rfl rfl (by omega)) ?_
      refine o_st (us := [i64 ((B.spits.getD i default).lo + k)]) rfl inf3 rfl rfl rfl rfl rfl rfl rfl (set_ble (by omega)) ?_
      refine o_nil ?_
      repeat (first | with_reducible refine r_then ?_ | with_reducible refine r_in_normal ?_ | with_reducible refine r_sc_normal ?_)
      refine r_seq ?_
      refine Imp.box_to b5 [i64 (set3 cc i ((B.spits.getD i default).lo + (k : Int))).a, i64 (set3 cc i ((B.spits.getD i default).lo + (k : Int))).b, i64 (set3 cc i ((B.spits.getD i default).lo + (k : Int))).c] (by exact set_cells (by omega)) ?_
      refine r_region ?_
      first | refine o_q _ rfl rfl rfl (v_ld1 rfl Try.underlying154 rfl rfl rfl) ?_ | refine o_q _ rfl rfl rfl (v_lf1 rfl Try.underlying154 rfl rfl rfl) ?_ | refine o_q _ rfl rfl rfl (v_loadE1 rfl Try.underlying154 rfl rfl (by omega) rfl rfl) ?_
      first | refine o_q _ rfl rfl rfl (v_ldW rfl Try.underlying113 rfl inf113 rfl rfl) ?_ | refine o_q _ rfl rfl rfl (v_lfW rfl Try.underlying113 rfl inf113 rfl rfl) ?_ | refine o_q _ rfl rfl rfl (v_lfN rfl Try.underlying113 rfl inf113 rfl rfl rfl) ?_ | refine o_q _ rfl rfl rfl (v_ldN rfl Try.underlying113 rfl inf113 rfl rfl rfl) ?_ | refine o_q _ rfl rfl rfl (v_loadEN rfl Try.underlying113 rfl inf113 rfl (by omega) rfl rfl rfl) ?_
      refine o_q _ rfl rfl rfl (v_move rfl rfl) ?_
      refine o_q _ rfl rfl rfl (v_cast (v := i64 ((i + 1 : Nat) : Int)) (v_add rfl rfl rfl (by omega)) (congrArg (Value.int .i64) (by push_cast; rfl))) ?_
      refine o_fnY (Rx := [boxF c1 76 [pt fb 0], boxF yb 153 [.func (.yield l) #[] #[]], boxF ob 154 [.func (.func 78) #[] #[pt c1 0, pt yb 0, pt ob 0]], boxF fb 110 [.slice po B.spits.length pc, .slice so B.days.length sc, .slice lo B.logs.length lc, .map (some mb)], rowD po 3 encSp B.spits, rowD so 2 encS B.days, rowD lo 3 encLg B.logs] ++ Ri) (caps := [pt c1 0, pt yb 0, pt ob 0]) (ih (set3 cc i ((B.spits.getD i default).lo + k)) (i0 + (preC B c i k).length) hsub) rfl rfl rfl rfl rfl rfl rfl SubRC.sub ?_ ?_
      all_goals
       refine o_q _ rfl rfl rfl (v_not rfl rfl) ?_
       refine o_nil ?_
       repeat (first | with_reducible refine r_then ?_ | with_reducible refine r_in_normal ?_ | with_reducible refine r_sc_normal ?_)
       first | refine r_condd rfl (fun hc53 => ?_) (fun hc53 => ?_) | refine r_cond rfl (fun hc53 => ?_) (fun hc53 => ?_)
       ·
        first
        | (exfalso; revert hc53; decide)
        | (exfalso; omega)
        |
         skip
         refine r_seq ?_
         refine r_region ?_
         refine o_q _ rfl rfl rfl (v_assign rfl rfl) ?_
         refine o_nil ?_
         repeat (first | with_reducible refine r_then ?_ | with_reducible refine r_in_normal ?_ | with_reducible refine r_sc_normal ?_)
         refine r_ret ?_
         repeat (first | with_reducible refine r_then_ret ?_ | with_reducible refine r_in_ret ?_ | with_reducible refine r_sc_ret ?_)
         first
         | exact r_no (Rd.tmp rfl rfl) SelMC.sel SubRC.sub
         | (obtain hk9 : k = cntC B i := (by omega); subst hk9; exact r_yes (Rd.tmp rfl rfl) SelMC.sel SubRC.sub)
       ·
        first
        | (exfalso; revert hc53; decide)
        | (exfalso; omega)
        |
         skip
         refine r_skip ?_
         repeat (first | with_reducible refine r_then ?_ | with_reducible refine r_in_normal ?_ | with_reducible refine r_sc_normal ?_)
         refine r_region ?_
         refine o_q _ rfl rfl rfl (v_move rfl rfl) ?_
         refine o_q _ rfl rfl rfl (v_add rfl rfl rfl (by omega)) ?_
         refine o_q _ rfl rfl rfl (v_assign rfl rfl) ?_
         refine o_nil ?_
         repeat (first | with_reducible refine r_then ?_ | with_reducible refine r_in_normal ?_ | with_reducible refine r_sc_normal ?_)
         first
         | exact r_next ((k + 1, set3 cc i ((B.spits.getD i default).lo + k))) (by rw [hlen]; exact r_here (by repeat (first | exact FSub.nil | refine FSub.cons rfl ?_ | refine FSub.cons2 rfl (congrArg (Value.int .i64) (by push_cast; omega)) ?_)) SelMC.sel SubRC.sub) (by exact ⟨by omega, fun x => by rw [set_set (by omega)]; exact hI0.2 x⟩) (by show _ - (_ + 1) < _ - _; omega)
    ·
     first
     | (exfalso; revert hc41; decide)
     | (exfalso; omega)
     |
      skip
      refine r_exit ?_
      repeat (first | with_reducible refine r_then_exit ?_ | with_reducible refine r_sc_exit ?_ | with_reducible refine r_in_here ?_ | (with_reducible refine r_in_past (by decide) ?_) | with_reducible refine r_then ?_ | with_reducible refine r_in_normal ?_ | with_reducible refine r_sc_normal ?_)
      refine r_seq ?_
      refine r_region ?_
      refine o_q _ rfl rfl rfl (v_assign rfl rfl) ?_
      refine o_nil ?_
      repeat (first | with_reducible refine r_then ?_ | with_reducible refine r_in_normal ?_ | with_reducible refine r_sc_normal ?_)
      refine r_ret ?_
      repeat (first | with_reducible refine r_then_ret ?_ | with_reducible refine r_in_ret ?_ | with_reducible refine r_sc_ret ?_)
      first
      | exact r_no (Rd.tmp rfl rfl) SelMC.sel SubRC.sub
      | (obtain hk9 : k = cntC B i := (by omega); subst hk9; exact r_yes (Rd.tmp rfl rfl) SelMC.sel SubRC.sub)
end Go.Proofs.Ytpndeonmmcaikaa.SodW


namespace Go.Proofs.Ytpndeonmmcaikaa.SodW
open Go.G Foot4 Sod2
set_option maxRecDepth 1000000
attribute [local irreducible] G.ParO G.Fin
attribute [local irreducible] strokes strS cntTo nowF bk logD someTo upTo sodsOf cutL one preC nxC costsL
variable (B : Bank) (po so lo : Option Addr) (pc sc lc : Nat)
variable (fb mb : Nat)
theorem on_y {W : World} {l : Nat} {J Jx : Nat → Res} {Rf : List Fact} {xs : List T3} (hY : G.Yields Try.prog W l (fun c : T3 => [v3 c]) xs J Jx Rf) (c1 yb ob : Nat) (hg : GoodS B) : ∀ (r i : Nat) (c : T3) (i0 : Nat), i + r = B.spits.length → SubL (costsL (B.spits.drop i) i c) xs i0 → FnY Try.prog W 78 [v3 (c), i64 ((i : Nat) : Int), pt c1 0, pt yb 0, pt ob 0] (J (i0)) (J (i0 + (costsL (B.spits.drop i) i c).length)) (jxR Jx xs.length) [boxF c1 76 [pt fb 0], boxF yb 153 [.func (.yield l) #[] #[]], boxF ob 154 [.func (.func 78) #[] #[pt c1 0, pt yb 0, pt ob 0]], boxF fb 110 [.slice po B.spits.length pc, .slice so B.days.length sc, .slice lo B.logs.length lc, .map (some mb)], rowD po 3 encSp B.spits, rowD so 2 encS B.days, rowD lo 3 encLg B.logs] Rf
  | 0, i, c, i0, h, hs => by
    rw [costs_end (B := B) (i := i) (by omega)] at hs ⊢
    exact on_0 B po so lo pc sc lc fb mb hY c1 yb ob hg c i i0 (by omega) (by have := hs 0 c rfl; rw [Nat.add_zero] at this; exact this)
  | r + 1, i, c, i0, h, hs => by
    rw [costs_split (B := B) (i := i) (by omega)] at hs ⊢
    exact on_s B po so lo pc sc lc fb mb hY c1 yb ob hg c i i0 (by omega) (fun c2 j0 h2 => on_y hY c1 yb ob hg r (i + 1) c2 j0 (by omega) h2) hs
set_option maxHeartbeats 4000000 in
theorem costs1_s (c1 : Nat) (hg : GoodS B) : IsSeq Try.prog 77 [pt c1 0] [boxF c1 76 [pt fb 0], boxF fb 110 [.slice po B.spits.length pc, .slice so B.days.length sc, .slice lo B.logs.length lc, .map (some mb)], rowD po 3 encSp B.spits, rowD so 2 encS B.days, rowD lo 3 encLg B.logs] (fun c : T3 => [v3 c]) (allC B) := by
 refine IsSeq.intro Try.call77 Try.func77 rfl Try.ntmps77 rfl ?_
 intro l J Jx W Rf hY
 refine r_seq ?_
 refine r_region ?_
 refine o_box1 rfl rfl rfl rfl rfl rfl (fun b2 => ?_)
 refine o_nil ?_
 repeat (first | with_reducible refine r_then ?_ | with_reducible refine r_in_normal ?_ | with_reducible refine r_sc_normal ?_)
 refine r_seq ?_
 refine r_region ?_
 refine o_alloc rfl inf154 rfl rfl rfl rfl rfl (fun b3 => ?_)
 refine o_nil ?_
 repeat (first | with_reducible refine r_then ?_ | with_reducible refine r_in_normal ?_ | with_reducible refine r_sc_normal ?_)
 refine r_seq ?_
 refine r_region ?_
 refine o_q _ rfl rfl rfl (v_makeFunc rfl rfl rfl) ?_
 refine o_st rfl inf154 rfl rfl rfl rfl rfl rfl rfl rfl ?_
 refine o_nil ?_
 repeat (first | with_reducible refine r_then ?_ | with_reducible refine r_in_normal ?_ | with_reducible refine r_sc_normal ?_)
 refine Imp.box_to b3 [.func (.func 78) #[] #[pt c1 0, pt b2 0, pt b3 0]] rfl ?_
 refine Imp.sealB b2 ?_
 refine Imp.sealB b3 ?_
 refine r_region ?_
 first | refine o_q _ rfl rfl rfl (v_ld1 rfl Try.underlying154 rfl rfl rfl) ?_ | refine o_q _ rfl rfl rfl (v_lf1 rfl Try.underlying154 rfl rfl rfl) ?_ | refine o_q _ rfl rfl rfl (v_loadE1 rfl Try.underlying154 rfl rfl (by omega) rfl rfl) ?_
 refine o_q _ rfl rfl rfl (v_cast (v := v3 ⟨0, 0, 0⟩) (v_bS0 rfl Try.underlying113 inf113 plt113 rfl rfl) rfl) ?_
 refine o_fnY (Rx := boxF b3 154 [.func (.func 78) #[] #[pt c1 0, pt b2 0, pt b3 0]] :: boxF b2 153 [.func (.yield l) #[] #[]] :: [boxF c1 76 [pt fb 0], boxF fb 110 [.slice po B.spits.length pc, .slice so B.days.length sc, .slice lo B.logs.length lc, .map (some mb)], rowD po 3 encSp B.spits, rowD so 2 encS B.days, rowD lo 3 encLg B.logs]) (Rf := Rf) (caps := [pt c1 0, pt b2 0, pt b3 0]) (on_y B po so lo pc sc lc fb mb hY c1 b2 b3 hg B.spits.length 0 ⟨0, 0, 0⟩ 0 (by omega) (fun j y h => by rw [Nat.zero_add]; exact h)) rfl rfl rfl rfl rfl rfl rfl SubRC.sub ?_ ?_
 all_goals
  refine o_nil ?_
  repeat (first | with_reducible refine r_then ?_ | with_reducible refine r_in_normal ?_ | with_reducible refine r_sc_normal ?_)
  first
  | exact r_retseq2 (0 + (costsL (B.spits.drop 0) 0 ⟨0, 0, 0⟩).length) (by rw [Nat.zero_add]; rfl) (Rd.none rfl) SelMC.sel SubRC.sub
  | exact r_retseqJ (fun i => Rd.none rfl) SelMC.sel SubRC.sub
set_option maxHeartbeats 4000000 in
theorem can_c (hg : GoodS B) (hcs : canS B) : FnC Try.prog 52 [pt fb 0] (memo Try.prog 113 (okS B) mb) [boxF fb 110 [.slice po B.spits.length pc, .slice so B.days.length sc, .slice lo B.logs.length lc, .map (some mb)], rowD po 3 encSp B.spits, rowD so 2 encS B.days, rowD lo 3 encLg B.logs] (.bool true) (memo Try.prog 113 (okS B) mb) := by
 refine FnC.introM Try.call52 Try.func52 rfl Try.ntmps52 rfl ?_
 intro W M Rf
 refine r_seq ?_
 refine r_region ?_
 refine o_box1 rfl rfl rfl rfl rfl rfl (fun b1 => ?_)
 refine o_alloc rfl inf4 rfl rfl rfl rfl rfl (fun b2 => ?_)
 refine o_nil ?_
 repeat (first | with_reducible refine r_then ?_ | with_reducible refine r_in_normal ?_ | with_reducible refine r_sc_normal ?_)
 refine r_seq ?_
 refine r_seq ?_
 refine Imp.sealB b1 ?_
 refine Imp.box_to b2 [.bool false] rfl ?_
 refine r_region ?_
 first | refine o_q _ rfl rfl rfl (v_ld1 rfl Try.underlying76 rfl rfl rfl) ?_ | refine o_q _ rfl rfl rfl (v_lf1 rfl Try.underlying76 rfl rfl rfl) ?_ | refine o_q _ rfl rfl rfl (v_loadE1 rfl Try.underlying76 rfl rfl (by omega) rfl rfl) ?_
 refine o_fn (costs_r fb) rfl rfl rfl rfl rfl SubRC.sub (fun v5 hv5 => ?_)
 (obtain ⟨cb, hcb⟩ : ∃ cb, capC v5 = cb := ⟨_, rfl⟩); rw [hcb] at hv5 ⊢; clear hcb; subst hv5
 all_goals
  refine o_nil ?_
  repeat (first | with_reducible refine r_then ?_ | with_reducible refine r_in_normal ?_ | with_reducible refine r_sc_normal ?_)
  refine r_block ?_
  refine r_range (costs1_s B po so lo pc sc lc fb mb cb hg) rfl SubRC.sub (fun _ => rfl) rfl (fun i => exR fun (_ : PLift (∀ j, j < i → ∀ c, (allC B)[j]? = some c → ¬ canC B c)) => [memo Try.prog 113 (okS B) mb, bx b2 4 [.bool false]]) (fun i cc => exR fun (_ : PLift (cc = .ret)) => [memo Try.prog 113 (okS B) mb, bx b2 4 [.bool true]]) (M0 := M) (M1 := bx b2 4 [.bool false] :: memo Try.prog 113 (okS B) mb :: M) SelMC.sel (fun w h => St.pk (N := fun (_ : PLift (∀ j, j < 0 → ∀ c, (allC B)[j]? = some c → ¬ canC B c)) => [memo Try.prog 113 (okS B) mb, bx b2 4 [.bool false]]) ⟨fun j hj => absurd hj (by omega)⟩ (h.perm (List.Perm.swap _ _ _))) ?_ ?_ ?_
  ·
   intro l i x hx Mi Ri rdy bsy hbg
   refine Imp.unpk2 (fun hno => ?_)
   refine ri_region ?_
   refine oi_lift wideR rfl (fun _ _ h => h) ?_
   refine o_alloc rfl inf113 rfl rfl rfl rfl rfl (fun b3 => ?_)
   refine o_nil ?_
   refine r_then ?_
   refine oi_lift wideR rfl (fun _ _ h => h) ?_
   refine o_st rfl inf113 rfl rfl rfl rfl rfl rfl rfl rfl ?_
   refine o_nil ?_
   refine r_then ?_
   refine oi_nil ?_
   repeat (first | with_reducible refine r_then ?_ | with_reducible refine r_in_normal ?_ | with_reducible refine r_sc_normal ?_)
   refine r_begin hbg ?_
   refine ri_block ?_
   refine ri_seq ?_
   refine Imp.box_to b3 [i64 x.a, i64 x.b, i64 x.c] rfl ?_
   refine ri_region ?_
   refine oi_lift wideR rfl (fun _ _ h => h) ?_
   first | refine o_q _ rfl rfl rfl (v_ld1 rfl Try.underlying76 rfl rfl rfl) ?_ | refine o_q _ rfl rfl rfl (v_lf1 rfl Try.underlying76 rfl rfl rfl) ?_ | refine o_q _ rfl rfl rfl (v_loadE1 rfl Try.underlying76 rfl rfl (by omega) rfl rfl) ?_
   refine o_nil ?_
   refine r_then ?_
   refine oi_lift wideR rfl (fun _ _ h => h) ?_
   first | refine o_q _ rfl rfl rfl (v_ldW rfl Try.underlying113 rfl inf113 rfl rfl) ?_ | refine o_q _ rfl rfl rfl (v_lfW rfl Try.underlying113 rfl inf113 rfl rfl) ?_ | refine o_q _ rfl rfl rfl (v_lfN rfl Try.underlying113 rfl inf113 rfl rfl rfl) ?_ | refine o_q _ rfl rfl rfl (v_ldN rfl Try.underlying113 rfl inf113 rfl rfl rfl) ?_ | refine o_q _ rfl rfl rfl (v_loadEN rfl Try.underlying113 rfl inf113 rfl (by omega) rfl rfl rfl) ?_
   refine o_nil ?_
   refine r_then ?_
   refine oi_lift wideR rfl (fun _ _ h => h) ?_
   refine o_q _ rfl rfl rfl (OpQ.fnm (log_m B po so lo pc sc lc fb mb x hg ((mem_all hg).1 (List.mem_of_getElem? hx) |>.inC hg)) rfl [] [] rfl rfl rfl SubRC.sub) ?_
   refine o_nil ?_
   refine r_then ?_
   refine oi_lift wideR rfl (fun _ _ h => h) ?_
   refine o_q _ rfl rfl rfl (v_cast (v := .bool (decide (canC B x))) (v_field rfl Try.underlying118 Try.underlying4 inf4 rfl rfl rfl rfl) rfl) ?_
   refine o_nil ?_
   refine r_then ?_
   refine oi_nil ?_
   repeat (first | with_reducible refine r_then ?_ | with_reducible refine r_in_normal ?_ | with_reducible refine r_sc_normal ?_)
   first | refine ri_condd rfl (fun hc10 => ?_) (fun hc10 => ?_) | refine ri_cond rfl (fun hc10 => ?_) (fun hc10 => ?_)
   ·
    first
    | (exfalso; revert hc10; decide)
    | (exfalso; omega)
    |
     skip
     refine ri_seq ?_
     refine ri_region ?_
     refine oi_lift wideR rfl (fun _ _ h => h) ?_
     refine o_st rfl inf4 rfl rfl rfl rfl rfl rfl rfl rfl ?_
     refine o_nil ?_
     refine r_then ?_
     refine oi_nil ?_
     repeat (first | with_reducible refine r_then ?_ | with_reducible refine r_in_normal ?_ | with_reducible refine r_sc_normal ?_)
     refine ri_ret ?_
     repeat (first | with_reducible refine r_then_ret ?_ | with_reducible refine r_in_ret ?_ | with_reducible refine r_sc_ret ?_)
     refine Imp.box_to b2 [.bool true] rfl ?_
     exact r_round_retP (β := fun cc => PLift (cc = Code.ret)) (N := fun _ _ => [memo Try.prog 113 (okS B) mb, bx b2 4 [.bool true]]) ⟨rfl⟩ SelMC.sel SubRC.sub
   ·
    first
    | (exfalso; revert hc10; decide)
    | (exfalso; omega)
    |
     skip
     refine ri_skip ?_
     repeat (first | with_reducible refine r_then ?_ | with_reducible refine r_in_normal ?_ | with_reducible refine r_sc_normal ?_)
     exact r_roundP (N := fun (_ : PLift (∀ j, j < (i + 1) → ∀ c, (allC B)[j]? = some c → ¬ canC B c)) => [memo Try.prog 113 (okS B) mb, bx b2 4 [.bool false]]) ⟨fun j hj c hc => if e : j = i then (by subst e; rw [hx] at hc; cases hc; assumption) else hno.down j (by omega) c hc⟩ SelMC.sel SubRC.sub
  ·
   intro db
   refine Imp.unpk2 (fun hno => ?_)
   repeat (first | with_reducible refine r_then ?_ | with_reducible refine r_in_normal ?_ | with_reducible refine r_sc_normal ?_)
   refine r_seq ?_
   exfalso
   obtain ⟨c, h1, h2⟩ := hcs
   obtain ⟨k, hk, rfl⟩ := List.mem_iff_getElem.1 h1
   exact hno.down k hk _ (List.getElem?_eq_getElem hk) h2
  ·
   intro db i c _
   refine Imp.unpk (fun he => ?_)
   obtain ⟨rfl⟩ := he
   simp only [List.cons_append, List.nil_append]
   refine r_ret ?_
   repeat (first | with_reducible refine r_then_ret ?_ | with_reducible refine r_in_ret ?_ | with_reducible refine r_sc_ret ?_)
   exact m_rete [memo Try.prog 113 (okS B) mb] [] (Rd.one rfl (RdI.cell1 Try.underlying4 rfl rfl rfl)) ⟨rfl, rfl, rfl⟩ SelMC.sel SubRC.sub
theorem can_m (hg : GoodS B) (hcs : canS B) : FnM Try.prog 52 [pt fb 0] (memo Try.prog 113 (okS B) mb) [boxF fb 110 [.slice po B.spits.length pc, .slice so B.days.length sc, .slice lo B.logs.length lc, .map (some mb)], rowD po 3 encSp B.spits, rowD so 2 encS B.days, rowD lo 3 encLg B.logs] (fun u => u = .bool true) := FnC.toM (can_c B po so lo pc sc lc fb mb hg hcs)
set_option maxHeartbeats 4000000 in
theorem told_c (hg : GoodS B) (hcs : canS B) : FnC Try.prog 31 [pt fb 0] (memo Try.prog 113 (okS B) mb) [boxF fb 110 [.slice po B.spits.length pc, .slice so B.days.length sc, .slice lo B.logs.length lc, .map (some mb)], rowD po 3 encSp B.spits, rowD so 2 encS B.days, rowD lo 3 encLg B.logs] (pt fb 0) (memo Try.prog 113 (okS B) mb) := by
 refine FnC.intro Try.call31 Try.func31 rfl Try.ntmps31 rfl ?_
 intro W M Rf
 refine r_seq ?_
 refine r_region ?_
 refine o_q _ rfl rfl rfl (v_assign rfl rfl) ?_
 refine o_nil ?_
 repeat (first | with_reducible refine r_then ?_ | with_reducible refine r_in_normal ?_ | with_reducible refine r_sc_normal ?_)
 refine r_seq ?_
 refine r_region ?_
 refine o_q _ rfl rfl rfl (v_move rfl rfl) ?_
 refine o_q _ rfl rfl rfl (OpQ.fnm (can_m B po so lo pc sc lc fb mb hg hcs) rfl [] [] rfl rfl rfl SubRC.sub) ?_
 refine o_q _ rfl rfl rfl (OpQ.fn (ask_t _) rfl rfl SubRC.sub) ?_
 refine o_nil ?_
 repeat (first | with_reducible refine r_then ?_ | with_reducible refine r_in_normal ?_ | with_reducible refine r_sc_normal ?_)
 refine r_seq ?_
 refine r_region ?_
 refine o_q _ rfl rfl rfl (v_move rfl rfl) ?_
 refine o_q _ rfl rfl rfl (v_assign rfl rfl) ?_
 refine o_nil ?_
 repeat (first | with_reducible refine r_then ?_ | with_reducible refine r_in_normal ?_ | with_reducible refine r_sc_normal ?_)
 refine r_ret ?_
 repeat (first | with_reducible refine r_then_ret ?_ | with_reducible refine r_in_ret ?_ | with_reducible refine r_sc_ret ?_)
 exact r_rete [memo Try.prog 113 (okS B) mb] [] (Rd.tmp rfl rfl) ⟨rfl, rfl, rfl⟩ SelMC.sel SubRC.sub
theorem told_m (hg : GoodS B) (hcs : canS B) : FnM Try.prog 31 [pt fb 0] (memo Try.prog 113 (okS B) mb) [boxF fb 110 [.slice po B.spits.length pc, .slice so B.days.length sc, .slice lo B.logs.length lc, .map (some mb)], rowD po 3 encSp B.spits, rowD so 2 encS B.days, rowD lo 3 encLg B.logs] (fun u => u = pt fb 0) := FnC.toM (told_c B po so lo pc sc lc fb mb hg hcs)
set_option maxHeartbeats 4000000 in
theorem hull_v (xs : List Span) (oa : Option Addr) (cp : Nat) (h0 : 0 < xs.length) (hl : xs.length ≤ 1000) : FnV Try.prog 27 [.slice oa xs.length cp] [rowD oa 2 encS xs] (vS (hullP xs)) := by
 refine FnV.intro Try.call27 Try.func27 rfl Try.ntmps27 rfl ?_
 intro W M Rf
 refine r_seq ?_
 refine r_region ?_
 refine o_alloc rfl inf42 rfl rfl rfl rfl rfl (fun b2 => ?_)
 refine o_nil ?_
 repeat (first | with_reducible refine r_then ?_ | with_reducible refine r_in_normal ?_ | with_reducible refine r_sc_normal ?_)
 refine r_seq ?_
 refine r_region ?_
 refine o_q _ rfl rfl rfl (v_move rfl rfl) ?_
 refine o_q _ rfl rfl rfl (v_indexAddrSn rfl Try.underlying22 inf42 rfl rfl rfl (by omega) rfl) ?_
 refine o_q _ rfl rfl rfl (v_loadEN rfl Try.underlying42 rfl inf42 rfl h0 rfl rfl rfl) ?_
 refine o_alloc rfl inf42 rfl rfl rfl rfl rfl (fun b3 => ?_)
 refine o_st rfl inf42 rfl rfl rfl rfl rfl rfl rfl rfl ?_
 refine o_nil ?_
 repeat (first | with_reducible refine r_then ?_ | with_reducible refine r_in_normal ?_ | with_reducible refine r_sc_normal ?_)
 refine r_seq ?_
 refine r_seq ?_
 refine r_region ?_
 refine o_q _ rfl rfl rfl (v_move rfl rfl) ?_
 refine o_q _ rfl rfl rfl (v_len rfl rfl Try.underlying22 rfl) ?_
 refine o_q _ rfl rfl rfl (v_move rfl rfl) ?_
 refine o_nil ?_
 repeat (first | with_reducible refine r_then ?_ | with_reducible refine r_in_normal ?_ | with_reducible refine r_sc_normal ?_)
 refine r_block ?_
 refine r_loop (ι := Nat) (fun k => k ≤ xs.length) (fun k => [(2, pt b2 0), (3, pt b3 0), (9, .slice oa xs.length cp), (10, i64 xs.length), (11, i64 k)]) (fun k => bx b2 42 [i64 0, i64 0] :: bx b3 42 [i64 (hullTo xs k).lo, i64 (hullTo xs k).hi] :: M) (fun k => [rowD oa 2 encS xs] ++ Rf) (fun k => xs.length - k) 0 ?_ ?_ ?_
 ·
  refine Imp.box_to b2 [i64 0, i64 0] rfl ?_
  refine Imp.box_to b3 [i64 (hullTo xs 0).lo, i64 (hullTo xs 0).hi] rfl ?_
  exact r_here (by repeat (first | exact FSub.nil | refine FSub.cons rfl ?_)) SelMC.sel SubRC.sub
 ·
  omega
 ·
  rintro k hI0
  refine r_seq ?_
  refine r_region ?_
  refine o_q _ rfl rfl rfl (v_lss rfl rfl rfl) ?_
  refine o_nil ?_
  repeat (first | with_reducible refine r_then ?_ | with_reducible refine r_in_normal ?_ | with_reducible refine r_sc_normal ?_)
  refine r_seq ?_
  first | refine r_condd rfl (fun hc12 => ?_) (fun hc12 => ?_) | refine r_cond rfl (fun hc12 => ?_) (fun hc12 => ?_)
  ·
   first
   | (exfalso; revert hc12; decide)
   | (exfalso; omega)
   |
    skip
    refine r_skip ?_
    repeat (first | with_reducible refine r_then ?_ | with_reducible refine r_in_normal ?_ | with_reducible refine r_sc_normal ?_)
    refine r_seq ?_
    refine r_block ?_
    refine r_seq ?_
    refine r_region ?_
    first | refine o_q _ rfl rfl rfl (v_indexAddrSn rfl Try.underlying22 inf42 rfl rfl rfl (by omega) rfl) ?_ | refine o_q _ rfl rfl rfl (v_indexAddrS rfl Try.underlying22 inf42 rfl rfl rfl (by omega) (by omega) rfl) ?_
    first | refine o_q _ rfl rfl rfl (v_ldW rfl Try.underlying42 rfl inf42 rfl rfl) ?_ | refine o_q _ rfl rfl rfl (v_lfW rfl Try.underlying42 rfl inf42 rfl rfl) ?_ | refine o_q _ rfl rfl rfl (v_lfN rfl Try.underlying42 rfl inf42 rfl rfl rfl) ?_ | refine o_q _ rfl rfl rfl (v_ldN rfl Try.underlying42 rfl inf42 rfl rfl rfl) ?_ | refine o_q _ rfl rfl rfl (v_loadEN rfl Try.underlying42 rfl inf42 rfl (by omega) rfl rfl rfl) ?_
    refine o_alloc rfl inf42 rfl rfl rfl rfl rfl (fun b5 => ?_)
    refine o_st rfl inf42 rfl rfl rfl rfl rfl rfl rfl rfl ?_
    refine o_nil ?_
    repeat (first | with_reducible refine r_then ?_ | with_reducible refine r_in_normal ?_ | with_reducible refine r_sc_normal ?_)
    refine Imp.box_to b5 [i64 (xs.getD k default).lo, i64 (xs.getD k default).hi] rfl ?_
    refine r_region ?_
    first | refine o_q _ rfl rfl rfl (v_fieldAddr rfl Try.underlying42 inf3 rfl rfl rfl rfl) ?_ | refine o_q _ rfl rfl rfl (v_fieldAddrE rfl Try.underlying42 inf3 rfl rfl rfl rfl) ?_
    first | refine o_q _ rfl rfl rfl (v_ld1 rfl Try.underlying3 rfl rfl rfl) ?_ | refine o_q _ rfl rfl rfl (v_lf1 rfl Try.underlying3 rfl rfl rfl) ?_ | refine o_q _ rfl rfl rfl (v_loadE1 rfl Try.underlying3 rfl rfl (by omega) rfl rfl) ?_
    first | refine o_q _ rfl rfl rfl (v_fieldAddr rfl Try.underlying42 inf3 rfl rfl rfl rfl) ?_ | refine o_q _ rfl rfl rfl (v_fieldAddrE rfl Try.underlying42 inf3 rfl rfl rfl rfl) ?_
    first | refine o_q _ rfl rfl rfl (v_ld1 rfl Try.underlying3 rfl rfl rfl) ?_ | refine o_q _ rfl rfl rfl (v_lf1 rfl Try.underlying3 rfl rfl rfl) ?_ | refine o_q _ rfl rfl rfl (v_loadE1 rfl Try.underlying3 rfl rfl (by omega) rfl rfl) ?_
    first | refine o_q _ rfl rfl rfl (v_min2 rfl rfl rfl) ?_ | refine o_q _ rfl rfl rfl (v_min3 rfl rfl rfl rfl) ?_
    first | refine o_q _ rfl rfl rfl (v_fieldAddr rfl Try.underlying42 inf3 rfl rfl rfl rfl) ?_ | refine o_q _ rfl rfl rfl (v_fieldAddrE rfl Try.underlying42 inf3 rfl rfl rfl rfl) ?_
    first | refine o_q _ rfl rfl rfl (v_ld1 rfl Try.underlying3 rfl rfl rfl) ?_ | refine o_q _ rfl rfl rfl (v_lf1 rfl Try.underlying3 rfl rfl rfl) ?_ | refine o_q _ rfl rfl rfl (v_loadE1 rfl Try.underlying3 rfl rfl (by omega) rfl rfl) ?_
    first | refine o_q _ rfl rfl rfl (v_fieldAddr rfl Try.underlying42 inf3 rfl rfl rfl rfl) ?_ | refine o_q _ rfl rfl rfl (v_fieldAddrE rfl Try.underlying42 inf3 rfl rfl rfl rfl) ?_
    first | refine o_q _ rfl rfl rfl (v_ld1 rfl Try.underlying3 rfl rfl rfl) ?_ | refine o_q _ rfl rfl rfl (v_lf1 rfl Try.underlying3 rfl rfl rfl) ?_ | refine o_q _ rfl rfl rfl (v_loadE1 rfl Try.underlying3 rfl rfl (by omega) rfl rfl) ?_
    first | refine o_q _ rfl rfl rfl (v_max2 rfl rfl rfl) ?_ | refine o_q _ rfl rfl rfl (v_max3 rfl rfl rfl rfl) ?_
    refine o_q _ rfl rfl rfl (v_bS rfl Try.underlying42 inf42 plt42 rfl rfl rfl (by repeat (first | exact trivial | refine ⟨rfl, ?_⟩)) (by rfl)) ?_
    refine o_st rfl inf42 rfl rfl rfl rfl rfl rfl rfl rfl ?_
    refine o_nil ?_
    repeat (first | with_reducible refine r_then ?_ | with_reducible refine r_in_normal ?_ | with_reducible refine r_sc_normal ?_)
    refine r_region ?_
    refine o_q _ rfl rfl rfl (v_add rfl rfl rfl (by omega)) ?_
    refine o_q _ rfl rfl rfl (v_move rfl rfl) ?_
    refine o_nil ?_
    repeat (first | with_reducible refine r_then ?_ | with_reducible refine r_in_normal ?_ | with_reducible refine r_sc_normal ?_)
    refine r_next (k + 1) ?_ ?_ ?_
    ·
     refine Imp.box_to b3 [i64 (hullTo xs (k + 1)).lo, i64 (hullTo xs (k + 1)).hi] rfl ?_
     exact r_here (by repeat (first | exact FSub.nil | refine FSub.cons rfl ?_)) SelMC.sel SubRC.sub
    ·
     omega
    ·
     omega
  ·
   first
   | (exfalso; revert hc12; decide)
   | (exfalso; omega)
   |
    skip
    refine r_exit ?_
    repeat (first | with_reducible refine r_then_exit ?_ | with_reducible refine r_sc_exit ?_ | with_reducible refine r_in_here ?_ | (with_reducible refine r_in_past (by decide) ?_) | with_reducible refine r_then ?_ | with_reducible refine r_in_normal ?_ | with_reducible refine r_sc_normal ?_)
    refine r_seq ?_
    refine r_region ?_
    first | refine o_q _ rfl rfl rfl (v_ldW rfl Try.underlying42 rfl inf42 rfl rfl) ?_ | refine o_q _ rfl rfl rfl (v_lfW rfl Try.underlying42 rfl inf42 rfl rfl) ?_ | refine o_q _ rfl rfl rfl (v_lfN rfl Try.underlying42 rfl inf42 rfl rfl rfl) ?_ | refine o_q _ rfl rfl rfl (v_ldN rfl Try.underlying42 rfl inf42 rfl rfl rfl) ?_ | refine o_q _ rfl rfl rfl (v_loadEN rfl Try.underlying42 rfl inf42 rfl (by omega) rfl rfl rfl) ?_
    refine o_st rfl inf42 rfl rfl rfl rfl rfl rfl rfl rfl ?_
    refine o_nil ?_
    repeat (first | with_reducible refine r_then ?_ | with_reducible refine r_in_normal ?_ | with_reducible refine r_sc_normal ?_)
    refine r_ret ?_
    repeat (first | with_reducible refine r_then_ret ?_ | with_reducible refine r_in_ret ?_ | with_reducible refine r_sc_ret ?_)
    obtain rfl : k = xs.length := by omega
    refine Imp.box_to b2 [i64 (hullP xs).lo, i64 (hullP xs).hi] rfl ?_
    exact r_retv2 (Rd.one rfl (RdI.cellW Try.underlying42 rfl inf42 rfl rfl)) rfl SelMC.sel SubRC.sub
set_option maxHeartbeats 4000000 in
theorem sods1_v (c : T3) (d c1 c2 : Nat) (hg : GoodS B) (hc : InB B c) (hcan : canC B c) (hd : d < B.days.length) : FnV Try.prog 54 [v3 c, vL B c, pt c1 0, pt c2 0] [boxF c1 76 [pt fb 0], boxF c2 3 [i64 (d : Int)], boxF fb 110 [.slice po B.spits.length pc, .slice so B.days.length sc, .slice lo B.logs.length lc, .map (some mb)], rowD po 3 encSp B.spits, rowD so 2 encS B.days, rowD lo 3 encLg B.logs] (vS (cutSp B d c)) := by
 refine FnV.intro Try.call54 Try.func54 rfl Try.ntmps54 rfl ?_
 intro W M Rf
 refine r_seq ?_
 refine r_region ?_
 refine o_boxA rfl rfl rfl rfl rfl (fun b4 => ?_)
 refine o_boxA rfl rfl rfl rfl rfl (fun b5 => ?_)
 refine o_alloc rfl inf42 rfl rfl rfl rfl rfl (fun b6 => ?_)
 refine o_nil ?_
 repeat (first | with_reducible refine r_then ?_ | with_reducible refine r_in_normal ?_ | with_reducible refine r_sc_normal ?_)
 refine r_seq ?_
 have h2 := hg.2.1
 have hlb := log_bd hg (hc.inC hg) hcan hd
 refine r_par' 17 mixed (by kernel_rfl) (by rfl) ?_
 first | refine p_q _ rfl rfl rfl (fun _ _ => v_ld1 rfl Try.underlying76 rfl rfl rfl) ?_ | refine p_q _ rfl rfl rfl (fun _ _ => v_lf1 rfl Try.underlying76 rfl rfl rfl) ?_ | refine p_q _ rfl rfl rfl (fun _ _ => v_loadE1 rfl Try.underlying76 rfl rfl (by omega) rfl rfl) ?_
 first | refine p_q _ rfl rfl rfl (fun _ _ => v_ldW rfl Try.underlying113 rfl inf113 rfl rfl) ?_ | refine p_q _ rfl rfl rfl (fun _ _ => v_lfW rfl Try.underlying113 rfl inf113 rfl rfl) ?_ | refine p_q _ rfl rfl rfl (fun _ _ => v_lfN rfl Try.underlying113 rfl inf113 rfl rfl rfl) ?_ | refine p_q _ rfl rfl rfl (fun _ _ => v_ldN rfl Try.underlying113 rfl inf113 rfl rfl rfl) ?_ | refine p_q _ rfl rfl rfl (fun _ _ => v_loadEN rfl Try.underlying113 rfl inf113 rfl (by omega) rfl rfl rfl) ?_
 first | refine p_q _ rfl rfl rfl (fun _ _ => v_ld1 rfl Try.underlying3 rfl rfl rfl) ?_ | refine p_q _ rfl rfl rfl (fun _ _ => v_lf1 rfl Try.underlying3 rfl rfl rfl) ?_ | refine p_q _ rfl rfl rfl (fun _ _ => v_loadE1 rfl Try.underlying3 rfl rfl (by omega) rfl rfl) ?_
 first | refine p_q _ rfl rfl rfl (fun _ _ => v_fieldAddr rfl Try.underlying118 inf116 rfl rfl rfl rfl) ?_ | refine p_q _ rfl rfl rfl (fun _ _ => v_fieldAddrE rfl Try.underlying118 inf116 rfl rfl rfl rfl) ?_
 first | refine p_q _ rfl rfl rfl (fun _ _ => v_indexAddrAn rfl Try.underlying116 inf115 rfl rfl (by omega)) ?_ | refine p_q _ rfl rfl rfl (fun _ _ => v_indexAddrA rfl Try.underlying116 inf115 rfl rfl (by omega)) ?_ | refine p_q _ rfl rfl rfl (fun _ _ => v_indexAddrE rfl Try.underlying116 inf115 rfl rfl (by omega)) ?_
 first | refine p_q _ rfl rfl rfl (fun _ _ => v_fieldAddr rfl Try.underlying115 inf42 rfl rfl rfl rfl) ?_ | refine p_q _ rfl rfl rfl (fun _ _ => v_fieldAddrE rfl Try.underlying115 inf42 rfl rfl rfl rfl) ?_
 first | refine p_q _ rfl rfl rfl (fun _ _ => v_fieldAddr rfl Try.underlying42 inf3 rfl rfl rfl rfl) ?_ | refine p_q _ rfl rfl rfl (fun _ _ => v_fieldAddrE rfl Try.underlying42 inf3 rfl rfl rfl rfl) ?_
 refine p_q _ rfl rfl rfl (fun _ _ => v_cast (v := i64 (logD B c d).lo) (v_ld1 rfl Try.underlying3 rfl rfl (by exact L13_lo (k := d) (by omega))) rfl) ?_
 refine p_q _ rfl rfl rfl (fun _ _ => OpQ.fn (cut_v B po so lo pc sc lc fb mb c _ hg (hc.inC hg) (hc.pos hg) (by omega)) rfl rfl SubRC.sub) ?_
 first | refine p_q _ rfl rfl rfl (fun _ _ => v_ld1 rfl Try.underlying76 rfl rfl rfl) ?_ | refine p_q _ rfl rfl rfl (fun _ _ => v_lf1 rfl Try.underlying76 rfl rfl rfl) ?_ | refine p_q _ rfl rfl rfl (fun _ _ => v_loadE1 rfl Try.underlying76 rfl rfl (by omega) rfl rfl) ?_
 first | refine p_q _ rfl rfl rfl (fun _ _ => v_ldW rfl Try.underlying113 rfl inf113 rfl rfl) ?_ | refine p_q _ rfl rfl rfl (fun _ _ => v_lfW rfl Try.underlying113 rfl inf113 rfl rfl) ?_ | refine p_q _ rfl rfl rfl (fun _ _ => v_lfN rfl Try.underlying113 rfl inf113 rfl rfl rfl) ?_ | refine p_q _ rfl rfl rfl (fun _ _ => v_ldN rfl Try.underlying113 rfl inf113 rfl rfl rfl) ?_ | refine p_q _ rfl rfl rfl (fun _ _ => v_loadEN rfl Try.underlying113 rfl inf113 rfl (by omega) rfl rfl rfl) ?_
 first | refine p_q _ rfl rfl rfl (fun _ _ => v_ld1 rfl Try.underlying3 rfl rfl rfl) ?_ | refine p_q _ rfl rfl rfl (fun _ _ => v_lf1 rfl Try.underlying3 rfl rfl rfl) ?_ | refine p_q _ rfl rfl rfl (fun _ _ => v_loadE1 rfl Try.underlying3 rfl rfl (by omega) rfl rfl) ?_
 first | refine p_q _ rfl rfl rfl (fun _ _ => v_fieldAddr rfl Try.underlying118 inf116 rfl rfl rfl rfl) ?_ | refine p_q _ rfl rfl rfl (fun _ _ => v_fieldAddrE rfl Try.underlying118 inf116 rfl rfl rfl rfl) ?_
 first | refine p_q _ rfl rfl rfl (fun _ _ => v_indexAddrAn rfl Try.underlying116 inf115 rfl rfl (by omega)) ?_ | refine p_q _ rfl rfl rfl (fun _ _ => v_indexAddrA rfl Try.underlying116 inf115 rfl rfl (by omega)) ?_ | refine p_q _ rfl rfl rfl (fun _ _ => v_indexAddrE rfl Try.underlying116 inf115 rfl rfl (by omega)) ?_
 first | refine p_q _ rfl rfl rfl (fun _ _ => v_fieldAddr rfl Try.underlying115 inf42 rfl rfl rfl rfl) ?_ | refine p_q _ rfl rfl rfl (fun _ _ => v_fieldAddrE rfl Try.underlying115 inf42 rfl rfl rfl rfl) ?_
 first | refine p_q _ rfl rfl rfl (fun _ _ => v_fieldAddr rfl Try.underlying42 inf3 rfl rfl rfl rfl) ?_ | refine p_q _ rfl rfl rfl (fun _ _ => v_fieldAddrE rfl Try.underlying42 inf3 rfl rfl rfl rfl) ?_
 refine p_q _ rfl rfl rfl (fun _ _ => v_cast (v := i64 (logD B c d).hi) (v_ld1 rfl Try.underlying3 rfl rfl (by exact L13_hi (k := d) (by omega))) rfl) ?_
 refine p_nil2 (by simp only [List.nil_append, List.cons_append]; rfl) rfl ?_
 refine f_q rfl ?_
 refine f_q rfl ?_
 refine f_q rfl ?_
 refine f_q rfl ?_
 refine f_q rfl ?_
 refine f_q rfl ?_
 refine f_q rfl ?_
 refine f_q rfl ?_
 refine f_q rfl ?_
 refine f_q rfl ?_
 refine f_q rfl ?_
 refine f_q rfl ?_
 refine f_q rfl ?_
 refine f_q rfl ?_
 refine f_q rfl ?_
 refine f_q rfl ?_
 refine f_q rfl ?_
 refine f_nil ?_
 refine o_q _ rfl rfl rfl (OpQ.fn (cut_v B po so lo pc sc lc fb mb c _ hg (hc.inC hg) (hc.pos hg) (by omega)) rfl rfl SubRC.sub) ?_
 refine o_q _ rfl rfl rfl (v_bS rfl Try.underlying42 inf42 plt42 rfl rfl rfl (by repeat (first | exact trivial | refine ⟨rfl, ?_⟩)) (by rfl)) ?_
 refine o_st rfl inf42 rfl rfl rfl rfl rfl rfl rfl rfl ?_
 refine o_nil ?_
 repeat (first | with_reducible refine r_then ?_ | with_reducible refine r_in_normal ?_ | with_reducible refine r_sc_normal ?_)
 refine r_ret ?_
 repeat (first | with_reducible refine r_then_ret ?_ | with_reducible refine r_in_ret ?_ | with_reducible refine r_sc_ret ?_)
 exact r_retv2 (Rd.one rfl (RdI.cellW Try.underlying42 rfl inf42 rfl rfl)) rfl SelMC.sel SubRC.sub
set_option maxHeartbeats 4000000 in
theorem all_s (d c1 c2 : Nat) (hg : GoodS B) (hd : d < B.days.length) : FnS Try.prog 53 [pt fb 0, .agg #[.func (.func 54) #[] #[pt c1 0, pt c2 0]]] [memo Try.prog 113 (okS B) mb] [boxF c1 76 [pt fb 0], boxF c2 3 [i64 (d : Int)], boxF fb 110 [.slice po B.spits.length pc, .slice so B.days.length sc, .slice lo B.logs.length lc, .map (some mb)], rowD po 3 encSp B.spits, rowD so 2 encS B.days, rowD lo 3 encLg B.logs] (fun e M' R' => ∃ x : Option Addr × Nat, e = .returned (.slice x.1 ((goodC B).map (cutSp B d)).length x.2) ∧ True ∧ M' = [memo Try.prog 113 (okS B) mb] ∧ R' = [rowD x.1 2 encS ((goodC B).map (cutSp B d))]) := by
 refine FnS.introM1 Try.call53 Try.func53 rfl Try.ntmps53 rfl ?_
 intro W M Rf
 refine r_seq ?_
 refine r_region ?_
 refine o_box1 rfl rfl rfl rfl rfl rfl (fun b2 => ?_)
 refine o_boxA rfl rfl rfl rfl rfl (fun b3 => ?_)
 refine o_alloc rfl inf22 rfl rfl rfl rfl rfl (fun b4 => ?_)
 refine o_nil ?_
 repeat (first | with_reducible refine r_then ?_ | with_reducible refine r_in_normal ?_ | with_reducible refine r_sc_normal ?_)
 refine r_seq ?_
 refine r_seq ?_
 refine Imp.sealB b2 ?_
 refine Imp.sealB b3 ?_
 refine Imp.nilL 42 2 encS ?_
 refine r_region ?_
 first | refine o_q _ rfl rfl rfl (v_ld1 rfl Try.underlying76 rfl rfl rfl) ?_ | refine o_q _ rfl rfl rfl (v_lf1 rfl Try.underlying76 rfl rfl rfl) ?_ | refine o_q _ rfl rfl rfl (v_loadE1 rfl Try.underlying76 rfl rfl (by omega) rfl rfl) ?_
 refine o_fn (costs_r fb) rfl rfl rfl rfl rfl SubRC.sub (fun v8 hv8 => ?_)
 (obtain ⟨cb, hcb⟩ : ∃ cb, capC v8 = cb := ⟨_, rfl⟩); rw [hcb] at hv8 ⊢; clear hcb; subst hv8
 all_goals
  refine o_nil ?_
  repeat (first | with_reducible refine r_then ?_ | with_reducible refine r_in_normal ?_ | with_reducible refine r_sc_normal ?_)
  refine r_block ?_
  refine r_range (costs1_s B po so lo pc sc lc fb mb cb hg) rfl SubRC.sub (fun _ => rfl) rfl (fun i => exR fun v => [bx b4 22 [v], ownL v 42 2 encS (cutTo B d (i)), memo Try.prog 113 (okS B) mb]) (fun _ _ => noR) (M0 := M) (M1 := bx b4 22 (Value.slice none 0 0).cells.toList :: ownL (.slice none 0 0) 42 2 encS ([] : List Span) :: memo Try.prog 113 (okS B) mb :: M) SelMC.sel (fun w h => St.pk (.slice none 0 0) h) ?_ ?_ ?_
  ·
   intro l i x hx Mi Ri rdy bsy hbg
   refine Imp.unpk (fun v => ?_)
   simp only [List.cons_append, List.nil_append]
   refine Imp.own_is v (fun hs => ?_)
   obtain ⟨oav, cpv, rfl⟩ := hs
   refine ri_region ?_
   refine oi_lift wideR rfl (fun _ _ h => h) ?_
   refine o_alloc rfl inf113 rfl rfl rfl rfl rfl (fun b5 => ?_)
   refine o_nil ?_
   refine r_then ?_
   refine oi_lift wideR rfl (fun _ _ h => h) ?_
   refine o_st rfl inf113 rfl rfl rfl rfl rfl rfl rfl rfl ?_
   refine o_nil ?_
   refine r_then ?_
   refine oi_nil ?_
   repeat (first | with_reducible refine r_then ?_ | with_reducible refine r_in_normal ?_ | with_reducible refine r_sc_normal ?_)
   refine r_begin hbg ?_
   refine ri_block ?_
   refine ri_seq ?_
   refine Imp.box_to b5 [i64 x.a, i64 x.b, i64 x.c] rfl ?_
   have hle := cutTo_len (B := B) hg d i
   have hin := (mem_all hg).1 (List.mem_of_getElem? hx)
   refine ri_region ?_
   refine oi_lift wideR rfl (fun _ _ h => h) ?_
   first | refine o_q _ rfl rfl rfl (v_ld1 rfl Try.underlying76 rfl rfl rfl) ?_ | refine o_q _ rfl rfl rfl (v_lf1 rfl Try.underlying76 rfl rfl rfl) ?_ | refine o_q _ rfl rfl rfl (v_loadE1 rfl Try.underlying76 rfl rfl (by omega) rfl rfl) ?_
   refine o_nil ?_
   refine r_then ?_
   refine oi_lift wideR rfl (fun _ _ h => h) ?_
   first | refine o_q _ rfl rfl rfl (v_ldW rfl Try.underlying113 rfl inf113 rfl rfl) ?_ | refine o_q _ rfl rfl rfl (v_lfW rfl Try.underlying113 rfl inf113 rfl rfl) ?_ | refine o_q _ rfl rfl rfl (v_lfN rfl Try.underlying113 rfl inf113 rfl rfl rfl) ?_ | refine o_q _ rfl rfl rfl (v_ldN rfl Try.underlying113 rfl inf113 rfl rfl rfl) ?_ | refine o_q _ rfl rfl rfl (v_loadEN rfl Try.underlying113 rfl inf113 rfl (by omega) rfl rfl rfl) ?_
   refine o_nil ?_
   refine r_then ?_
   refine oi_lift wideR rfl (fun _ _ h => h) ?_
   refine o_q _ rfl rfl rfl (OpQ.fnm (log_m B po so lo pc sc lc fb mb x hg ((mem_all hg).1 (List.mem_of_getElem? hx) |>.inC hg)) rfl [] [] rfl rfl rfl SubRC.sub) ?_
   refine o_nil ?_
   refine r_then ?_
   refine oi_lift wideR rfl (fun _ _ h => h) ?_
   refine o_alloc rfl inf118 rfl rfl rfl rfl rfl (fun b6 => ?_)
   refine o_nil ?_
   refine r_then ?_
   refine oi_lift wideR rfl (fun _ _ h => h) ?_
   refine o_st rfl inf118 rfl rfl rfl rfl rfl rfl rfl rfl ?_
   refine o_nil ?_
   refine r_then ?_
   refine oi_nil ?_
   repeat (first | with_reducible refine r_then ?_ | with_reducible refine r_in_normal ?_ | with_reducible refine r_sc_normal ?_)
   refine ri_seq ?_
   refine Imp.box_to b6 (L13 (logD B x) (decide (canC B x))) rfl ?_
   refine ri_region ?_
   refine oi_lift wideR rfl (fun _ _ h => h) ?_
   first | refine o_q _ rfl rfl rfl (v_fieldAddr rfl Try.underlying118 inf4 rfl rfl rfl rfl) ?_ | refine o_q _ rfl rfl rfl (v_fieldAddrE rfl Try.underlying118 inf4 rfl rfl rfl rfl) ?_
   refine o_nil ?_
   refine r_then ?_
   refine oi_lift wideR rfl (fun _ _ h => h) ?_
   refine o_q _ rfl rfl rfl (v_cast (v := .bool (decide (canC B x))) (v_ld1 rfl Try.underlying4 rfl rfl rfl) rfl) ?_
   refine o_nil ?_
   refine r_then ?_
   refine oi_nil ?_
   repeat (first | with_reducible refine r_then ?_ | with_reducible refine r_in_normal ?_ | with_reducible refine r_sc_normal ?_)
   first | refine ri_condd rfl (fun hc14 => ?_) (fun hc14 => ?_) | refine ri_cond rfl (fun hc14 => ?_) (fun hc14 => ?_)
   ·
    first
    | (exfalso; revert hc14; decide)
    | (exfalso; omega)
    |
     skip
     have hcx : canC B x := by assumption
     refine ri_parZ (fun _ => True) (fun _ _ _ _ => trivial) [] 7 wideR (by kernel_rfl) (by kernel_rfl) (by kernel_rfl) (by kernel_rfl) (by kernel_rfl) (by kernel_rfl) mixed (by kernel_rfl) (by rfl) ?_
     first | refine p_q _ rfl rfl rfl (fun _ _ => v_ld1 rfl Try.underlying22 rfl rfl rfl) ?_ | refine p_q _ rfl rfl rfl (fun _ _ => v_lf1 rfl Try.underlying22 rfl rfl rfl) ?_ | refine p_q _ rfl rfl rfl (fun _ _ => v_loadE1 rfl Try.underlying22 rfl rfl (by omega) rfl rfl) ?_
     first | refine p_q _ rfl rfl rfl (fun _ _ => v_fieldAddr rfl Try.underlying122 inf120 rfl rfl rfl rfl) ?_ | refine p_q _ rfl rfl rfl (fun _ _ => v_fieldAddrE rfl Try.underlying122 inf120 rfl rfl rfl rfl) ?_
     first | refine p_q _ rfl rfl rfl (fun _ _ => v_ld1 rfl Try.underlying120 rfl rfl rfl) ?_ | refine p_q _ rfl rfl rfl (fun _ _ => v_lf1 rfl Try.underlying120 rfl rfl rfl) ?_ | refine p_q _ rfl rfl rfl (fun _ _ => v_loadE1 rfl Try.underlying120 rfl rfl (by omega) rfl rfl) ?_
     first | refine p_q _ rfl rfl rfl (fun _ _ => v_ldW rfl Try.underlying113 rfl inf113 rfl rfl) ?_ | refine p_q _ rfl rfl rfl (fun _ _ => v_lfW rfl Try.underlying113 rfl inf113 rfl rfl) ?_ | refine p_q _ rfl rfl rfl (fun _ _ => v_lfN rfl Try.underlying113 rfl inf113 rfl rfl rfl) ?_ | refine p_q _ rfl rfl rfl (fun _ _ => v_ldN rfl Try.underlying113 rfl inf113 rfl rfl rfl) ?_ | refine p_q _ rfl rfl rfl (fun _ _ => v_loadEN rfl Try.underlying113 rfl inf113 rfl (by omega) rfl rfl rfl) ?_
     first | refine p_q _ rfl rfl rfl (fun _ _ => v_ldW rfl Try.underlying118 rfl inf118 rfl rfl) ?_ | refine p_q _ rfl rfl rfl (fun _ _ => v_lfW rfl Try.underlying118 rfl inf118 rfl rfl) ?_ | refine p_q _ rfl rfl rfl (fun _ _ => v_lfN rfl Try.underlying118 rfl inf118 rfl rfl rfl) ?_ | refine p_q _ rfl rfl rfl (fun _ _ => v_ldN rfl Try.underlying118 rfl inf118 rfl rfl rfl) ?_ | refine p_q _ rfl rfl rfl (fun _ _ => v_loadEN rfl Try.underlying118 rfl inf118 rfl (by omega) rfl rfl rfl) ?_
     refine p_q _ rfl rfl rfl (fun _ _ => OpQ.call (sods1_v B po so lo pc sc lc fb mb x d c1 c2 hg hin hcx hd) rfl [] [pt c1 0, pt c2 0] rfl rfl rfl SubRC.sub) ?_
     refine p_lit rfl Try.underlying22 inf42 rfl rfl rfl rfl rfl rfl rfl rfl (by repeat (first | exact trivial | refine ⟨rfl, ?_⟩)) (by rfl) ?_
     refine p_nilF (by simp only [List.nil_append, List.cons_append]; rfl) rfl trivial ?_
     refine f_q rfl ?_
     refine f_q rfl ?_
     refine f_q rfl ?_
     refine f_q rfl ?_
     refine f_q rfl ?_
     refine f_q rfl ?_
     refine f_lit rfl (fun b21 => ?_)
     refine f_nil ?_
     refine oz_lift (fun _ _ => trivial) ?_
     refine o_app1F (cutSp B d x) rfl Try.underlying22 inf42 rfl (by rfl) (by rfl) rfl rfl rfl rfl rfl (by rfl) (by rfl) (by rfl) (by first | omega | (constructor <;> first | omega | decide)) (fun v22 => ?_)
     refine o_nil ?_
     refine r_then ?_
     refine Imp.own_is v22 (fun hs => ?_)
     obtain ⟨oa22, cp22, rfl⟩ := hs
     refine oz_lift (fun _ _ => trivial) ?_
     refine o_st rfl inf22 rfl rfl rfl rfl rfl rfl rfl rfl ?_
     refine o_nil ?_
     refine r_then ?_
     refine oz_nil (fun _ _ => trivial) ?_
     refine r_nop ?_
     repeat (first | with_reducible refine r_then ?_ | with_reducible refine r_in_normal ?_ | with_reducible refine r_sc_normal ?_)
     first
     | (refine Imp.own_to (.slice oa22 ((cutTo B d (i)) ++ [cutSp B d x]).length cp22) (cutTo B d (i + 1)) (cutTo_y hx (by assumption)) ?_; refine Imp.box_to b4 [.slice oa22 ((cutTo B d (i)) ++ [cutSp B d x]).length cp22] rfl ?_; exact r_roundP (N := fun v => [bx b4 22 [v], ownL v 42 2 encS (cutTo B d (i + 1)), memo Try.prog 113 (okS B) mb]) (.slice oa22 ((cutTo B d (i)) ++ [cutSp B d x]).length cp22) SelMC.sel SubRC.sub)
     | (refine Imp.own_to (.slice oav (cutTo B d (i)).length cpv) (cutTo B d (i + 1)) (cutTo_n hx (by assumption)) ?_; exact r_roundP (N := fun v => [bx b4 22 [v], ownL v 42 2 encS (cutTo B d (i + 1)), memo Try.prog 113 (okS B) mb]) (.slice oav (cutTo B d (i)).length cpv) SelMC.sel SubRC.sub)
   ·
    first
    | (exfalso; revert hc14; decide)
    | (exfalso; omega)
    |
     skip
     refine ri_skip ?_
     repeat (first | with_reducible refine r_then ?_ | with_reducible refine r_in_normal ?_ | with_reducible refine r_sc_normal ?_)
     first
     | (refine Imp.own_to (.slice oa22 ((cutTo B d (i)) ++ [cutSp B d x]).length cp22) (cutTo B d (i + 1)) (cutTo_y hx (by assumption)) ?_; refine Imp.box_to b4 [.slice oa22 ((cutTo B d (i)) ++ [cutSp B d x]).length cp22] rfl ?_; exact r_roundP (N := fun v => [bx b4 22 [v], ownL v 42 2 encS (cutTo B d (i + 1)), memo Try.prog 113 (okS B) mb]) (.slice oa22 ((cutTo B d (i)) ++ [cutSp B d x]).length cp22) SelMC.sel SubRC.sub)
     | (refine Imp.own_to (.slice oav (cutTo B d (i)).length cpv) (cutTo B d (i + 1)) (cutTo_n hx (by assumption)) ?_; exact r_roundP (N := fun v => [bx b4 22 [v], ownL v 42 2 encS (cutTo B d (i + 1)), memo Try.prog 113 (okS B) mb]) (.slice oav (cutTo B d (i)).length cpv) SelMC.sel SubRC.sub)
  ·
   intro db
   refine Imp.unpk (fun v => ?_)
   simp only [List.cons_append, List.nil_append]
   refine Imp.own_is v (fun hs => ?_)
   obtain ⟨oav, cpv, rfl⟩ := hs
   repeat (first | with_reducible refine r_then ?_ | with_reducible refine r_in_normal ?_ | with_reducible refine r_sc_normal ?_)
   refine r_seq ?_
   refine r_region ?_
   first | refine o_q _ rfl rfl rfl (v_ld1 rfl Try.underlying22 rfl rfl rfl) ?_ | refine o_q _ rfl rfl rfl (v_lf1 rfl Try.underlying22 rfl rfl rfl) ?_ | refine o_q _ rfl rfl rfl (v_loadE1 rfl Try.underlying22 rfl rfl (by omega) rfl rfl) ?_
   refine o_st rfl inf22 rfl rfl rfl rfl rfl rfl rfl rfl ?_
   refine o_nil ?_
   repeat (first | with_reducible refine r_then ?_ | with_reducible refine r_in_normal ?_ | with_reducible refine r_sc_normal ?_)
   refine r_ret ?_
   repeat (first | with_reducible refine r_then_ret ?_ | with_reducible refine r_in_ret ?_ | with_reducible refine r_sc_ret ?_)
   refine Imp.own_to (.slice oav (cutTo B d ((allC B).length)).length cpv) ((goodC B).map (cutSp B d)) cutTo_all ?_
   refine Imp.settleS (.slice oav (cutTo B d ((allC B).length)).length cpv) encS_len (fun oz cz hz => ?_)
   refine m_rete [memo Try.prog 113 (okS B) mb] [rowD oz 2 encS ((goodC B).map (cutSp B d))] (Rd.one rfl (RdI.cell1 Try.underlying22 rfl rfl rfl)) ⟨(oz, cz), by rw [← hz], trivial, rfl, rfl⟩ SelMC.sel SubRC.sub
  ·
   intro db i c _
   exact Imp.noR
end Go.Proofs.Ytpndeonmmcaikaa.SodW

