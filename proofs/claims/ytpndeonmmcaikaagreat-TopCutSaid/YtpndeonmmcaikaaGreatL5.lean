/- Part 5 of 6 of what the proofs of this seat stand on: a small logic for walks, what the functions come to, and the walks themselves. No condition of its own. -/
import Derived.Test.YtpndeonmmcaikaaGreatL4
import Derived.Test.YtpndeonmmcaikaaGreatL2
import Derived.Test.YtpndeonmmcaikaaGreatL1
import Derived.WideKeyEntry
import Derived.Test.YtpndeonmmcaikaaGreatL3
set_option linter.unusedVariables false
set_option linter.unusedSimpArgs false
set_option linter.unusedSectionVars false
namespace Go.Proofs.YtpndeonmmcaikaaGreat.SodW
open Go.G Foot4 Sod2
set_option maxRecDepth 1000000
attribute [local irreducible] G.ParO G.Fin
variable (B : Bank) (po so lo : Option Addr) (pc sc lc : Nat)
variable (fb mb : Nat)
set_option maxHeartbeats 4000000 in
theorem within_v (a b c : Int) : FnV Tryz.prog 123 [i64 a, i64 b, i64 c] [] (.bool (decide (b ≤ a ∧ a ≤ c))) := by
 refine FnV.intro Tryz.call123 Tryz.func123 rfl Tryz.ntmps123 rfl ?_; intro W M Rf; refine r_seq (r_region ?_); refine q_as rfl rfl rfl rfl rfl ?_; refine o_nil (r_then (r_seq (r_region ?_))); refine q_mv rfl rfl rfl rfl rfl ?_; refine q_mv rfl rfl rfl rfl rfl ?_; refine o_test rfl rfl rfl (v_leq rfl rfl rfl) (fun h9 => ?_) (fun h9 => ?_)
 all_goals
  refine q_mv rfl rfl rfl rfl rfl ?_
  first | refine o_gn rfl rfl rfl rfl ?_ | refine o_g _ rfl rfl rfl rfl (v_move rfl rfl) ?_
  first | refine o_gn rfl rfl rfl rfl ?_ | refine o_g _ rfl rfl rfl rfl (v_move rfl rfl) ?_
  first | refine o_gn rfl rfl rfl rfl ?_ | refine o_gtest rfl rfl rfl rfl (v_leq rfl rfl rfl) (fun h13 => ?_) (fun h13 => ?_)
  all_goals
   first | refine o_q _ rfl rfl rfl (v_pick_t rfl rfl rfl) ?_ | refine o_q _ rfl rfl rfl (v_pick_f rfl rfl rfl) ?_
   refine q_as rfl rfl rfl rfl rfl ?_; refine o_nil (r_then ?_); refine r_ret ?_
   first | exact r_retv2 (Rd.tmp rfl rfl) (congrArg Value.bool (decide_eq_true (by omega)).symm) SelMC.sel SubRC.sub | exact r_retv2 (Rd.tmp rfl rfl) (congrArg Value.bool (decide_eq_false (by omega)).symm) SelMC.sel SubRC.sub
set_option maxHeartbeats 4000000 in
theorem isSpan_v (lo hi a b : Int) : FnV Tryz.prog 124 [.agg #[i64 lo, i64 hi], i64 a, i64 b] [] (.bool (decide (a ≤ lo ∧ lo ≤ hi ∧ hi ≤ b))) := by
 refine FnV.intro Tryz.call124 Tryz.func124 rfl Tryz.ntmps124 rfl ?_; intro W M Rf; refine r_seq (r_region ?_); refine o_boxA rfl rfl rfl rfl rfl (fun b3 => ?_); refine q_as rfl rfl rfl rfl rfl ?_; refine o_nil (r_then (r_seq (r_region ?_))); refine q_mv rfl rfl rfl rfl rfl ?_; refine o_q _ rfl rfl rfl (v_fieldAddr rfl Tryz.underlying43 inf3 rfl rfl rfl rfl) ?_; refine o_q _ rfl rfl rfl (v_ld1 rfl Tryz.underlying3 rfl rfl rfl) ?_; refine o_test rfl rfl rfl (v_leq rfl rfl rfl) (fun h10 => ?_) (fun h10 => ?_)
 all_goals
  refine q_mv rfl rfl rfl rfl rfl ?_
  first | refine o_gn rfl rfl rfl rfl ?_ | refine o_g _ rfl rfl rfl rfl (v_fieldAddr rfl Tryz.underlying43 inf3 rfl rfl rfl rfl) ?_
  first | refine o_gn rfl rfl rfl rfl ?_ | refine o_g _ rfl rfl rfl rfl (v_ld1 rfl Tryz.underlying3 rfl rfl rfl) ?_
  first | refine o_gn rfl rfl rfl rfl ?_ | refine o_g _ rfl rfl rfl rfl (v_fieldAddr rfl Tryz.underlying43 inf3 rfl rfl rfl rfl) ?_
  first | refine o_gn rfl rfl rfl rfl ?_ | refine o_g _ rfl rfl rfl rfl (v_ld1 rfl Tryz.underlying3 rfl rfl rfl) ?_
  first | refine o_gn rfl rfl rfl rfl ?_ | refine o_gtest rfl rfl rfl rfl (v_leq rfl rfl rfl) (fun h16 => ?_) (fun h16 => ?_)
  all_goals
   first | refine o_q _ rfl rfl rfl (v_pick_t rfl rfl rfl) ?_ | refine o_q _ rfl rfl rfl (v_pick_f rfl rfl rfl) ?_
   refine q_mv rfl rfl rfl rfl rfl ?_
   first | refine o_gn rfl rfl rfl rfl ?_ | refine o_g _ rfl rfl rfl rfl (v_fieldAddr rfl Tryz.underlying43 inf3 rfl rfl rfl rfl) ?_
   first | refine o_gn rfl rfl rfl rfl ?_ | refine o_g _ rfl rfl rfl rfl (v_ld1 rfl Tryz.underlying3 rfl rfl rfl) ?_
   first | refine o_gn rfl rfl rfl rfl ?_ | refine o_g _ rfl rfl rfl rfl (v_move rfl rfl) ?_
   first | refine o_gn rfl rfl rfl rfl ?_ | refine o_gtest rfl rfl rfl rfl (v_leq rfl rfl rfl) (fun h22 => ?_) (fun h22 => ?_)
   all_goals
    first | refine o_q _ rfl rfl rfl (v_pick_t rfl rfl rfl) ?_ | refine o_q _ rfl rfl rfl (v_pick_f rfl rfl rfl) ?_
    refine q_as rfl rfl rfl rfl rfl ?_; refine o_nil (r_then ?_); refine r_ret ?_
    first | exact r_retv2 (Rd.tmp rfl rfl) (congrArg Value.bool (decide_eq_true (by omega)).symm) SelMC.sel SubRC.sub | exact r_retv2 (Rd.tmp rfl rfl) (congrArg Value.bool (decide_eq_false (by omega)).symm) SelMC.sel SubRC.sub
set_option maxHeartbeats 4000000 in
theorem ask_t (e : Int) : FnV Tryz.prog 122 [.bool true, i64 e] [] (.tuple #[]) := by
 refine FnV.intro Tryz.call122 Tryz.func122 rfl Tryz.ntmps122 rfl ?_; intro W M Rf; refine r_seq (r_region ?_); refine q_mv rfl rfl rfl rfl rfl ?_; refine o_q _ rfl rfl rfl (v_not rfl rfl) ?_; refine o_nil (r_then ?_); refine r_cond rfl (fun hc5 => ?_) (fun hc5 => ?_)
 ·
  (exfalso; revert hc5; decide)
 ·
  refine r_skip ?_; exact r_endv (Rd.none rfl) SelMC.sel SubRC.sub
set_option maxHeartbeats 4000000 in
theorem ask_f (e : Int) : FnX Tryz.prog 122 [.bool false, i64 e] [] (.iface 208 (i64 e)) := by
 refine FnX.intro Tryz.call122 Tryz.func122 rfl Tryz.ntmps122 rfl ?_; intro W M Rf; refine r_seq (r_region ?_); refine q_mv rfl rfl rfl rfl rfl ?_; refine o_q _ rfl rfl rfl (v_not rfl rfl) ?_; refine o_nil (r_then ?_); refine r_cond rfl (fun hc5 => ?_) (fun hc5 => ?_)
 ·
  refine r_region ?_; refine q_mv rfl rfl rfl rfl rfl ?_; refine o_q _ rfl rfl rfl (v_makeIface rfl Tryz.underlying208 rfl rfl) ?_; refine o_panic rfl rfl rfl ?_; exact r_retx SelMC.sel SubRC.sub
 ·
  (exfalso; revert hc5; decide)
set_option maxHeartbeats 4000000 in
theorem open1_v (lo hi : Int) : FnV Tryz.prog 126 [.agg #[i64 lo, i64 hi]] [] (.bool (decide (¬ (0 ≤ lo ∧ lo ≤ hi ∧ hi ≤ 100)))) := by
 refine FnV.intro Tryz.call126 Tryz.func126 rfl Tryz.ntmps126 rfl ?_; intro W M Rf; refine r_seq (r_region ?_); refine o_boxA rfl rfl rfl rfl rfl (fun b1 => ?_); refine q_as rfl rfl rfl rfl rfl ?_; refine o_nil (r_then (r_seq (r_region ?_))); refine o_q _ rfl rfl rfl (v_ldW rfl Tryz.underlying43 rfl inf43 rfl rfl) ?_; refine o_q _ rfl rfl rfl (OpQ.fn (isSpan_v _ _ _ _) rfl rfl SubRC.sub) ?_; refine o_q _ rfl rfl rfl (v_not rfl rfl) ?_; refine q_as rfl rfl rfl rfl rfl ?_; refine o_nil (r_then ?_); refine r_ret ?_; exact r_retv2 (Rd.tmp rfl rfl) (congrArg Value.bool (decide_not (p := 0 ≤ lo ∧ lo ≤ hi ∧ hi ≤ 100)).symm) SelMC.sel SubRC.sub
set_option maxHeartbeats 4000000 in
theorem isCount_v (lo hi : Int) : FnV Tryz.prog 127 [.agg #[i64 lo, i64 hi]] [] (.bool (decide (0 ≤ lo ∧ lo ≤ hi ∧ hi ≤ 200))) := by
 refine FnV.intro Tryz.call127 Tryz.func127 rfl Tryz.ntmps127 rfl ?_; intro W M Rf; refine r_seq (r_region ?_); refine o_boxA rfl rfl rfl rfl rfl (fun b1 => ?_); refine q_as rfl rfl rfl rfl rfl ?_; refine o_nil (r_then (r_seq (r_region ?_))); refine o_q _ rfl rfl rfl (v_ldW rfl Tryz.underlying43 rfl inf43 rfl rfl) ?_; refine o_q _ rfl rfl rfl (OpQ.fn (isSpan_v _ _ _ _) rfl rfl SubRC.sub) ?_; refine q_as rfl rfl rfl rfl rfl ?_; refine o_nil (r_then ?_); refine r_ret ?_; exact r_retv2 (Rd.tmp rfl rfl) rfl SelMC.sel SubRC.sub
set_option maxHeartbeats 4000000 in
theorem isDay_v (x : Int) (hl2 : B.days.length ≤ 40) : FnV Tryz.prog 74 [pt fb 0, i64 x] [boxF fb 213 [.slice po B.spits.length pc, .slice so B.days.length sc, .slice lo B.logs.length lc, .map (some mb)], rowD po 3 encSp B.spits, rowD so 2 encS B.days, rowD lo 3 encLg B.logs] (.bool (decide (0 ≤ x ∧ x ≤ (B.days.length : Int) - 1))) := by
 refine FnV.intro Tryz.call74 Tryz.func74 rfl Tryz.ntmps74 rfl ?_; intro W M Rf; refine r_seq (r_region ?_); refine q_as rfl rfl rfl rfl rfl ?_; refine o_nil (r_then (r_seq (r_region ?_))); refine q_mv rfl rfl rfl rfl rfl ?_; refine q_mv rfl rfl rfl rfl rfl ?_; refine o_q _ rfl rfl rfl (v_nilCheck rfl rfl) ?_; refine o_q _ rfl rfl rfl (v_fieldAddr rfl Tryz.underlying213 inf62 rfl rfl rfl rfl) ?_; refine o_q _ rfl rfl rfl (v_fieldAddr rfl Tryz.underlying62 inf59 rfl rfl rfl rfl) ?_; refine o_q _ rfl rfl rfl (v_lf1 rfl Tryz.underlying59 rfl rfl rfl) ?_; refine o_q _ rfl rfl rfl (v_len rfl rfl Tryz.underlying59 rfl) ?_; refine o_q _ rfl rfl rfl (v_sub rfl rfl rfl (by omega)) ?_; refine o_q _ rfl rfl rfl (OpQ.fn (within_v _ _ _) rfl rfl SubRC.sub) ?_; refine q_as rfl rfl rfl rfl rfl ?_; refine o_nil (r_then ?_); refine r_ret ?_; exact r_retv2 (Rd.tmp rfl rfl) rfl SelMC.sel SubRC.sub
set_option maxHeartbeats 4000000 in
theorem strokes_v (c : T3) (s : Int) (hg : GoodS B) (hc : InC c) (hs : 0 ≤ s ∧ s ≤ 100000) : FnV Tryz.prog 236 [pt fb 0, v3 c, i64 s] [boxF fb 213 [.slice po B.spits.length pc, .slice so B.days.length sc, .slice lo B.logs.length lc, .map (some mb)], rowD po 3 encSp B.spits, rowD so 2 encS B.days, rowD lo 3 encLg B.logs] (i64 (strokes B c s)) := by
 refine FnV.intro Tryz.call236 Tryz.func236 rfl Tryz.ntmps236 rfl ?_; intro W M Rf; refine r_seq (r_region ?_); refine o_boxA rfl rfl rfl rfl rfl (fun b4 => ?_); refine q_as rfl rfl rfl rfl rfl ?_; refine o_nil (r_then (r_seq ?_)); refine r_seq ?_; have h3 := hg.1; refine r_region ?_; refine q_mv rfl rfl rfl rfl rfl ?_; refine o_q _ rfl rfl rfl (v_nilCheck rfl rfl) ?_; refine o_q _ rfl rfl rfl (v_fieldAddr rfl Tryz.underlying213 inf62 rfl rfl rfl rfl) ?_; refine o_q _ rfl rfl rfl (v_fieldAddr rfl Tryz.underlying62 inf58 rfl rfl rfl rfl) ?_; refine o_q _ rfl rfl rfl (v_lf1 rfl Tryz.underlying58 rfl rfl rfl) ?_; refine o_q _ rfl rfl rfl (v_len rfl rfl Tryz.underlying58 rfl) ?_; refine q_mv rfl rfl rfl rfl rfl ?_; refine o_nil (r_then ?_); refine r_block ?_; refine r_loop (ι := Nat) (fun k => k ≤ B.spits.length) (fun k => [(0, pt fb 0), (2, i64 (strS B c s k).2), (4, pt b4 0), (6, i64 (strS B c s k).1), (14, .slice po B.spits.length pc), (15, i64 B.spits.length), (16, i64 k)]) (fun k => bx b4 216 [i64 c.a, i64 c.b, i64 c.c] :: M) (fun k => [boxF fb 213 [.slice po B.spits.length pc, .slice so B.days.length sc, .slice lo B.logs.length lc, .map (some mb)], rowD po 3 encSp B.spits, rowD so 2 encS B.days, rowD lo 3 encLg B.logs] ++ Rf) (fun k => B.spits.length - k) 0 ?_ ?_ ?_
 ·
  exact r_here (by repeat (first | exact FSub.nil | refine FSub.cons rfl ?_)) SelMC.sel SubRC.sub
 ·
  omega
 ·
  rintro k hI0; refine r_seq (r_region ?_); refine o_q _ rfl rfl rfl (v_lss rfl rfl rfl) ?_; refine o_nil (r_then (r_seq ?_)); refine r_condd rfl (fun hc17 => ?_) (fun hc17 => ?_)
  ·
   refine r_skip (r_then ?_); refine r_seq (r_block ?_); refine r_seq (r_region ?_); refine q_mv rfl rfl rfl rfl rfl ?_; refine o_q _ rfl rfl rfl (v_indexAddrSn rfl Tryz.underlying58 inf135 rfl rfl rfl (by omega) rfl) ?_; refine o_q _ rfl rfl rfl (v_loadEN rfl Tryz.underlying135 rfl inf135 rfl (by omega) rfl rfl rfl) ?_; refine o_alloc rfl inf135 rfl rfl rfl rfl rfl (fun b8 => ?_); refine q_as rfl rfl rfl rfl rfl ?_; refine o_st rfl inf135 rfl rfl rfl rfl rfl rfl rfl rfl ?_; refine o_nil (r_then (r_seq ?_)); refine Imp.box_to b8 [i64 (B.spits.getD k default).sods, i64 (B.spits.getD k default).lo, i64 (B.spits.getD k default).hi] rfl ?_; have h3 := hg.1; have hsp := hg.bnd.spit k; have hst := strS_bd hg.bnd hc hs.1 k (by omega); have hck := hc k (by omega); have hmb := mul_bd (a := min (strS B c s k).2 (B.spits.getD k default).sods) (b := c.at k) (A := 30) (by omega) (by omega) hck.1 hck.2; refine r_region ?_; refine q_mv rfl rfl rfl rfl rfl ?_; refine o_q _ rfl rfl rfl (v_fieldAddr rfl Tryz.underlying135 inf3 rfl rfl rfl rfl) ?_; refine o_q _ rfl rfl rfl (v_ld1 rfl Tryz.underlying3 rfl rfl rfl) ?_; refine o_q _ rfl rfl rfl (v_min2 rfl rfl rfl) ?_; refine q_as rfl rfl rfl rfl rfl ?_; refine o_nil (r_then ?_); refine r_region ?_; (iterate 3 refine q_mv rfl rfl rfl rfl rfl ?_); refine o_q _ rfl rfl rfl (v_fieldAddr rfl Tryz.underlying216 inf203 rfl rfl rfl rfl) ?_; refine o_q _ rfl rfl rfl (v_indexAddrAn rfl Tryz.underlying203 inf3 rfl rfl (by omega)) ?_; refine o_q _ rfl rfl rfl (v_cast (v := i64 (c.at k)) (v_ld1 rfl Tryz.underlying3 rfl rfl (t3_atn (by omega))) rfl) ?_; refine o_q _ rfl rfl rfl (v_cast (v := i64 (min (strS B c s k).2 (B.spits.getD k default).sods * c.at k)) (v_mul rfl rfl rfl (by omega)) rfl) ?_; refine o_q _ rfl rfl rfl (v_add rfl rfl rfl (by omega)) ?_; refine q_mv rfl rfl rfl rfl rfl ?_; refine q_mv rfl rfl rfl rfl rfl ?_; refine o_q _ rfl rfl rfl (v_sub rfl rfl rfl (by omega)) ?_; refine q_as rfl rfl rfl rfl rfl ?_; refine q_as rfl rfl rfl rfl rfl ?_; refine o_nil ?_; refine r_in_normal ?_; refine r_then ?_; refine r_region ?_; refine o_q _ rfl rfl rfl (v_add rfl rfl rfl (by omega)) ?_; refine q_mv rfl rfl rfl rfl rfl ?_; refine o_nil (r_then ?_); refine r_next (k + 1) ?_ ?_ ?_
   ·
    exact r_here (by repeat (first | exact FSub.nil | refine FSub.cons rfl ?_)) SelMC.sel SubRC.sub
   ·
    omega
   ·
    omega
  ·
   refine r_exit ?_; refine r_then_exit ?_; refine r_then_exit ?_; refine r_in_here ?_; refine r_then (r_seq ?_); refine r_seq (r_region ?_); refine q_mv rfl rfl rfl rfl rfl ?_; refine o_q _ rfl rfl rfl (v_gtr rfl rfl rfl) ?_; refine o_nil (r_then ?_); refine r_condd rfl (fun hc38 => ?_) (fun hc38 => ?_)
   ·
    refine r_seq (r_region ?_); refine q_as rfl rfl rfl rfl rfl ?_; refine o_nil (r_then ?_); refine r_ret ?_; (with_reducible refine r_then_ret ?_)
    (have hk9 : k = B.spits.length := (by omega); subst hk9; exact r_retv2 (Rd.tmp rfl rfl) (congrArg (Value.int .i64) (by unfold strokes; rw [if_pos (by assumption)])) SelMC.sel SubRC.sub)
   ·
    refine r_skip (r_then (r_seq (r_region ?_))); refine q_mv rfl rfl rfl rfl rfl ?_; refine q_as rfl rfl rfl rfl rfl ?_; refine o_nil (r_then ?_); refine r_ret ?_
    (have hk9 : k = B.spits.length := (by omega); subst hk9; exact r_retv2 (Rd.tmp rfl rfl) (congrArg (Value.int .i64) (by unfold strokes; rw [if_neg (by assumption)])) SelMC.sel SubRC.sub)
set_option maxHeartbeats 4000000 in
theorem cut_v (c : T3) (m : Int) (hg : GoodS B) (hc : InC c) (hc1 : ∀ k, k < B.spits.length → 1 ≤ c.at k) (hm : 0 ≤ m ∧ m ≤ 100000000) : FnV Tryz.prog 131 [pt fb 0, v3 c, i64 m] [boxF fb 213 [.slice po B.spits.length pc, .slice so B.days.length sc, .slice lo B.logs.length lc, .map (some mb)], rowD po 3 encSp B.spits, rowD so 2 encS B.days, rowD lo 3 encLg B.logs] (i64 (sodsOf B c m)) := by
 refine FnV.intro Tryz.call131 Tryz.func131 rfl Tryz.ntmps131 rfl ?_; intro W M Rf; refine r_seq (r_region ?_); refine o_boxA rfl rfl rfl rfl rfl (fun b4 => ?_); refine q_as rfl rfl rfl rfl rfl ?_; refine o_nil (r_then ?_); refine r_scope ?_; refine r_seq ?_; refine r_label ?_; refine r_then (r_seq ?_); refine r_seq ?_; have h3 := hg.1; refine r_region ?_; refine q_mv rfl rfl rfl rfl rfl ?_; refine o_q _ rfl rfl rfl (v_nilCheck rfl rfl) ?_; refine o_q _ rfl rfl rfl (v_fieldAddr rfl Tryz.underlying213 inf62 rfl rfl rfl rfl) ?_; refine o_q _ rfl rfl rfl (v_fieldAddr rfl Tryz.underlying62 inf58 rfl rfl rfl rfl) ?_; refine o_q _ rfl rfl rfl (v_lf1 rfl Tryz.underlying58 rfl rfl rfl) ?_; refine o_q _ rfl rfl rfl (v_len rfl rfl Tryz.underlying58 rfl) ?_; refine q_mv rfl rfl rfl rfl rfl ?_; refine o_nil (r_then ?_); refine r_block ?_; refine r_loop (ι := Nat × Int × Int) (fun gh => gh.1 ≤ B.spits.length ∧ 0 ≤ gh.2.1 ∧ gh.2.1 ≤ 30 * gh.1 ∧ 0 ≤ gh.2.2 ∧ gh.2.2 ≤ m ∧ sodsOf B c m = gh.2.1 + cutK B c gh.1 gh.2.2) (fun gh => [(0, pt fb 0), (2, i64 gh.2.2), (4, pt b4 0), (6, i64 gh.2.1), (13, .slice po B.spits.length pc), (14, i64 B.spits.length), (15, i64 gh.1)]) (fun gh => bx b4 216 [i64 c.a, i64 c.b, i64 c.c] :: M) (fun gh => [boxF fb 213 [.slice po B.spits.length pc, .slice so B.days.length sc, .slice lo B.logs.length lc, .map (some mb)], rowD po 3 encSp B.spits, rowD so 2 encS B.days, rowD lo 3 encLg B.logs] ++ Rf) (fun gh => B.spits.length - gh.1) (0, 0, m) ?_ ?_ ?_
 ·
  exact r_here (by repeat (first | exact FSub.nil | refine FSub.cons rfl ?_)) SelMC.sel SubRC.sub
 ·
  exact ⟨Nat.zero_le _, Int.le_refl _, Int.le_refl _, hm.1, Int.le_refl _, by show sodsOf _ _ _ = 0 + cutK _ _ 0 m; rw [cutK_0]; omega⟩
 ·
  rintro ⟨k, x, y⟩ hI0; dsimp only at hI0; dsimp only; refine r_seq (r_region ?_); refine o_q _ rfl rfl rfl (v_lss rfl rfl rfl) ?_; refine o_nil (r_then (r_seq ?_)); refine r_condd rfl (fun hc16 => ?_) (fun hc16 => ?_)
  ·
   refine r_skip (r_then ?_); refine r_seq (r_block ?_); refine r_seq (r_region ?_); refine q_mv rfl rfl rfl rfl rfl ?_; refine o_q _ rfl rfl rfl (v_indexAddrSn rfl Tryz.underlying58 inf135 rfl rfl rfl (by omega) rfl) ?_; refine o_q _ rfl rfl rfl (v_loadEN rfl Tryz.underlying135 rfl inf135 rfl (by omega) rfl rfl rfl) ?_; refine o_alloc rfl inf135 rfl rfl rfl rfl rfl (fun b8 => ?_); refine q_as rfl rfl rfl rfl rfl ?_; refine o_st rfl inf135 rfl rfl rfl rfl rfl rfl rfl rfl ?_; refine o_nil (r_then (r_seq ?_)); refine Imp.box_to b8 [i64 (B.spits.getD k default).sods, i64 (B.spits.getD k default).lo, i64 (B.spits.getD k default).hi] rfl ?_; have hsp := hg.2.2.2.1 k (by omega); have hck := hc k (by omega); have hck1 := hc1 k (by omega); refine r_region ?_; refine o_q _ rfl rfl rfl (v_fieldAddr rfl Tryz.underlying135 inf3 rfl rfl rfl rfl) ?_; refine o_q _ rfl rfl rfl (v_ld1 rfl Tryz.underlying3 rfl rfl rfl) ?_; refine q_mv rfl rfl rfl rfl rfl ?_; refine o_nil (r_then ?_); refine r_block ?_; refine r_loop (ι := Nat × Int) (fun gh => (gh.1 : Int) ≤ (B.spits.getD k default).sods ∧ dec y (c.at k) gh.1 = gh.2 ∧ 0 ≤ gh.2 ∧ gh.2 ≤ y) (fun gh => [(0, pt fb 0), (2, i64 gh.2), (4, pt b4 0), (6, i64 (x + gh.1)), (7, i64 k), (13, .slice po B.spits.length pc), (14, i64 B.spits.length), (15, i64 k), (21, i64 (B.spits.getD k default).sods), (22, i64 gh.1)]) (fun gh => bx b4 216 [i64 c.a, i64 c.b, i64 c.c] :: M) (fun gh => [boxF fb 213 [.slice po B.spits.length pc, .slice so B.days.length sc, .slice lo B.logs.length lc, .map (some mb)], rowD po 3 encSp B.spits, rowD so 2 encS B.days, rowD lo 3 encLg B.logs] ++ Rf) (fun gh => ((B.spits.getD k default).sods - gh.1).toNat) (0, y) ?_ ?_ ?_
   ·
    exact r_here (by repeat (first | exact FSub.nil | refine FSub.cons rfl ?_ | refine FSub.cons2 rfl (congrArg (Value.int .i64) (by show _ = _ + ((0 : Nat) : Int); omega)) ?_)) SelMC.sel SubRC.sub
   ·
    exact ⟨by show ((0 : Nat) : Int) ≤ _; omega, rfl, by omega, Int.le_refl _⟩
   ·
    rintro ⟨j, z⟩ hI1; dsimp only at hI1; dsimp only; refine r_seq (r_region ?_); refine o_q _ rfl rfl rfl (v_lss rfl rfl rfl) ?_; refine o_nil (r_then (r_seq ?_)); refine r_condd rfl (fun hc23 => ?_) (fun hc23 => ?_)
    ·
     refine r_skip (r_then ?_); refine r_seq (r_block ?_); refine r_seq ?_; refine r_seq (r_region ?_); refine q_mv rfl rfl rfl rfl rfl ?_; refine q_mv rfl rfl rfl rfl rfl ?_; refine o_q _ rfl rfl rfl (v_fieldAddr rfl Tryz.underlying216 inf203 rfl rfl rfl rfl) ?_; refine o_q _ rfl rfl rfl (v_indexAddrAn rfl Tryz.underlying203 inf3 rfl rfl (by omega)) ?_; refine o_q _ rfl rfl rfl (v_cast (v := i64 (c.at k)) (v_ld1 rfl Tryz.underlying3 rfl rfl (t3_atn (by omega))) rfl) ?_; refine o_q _ rfl rfl rfl (v_lss rfl rfl rfl) ?_; refine o_nil (r_then ?_); refine r_condd rfl (fun hc29 => ?_) (fun hc29 => ?_)
     ·
      refine r_exit ?_; refine r_then_exit ?_; (refine r_in_past (by decide) ?_); refine r_then_exit ?_; refine r_then_exit ?_; (refine r_in_past (by decide) ?_); (refine r_in_past (by decide) ?_); refine r_then_exit ?_; refine r_then_exit ?_; refine r_in_here ?_; refine r_then (r_seq (r_region ?_)); refine q_mv rfl rfl rfl rfl rfl ?_; refine q_as rfl rfl rfl rfl rfl ?_; refine o_nil (r_then ?_); refine r_ret ?_; (with_reducible refine r_sc_ret ?_)
      (have hst := cutK_stop (B := B) (c := c) (k := k) (m := y) (j := j) (by omega) (by omega) (by omega) (by omega) (by omega); exact r_retv2 (Rd.tmp rfl rfl) (congrArg (Value.int .i64) (by omega)) SelMC.sel SubRC.sub)
     ·
      refine r_skip (r_then ?_); refine r_region_q mixed (by kernel_rfl) ?_; refine q_q _ rfl rfl rfl (v_move rfl rfl) ?_; refine q_q _ rfl rfl rfl (v_add rfl rfl rfl (by omega)) ?_; refine q_q _ rfl rfl rfl (v_move rfl rfl) ?_; refine q_q _ rfl rfl rfl (v_move rfl rfl) ?_; refine q_q _ rfl rfl rfl (v_fieldAddr rfl Tryz.underlying216 inf203 rfl rfl rfl rfl) ?_; refine q_q _ rfl rfl rfl (v_indexAddrAn rfl Tryz.underlying203 inf3 rfl rfl (by omega)) ?_; refine q_q _ rfl rfl rfl (v_cast (v := i64 (c.at k)) (v_ld1 rfl Tryz.underlying3 rfl rfl (t3_atn (by omega))) rfl) ?_; refine q_q _ rfl rfl rfl (v_sub rfl rfl rfl (by omega)) ?_; refine q_q _ rfl rfl rfl (v_assign rfl rfl) ?_; refine q_q _ rfl rfl rfl (v_assign rfl rfl) ?_; refine q_nil ?_; refine r_in_normal ?_; refine r_then ?_; refine r_region ?_; refine o_q _ rfl rfl rfl (v_add rfl rfl rfl (by omega)) ?_; refine q_mv rfl rfl rfl rfl rfl ?_; refine o_nil (r_then ?_); exact r_next ((j + 1, z - c.at k)) (by exact r_here (by repeat (first | exact FSub.nil | refine FSub.cons rfl ?_ | refine FSub.cons2 rfl (congrArg (Value.int .i64) (by push_cast; omega)) ?_)) SelMC.sel SubRC.sub) (by dsimp only; exact ⟨by push_cast; omega, by rw [dec, hI1.2.1], by omega, by omega⟩) (by show (_ : Int).toNat < (_ : Int).toNat; push_cast; omega)
    ·
     refine r_exit ?_; refine r_then_exit ?_; refine r_then_exit ?_; refine r_in_here ?_; refine r_in_normal ?_; refine r_then ?_; refine r_region ?_; refine o_q _ rfl rfl rfl (v_add rfl rfl rfl (by omega)) ?_; refine q_mv rfl rfl rfl rfl rfl ?_; refine o_nil (r_then ?_); exact r_next ((k + 1, x + j, z)) (by exact r_here (by repeat (first | exact FSub.nil | refine FSub.cons rfl ?_)) SelMC.sel SubRC.sub) (by dsimp only; have hon := cutK_on (B := B) (c := c) (k := k) (m := y) (j := j) (by omega) (by omega) (by omega) (by omega); rw [hI1.2.1] at hon; exact ⟨by omega, by omega, by push_cast; omega, by omega, by omega, by omega⟩) (by show _ - (_ + 1) < _ - _; omega)
  ·
   refine r_exit ?_; refine r_then_exit ?_; refine r_then_exit ?_; refine r_in_here ?_; refine r_then (r_seq (r_region ?_)); refine q_mv rfl rfl rfl rfl rfl ?_; refine q_as rfl rfl rfl rfl rfl ?_; refine o_nil (r_then ?_); refine r_ret ?_; (with_reducible refine r_sc_ret ?_)
   (have hk9 : k = B.spits.length := (by omega); subst hk9; rw [cutK_end (Nat.le_refl _)] at hI0; exact r_retv2 (Rd.tmp rfl rfl) (congrArg (Value.int .i64) (by omega)) SelMC.sel SubRC.sub)
set_option maxHeartbeats 4000000 in
theorem later_v (m d : Span) (hm : SmS m) (hd : SmS d) : FnV Tryz.prog 190 [vS m, vS d] [] (vS ⟨m.lo + d.lo, m.hi + d.hi⟩) := by
 refine FnV.intro Tryz.call190 Tryz.func190 rfl Tryz.ntmps190 rfl ?_; intro W M Rf; refine r_seq ?_; unfold SmS at hm hd; refine r_region ?_; refine o_boxA rfl rfl rfl rfl rfl (fun b2 => ?_); refine o_boxA rfl rfl rfl rfl rfl (fun b3 => ?_); refine o_alloc rfl inf218 rfl rfl rfl rfl rfl (fun b4 => ?_); refine o_nil (r_then (r_seq (r_region ?_))); refine o_q _ rfl rfl rfl (v_fieldAddr rfl Tryz.underlying218 inf43 rfl rfl rfl rfl) ?_; refine o_q _ rfl rfl rfl (v_fieldAddr rfl Tryz.underlying43 inf3 rfl rfl rfl rfl) ?_; refine o_q _ rfl rfl rfl (v_ld1 rfl Tryz.underlying3 rfl rfl rfl) ?_; refine o_q _ rfl rfl rfl (v_fieldAddr rfl Tryz.underlying43 inf3 rfl rfl rfl rfl) ?_; refine o_q _ rfl rfl rfl (v_ld1 rfl Tryz.underlying3 rfl rfl rfl) ?_; refine o_q _ rfl rfl rfl (v_add rfl rfl rfl (by omega)) ?_; refine o_q _ rfl rfl rfl (v_fieldAddr rfl Tryz.underlying218 inf43 rfl rfl rfl rfl) ?_; refine o_q _ rfl rfl rfl (v_fieldAddr rfl Tryz.underlying43 inf3 rfl rfl rfl rfl) ?_; refine o_q _ rfl rfl rfl (v_ld1 rfl Tryz.underlying3 rfl rfl rfl) ?_; refine o_q _ rfl rfl rfl (v_fieldAddr rfl Tryz.underlying43 inf3 rfl rfl rfl rfl) ?_; refine o_q _ rfl rfl rfl (v_ld1 rfl Tryz.underlying3 rfl rfl rfl) ?_; refine o_q _ rfl rfl rfl (v_add rfl rfl rfl (by omega)) ?_; refine o_q _ rfl rfl rfl (v_bS rfl Tryz.underlying43 inf43 plt43 rfl rfl rfl (by repeat (first | exact trivial | refine ⟨rfl, ?_⟩)) (by rfl)) ?_; refine o_q _ rfl rfl rfl (v_bS rfl Tryz.underlying218 inf218 plt218 rfl rfl rfl (by repeat (first | exact trivial | refine ⟨rfl, ?_⟩)) (by rfl)) ?_; refine o_st rfl inf218 rfl rfl rfl rfl rfl rfl rfl rfl ?_; refine o_nil (r_then ?_); refine r_ret ?_; exact r_retv2 (Rd.one rfl (RdI.cellW Tryz.underlying218 rfl inf218 rfl rfl)) rfl SelMC.sel SubRC.sub
set_option maxHeartbeats 4000000 in
theorem earlier_v (m d : Span) (hm : SmS m) (hd : SmS d) : FnV Tryz.prog 193 [vS m, vS d] [] (vS ⟨m.lo - d.hi, m.hi - d.lo⟩) := by
 refine FnV.intro Tryz.call193 Tryz.func193 rfl Tryz.ntmps193 rfl ?_; intro W M Rf; refine r_seq ?_; unfold SmS at hm hd; refine r_region ?_; refine o_boxA rfl rfl rfl rfl rfl (fun b2 => ?_); refine o_boxA rfl rfl rfl rfl rfl (fun b3 => ?_); refine o_alloc rfl inf218 rfl rfl rfl rfl rfl (fun b4 => ?_); refine o_nil (r_then (r_seq (r_region ?_))); refine o_q _ rfl rfl rfl (v_fieldAddr rfl Tryz.underlying218 inf43 rfl rfl rfl rfl) ?_; refine o_q _ rfl rfl rfl (v_fieldAddr rfl Tryz.underlying43 inf3 rfl rfl rfl rfl) ?_; refine o_q _ rfl rfl rfl (v_ld1 rfl Tryz.underlying3 rfl rfl rfl) ?_; refine o_q _ rfl rfl rfl (v_fieldAddr rfl Tryz.underlying43 inf3 rfl rfl rfl rfl) ?_; refine o_q _ rfl rfl rfl (v_ld1 rfl Tryz.underlying3 rfl rfl rfl) ?_; refine o_q _ rfl rfl rfl (v_sub rfl rfl rfl (by omega)) ?_; refine o_q _ rfl rfl rfl (v_fieldAddr rfl Tryz.underlying218 inf43 rfl rfl rfl rfl) ?_; refine o_q _ rfl rfl rfl (v_fieldAddr rfl Tryz.underlying43 inf3 rfl rfl rfl rfl) ?_; refine o_q _ rfl rfl rfl (v_ld1 rfl Tryz.underlying3 rfl rfl rfl) ?_; refine o_q _ rfl rfl rfl (v_fieldAddr rfl Tryz.underlying43 inf3 rfl rfl rfl rfl) ?_; refine o_q _ rfl rfl rfl (v_ld1 rfl Tryz.underlying3 rfl rfl rfl) ?_; refine o_q _ rfl rfl rfl (v_sub rfl rfl rfl (by omega)) ?_; refine o_q _ rfl rfl rfl (v_bS rfl Tryz.underlying43 inf43 plt43 rfl rfl rfl (by repeat (first | exact trivial | refine ⟨rfl, ?_⟩)) (by rfl)) ?_; refine o_q _ rfl rfl rfl (v_bS rfl Tryz.underlying218 inf218 plt218 rfl rfl rfl (by repeat (first | exact trivial | refine ⟨rfl, ?_⟩)) (by rfl)) ?_; refine o_st rfl inf218 rfl rfl rfl rfl rfl rfl rfl rfl ?_; refine o_nil (r_then ?_); refine r_ret ?_; exact r_retv2 (Rd.one rfl (RdI.cellW Tryz.underlying218 rfl inf218 rfl rfl)) rfl SelMC.sel SubRC.sub
set_option maxHeartbeats 4000000 in
theorem some_v (m : Span) : FnV Tryz.prog 192 [vS m] [] (.bool (decide (m.lo ≤ m.hi))) := by
 refine FnV.intro Tryz.call192 Tryz.func192 rfl Tryz.ntmps192 rfl ?_; intro W M Rf; refine r_seq (r_region ?_); refine o_boxA rfl rfl rfl rfl rfl (fun b1 => ?_); refine q_as rfl rfl rfl rfl rfl ?_; refine o_nil (r_then (r_seq (r_region ?_))); refine o_q _ rfl rfl rfl (v_fieldAddr rfl Tryz.underlying218 inf43 rfl rfl rfl rfl) ?_; refine o_q _ rfl rfl rfl (v_fieldAddr rfl Tryz.underlying43 inf3 rfl rfl rfl rfl) ?_; refine o_q _ rfl rfl rfl (v_ld1 rfl Tryz.underlying3 rfl rfl rfl) ?_; refine o_q _ rfl rfl rfl (v_fieldAddr rfl Tryz.underlying218 inf43 rfl rfl rfl rfl) ?_; refine o_q _ rfl rfl rfl (v_fieldAddr rfl Tryz.underlying43 inf3 rfl rfl rfl rfl) ?_; refine o_q _ rfl rfl rfl (v_ld1 rfl Tryz.underlying3 rfl rfl rfl) ?_; refine o_q _ rfl rfl rfl (v_leq rfl rfl rfl) ?_; refine q_as rfl rfl rfl rfl rfl ?_; refine o_nil (r_then ?_); refine r_ret ?_; exact r_retv2 (Rd.tmp rfl rfl) rfl SelMC.sel SubRC.sub
theorem Imp.row2 {W : World} {n : Nat} {D : List Deferred} {L : Tm} {M : List Res} {R : List Fact} {cb : Nat} {T : TypeId} {x y : Span} {X : Act → World → Prop} [hb : HasBoxF cb R T [i64 x.lo, i64 x.hi, i64 y.lo, i64 y.hi]] (h : Imp W n D L M (rowD (some ⟨cb, 0, none⟩) 2 encS [x, y] :: rowD (some ⟨cb, 2, none⟩) 2 encS [y] :: R) X) : Imp W n D L M R X := by
  intro a w h1 h2 h3
  have h4 := h3.derive (ψ := rowD (some ⟨cb, 2, none⟩) 2 encS [y]) fun V hV => .inr ⟨cb, 2, #[i64 x.lo, i64 x.hi, i64 y.lo, i64 y.hi], T, (0, 0), rfl, hV _ hb.mem, fun i j hi hj => by
    obtain rfl : i = 0 := by simpa using hi
    obtain rfl | rfl : j = 0 ∨ j = 1 := by omega
    all_goals rfl⟩
  have h5 := h4.derive (ψ := rowD (some ⟨cb, 0, none⟩) 2 encS [x, y]) fun V hV => .inr ⟨cb, 0, #[i64 x.lo, i64 x.hi, i64 y.lo, i64 y.hi], T, (0, 0), rfl, hV _ (List.mem_cons_of_mem _ hb.mem), fun i j hi hj => by
    have hi2 : i < 2 := by simpa using hi
    obtain rfl | rfl : i = 0 ∨ i = 1 := by omega
    all_goals
      obtain rfl | rfl : j = 0 ∨ j = 1 := by omega
      all_goals rfl⟩
  exact h a w h1 h2 h5
set_option maxHeartbeats 4000000 in
theorem common_v (x y : Span) (cb : Nat) : FnV Tryz.prog 194 [.slice (some ⟨cb, 0, none⟩) 2 2] [boxF cb 218 [i64 x.lo, i64 x.hi, i64 y.lo, i64 y.hi]] (vS (comS x y)) := by
 refine FnV.intro Tryz.call194 Tryz.func194 rfl Tryz.ntmps194 rfl ?_; intro W M Rf; refine r_seq ?_; refine Imp.row2 (cb := cb) (x := x) (y := y) ?_; refine r_region ?_; refine o_alloc rfl inf218 rfl rfl rfl rfl rfl (fun b2 => ?_); refine o_nil (r_then (r_seq (r_region ?_))); refine q_mv rfl rfl rfl rfl rfl ?_; refine o_q _ rfl rfl rfl (v_indexAddrSn rfl Tryz.underlying350 inf218 rfl rfl rfl (by decide) rfl) ?_; refine o_q _ rfl rfl rfl (v_loadEN rfl Tryz.underlying218 rfl inf218 rfl (by show 0 < 2; omega) rfl rfl rfl) ?_; refine o_alloc rfl inf218 rfl rfl rfl rfl rfl (fun b3 => ?_); refine o_st rfl inf218 rfl rfl rfl rfl rfl rfl rfl rfl ?_; refine o_nil (r_then (r_seq ?_)); refine r_seq (r_region ?_); refine q_mv rfl rfl rfl rfl rfl ?_; refine o_q _ rfl rfl rfl (v_sliceL (h := 1) rfl Tryz.underlying350 inf218 rfl rfl (by decide) (by decide)) ?_; refine o_q _ rfl rfl rfl (v_len rfl rfl Tryz.underlying350 rfl) ?_; refine q_mv rfl rfl rfl rfl rfl ?_; refine o_nil (r_then ?_); refine r_block ?_; refine r_loop (ι := Nat) (fun k => k ≤ 1) (fun k => [(2, pt b2 0), (3, pt b3 0), (10, .slice (some ⟨cb, 2, none⟩) 1 1), (11, i64 1), (12, i64 k)]) (fun k => bx b2 218 [i64 0, i64 0] :: bx b3 218 (if k = 0 then [i64 x.lo, i64 x.hi] else [i64 (comS x y).lo, i64 (comS x y).hi]) :: M) (fun k => [rowD (some ⟨cb, 0, none⟩) 2 encS [x, y], rowD (some ⟨cb, 2, none⟩) 2 encS [y], boxF cb 218 [i64 x.lo, i64 x.hi, i64 y.lo, i64 y.hi]] ++ Rf) (fun k => 1 - k) 0 ?_ ?_ ?_
 ·
  refine Imp.box_to b2 [i64 0, i64 0] rfl ?_; refine Imp.box_to b3 (if (0 : Nat) = 0 then [i64 x.lo, i64 x.hi] else [i64 (comS x y).lo, i64 (comS x y).hi]) rfl ?_; exact r_here (by repeat (first | exact FSub.nil | refine FSub.cons rfl ?_)) SelMC.sel SubRC.sub
 ·
  omega
 ·
  rintro k hI0; refine r_seq (r_region ?_); refine o_q _ rfl rfl rfl (v_lss rfl rfl rfl) ?_; refine o_nil (r_then (r_seq ?_)); refine r_condd rfl (fun hc13 => ?_) (fun hc13 => ?_)
  ·
   refine r_skip (r_then ?_); refine r_seq (r_block ?_); refine r_seq (r_region ?_); refine o_q _ rfl rfl rfl (v_indexAddrSn rfl Tryz.underlying350 inf218 rfl rfl rfl (by omega) rfl) ?_; refine o_q _ rfl rfl rfl (v_loadEN rfl Tryz.underlying218 rfl inf218 rfl (by show k < 1; omega) rfl rfl rfl) ?_; refine o_alloc rfl inf218 rfl rfl rfl rfl rfl (fun b5 => ?_); refine o_st rfl inf218 rfl rfl rfl rfl rfl rfl rfl rfl ?_; refine o_nil (r_then ?_); obtain rfl : k = 0 := by omega
   refine Imp.box_to b3 [i64 x.lo, i64 x.hi] rfl ?_; refine Imp.box_to b5 [i64 y.lo, i64 y.hi] rfl ?_; refine r_region ?_; refine o_q _ rfl rfl rfl (v_fieldAddr rfl Tryz.underlying218 inf43 rfl rfl rfl rfl) ?_; refine o_q _ rfl rfl rfl (v_fieldAddr rfl Tryz.underlying43 inf3 rfl rfl rfl rfl) ?_; refine o_q _ rfl rfl rfl (v_ld1 rfl Tryz.underlying3 rfl rfl rfl) ?_; refine o_q _ rfl rfl rfl (v_fieldAddr rfl Tryz.underlying218 inf43 rfl rfl rfl rfl) ?_; refine o_q _ rfl rfl rfl (v_fieldAddr rfl Tryz.underlying43 inf3 rfl rfl rfl rfl) ?_; refine o_q _ rfl rfl rfl (v_ld1 rfl Tryz.underlying3 rfl rfl rfl) ?_; refine o_q _ rfl rfl rfl (v_max2 rfl rfl rfl) ?_; refine o_q _ rfl rfl rfl (v_fieldAddr rfl Tryz.underlying218 inf43 rfl rfl rfl rfl) ?_; refine o_q _ rfl rfl rfl (v_fieldAddr rfl Tryz.underlying43 inf3 rfl rfl rfl rfl) ?_; refine o_q _ rfl rfl rfl (v_ld1 rfl Tryz.underlying3 rfl rfl rfl) ?_; refine o_q _ rfl rfl rfl (v_fieldAddr rfl Tryz.underlying218 inf43 rfl rfl rfl rfl) ?_; refine o_q _ rfl rfl rfl (v_fieldAddr rfl Tryz.underlying43 inf3 rfl rfl rfl rfl) ?_; refine o_q _ rfl rfl rfl (v_ld1 rfl Tryz.underlying3 rfl rfl rfl) ?_; refine o_q _ rfl rfl rfl (v_min2 rfl rfl rfl) ?_; refine o_q _ rfl rfl rfl (v_bS rfl Tryz.underlying43 inf43 plt43 rfl rfl rfl (by repeat (first | exact trivial | refine ⟨rfl, ?_⟩)) (by rfl)) ?_; refine o_q _ rfl rfl rfl (v_bS rfl Tryz.underlying218 inf218 plt218 rfl rfl rfl (by repeat (first | exact trivial | refine ⟨rfl, ?_⟩)) (by rfl)) ?_; refine o_st rfl inf218 rfl rfl rfl rfl rfl rfl rfl rfl ?_; refine o_nil ?_; refine r_in_normal ?_; refine r_then ?_; refine r_region ?_; refine o_q _ rfl rfl rfl (v_add rfl rfl rfl (by omega)) ?_; refine q_mv rfl rfl rfl rfl rfl ?_; refine o_nil (r_then ?_); refine r_next (0 + 1) ?_ ?_ ?_
   ·
    refine Imp.box_to b3 (if 0 + 1 = 0 then [i64 x.lo, i64 x.hi] else [i64 (comS x y).lo, i64 (comS x y).hi]) (by rfl) ?_; exact r_here (by repeat (first | exact FSub.nil | refine FSub.cons rfl ?_)) SelMC.sel SubRC.sub
   ·
    omega
   ·
    omega
  ·
   refine r_exit ?_; refine r_then_exit ?_; refine r_then_exit ?_; refine r_in_here ?_; refine r_then (r_seq ?_); obtain rfl : k = 1 := by omega
   refine Imp.box_to b3 [i64 (comS x y).lo, i64 (comS x y).hi] rfl ?_; refine r_region ?_; refine o_q _ rfl rfl rfl (v_ldW rfl Tryz.underlying218 rfl inf218 rfl rfl) ?_; refine o_st rfl inf218 rfl rfl rfl rfl rfl rfl rfl rfl ?_; refine o_nil (r_then ?_); refine r_ret ?_; exact r_retv2 (Rd.one rfl (RdI.cellW Tryz.underlying218 rfl inf218 rfl rfl)) rfl SelMC.sel SubRC.sub
set_option maxHeartbeats 4000000 in
theorem ofDay_v (m : Span) (c : T3) : FnV Tryz.prog 234 [vS m, pt fb 0, v3 c] [] (vS m) := by
 refine FnV.intro Tryz.call234 Tryz.func234 rfl Tryz.ntmps234 rfl ?_; intro W M Rf; refine r_seq (r_region ?_); refine o_boxA rfl rfl rfl rfl rfl (fun b3 => ?_); refine o_boxA rfl rfl rfl rfl rfl (fun b5 => ?_); refine o_alloc rfl inf218 rfl rfl rfl rfl rfl (fun b6 => ?_); refine o_nil (r_then (r_seq (r_region ?_))); refine o_q _ rfl rfl rfl (v_fieldAddr rfl Tryz.underlying344 inf218 rfl rfl rfl rfl) ?_; refine o_q _ rfl rfl rfl (v_ldW rfl Tryz.underlying218 rfl inf218 rfl rfl) ?_; refine o_st rfl inf218 rfl rfl rfl rfl rfl rfl rfl rfl ?_; refine o_nil (r_then ?_); refine r_ret ?_; exact r_retv2 (Rd.one rfl (RdI.cellW Tryz.underlying218 rfl inf218 rfl rfl)) rfl SelMC.sel SubRC.sub
theorem dayM : HasM Tryz.prog 344 "bogworks/sod.of" 234 := HasM.mk' inf344 (by kernel_rfl) Tryz.underlying344 rfl
theorem countedM : HasM Tryz.prog 348 "bogworks/sod.of" 235 := HasM.mk' inf348 (by kernel_rfl) Tryz.underlying348 rfl
set_option maxHeartbeats 4000000 in
theorem ofCounted_v (m : Span) (l : LogS) (c : T3) (hg : GoodS B) (hc : InC c) (hl : 0 ≤ l.lo ∧ l.lo ≤ 200 ∧ 0 ≤ l.hi ∧ l.hi ≤ 200) : FnV Tryz.prog 235 [.agg #[i64 m.lo, i64 m.hi, i64 l.lo, i64 l.hi], pt fb 0, v3 c] [boxF fb 213 [.slice po B.spits.length pc, .slice so B.days.length sc, .slice lo B.logs.length lc, .map (some mb)], rowD po 3 encSp B.spits, rowD so 2 encS B.days, rowD lo 3 encLg B.logs] (vS (one B c l m)) := by
 refine FnV.intro Tryz.call235 Tryz.func235 rfl Tryz.ntmps235 rfl ?_; intro W M Rf; refine r_seq (r_region ?_); refine o_boxA rfl rfl rfl rfl rfl (fun b3 => ?_); refine o_boxA rfl rfl rfl rfl rfl (fun b5 => ?_); refine o_alloc rfl inf218 rfl rfl rfl rfl rfl (fun b6 => ?_); refine o_nil (r_then (r_seq ?_)); refine r_region_q mixed (by kernel_rfl) ?_; refine q_q _ rfl rfl rfl (v_move rfl rfl) ?_; refine q_q _ rfl rfl rfl (v_ldW rfl Tryz.underlying216 rfl inf216 rfl rfl) ?_; refine q_q _ rfl rfl rfl (v_fieldAddr rfl Tryz.underlying348 inf43 rfl rfl rfl rfl) ?_; refine q_q _ rfl rfl rfl (v_fieldAddr rfl Tryz.underlying43 inf3 rfl rfl rfl rfl) ?_; refine q_q _ rfl rfl rfl (v_ld1 rfl Tryz.underlying3 rfl rfl rfl) ?_; refine q_q _ rfl rfl rfl (OpQ.fn (strokes_v B po so lo pc sc lc fb mb c _ hg hc (by omega)) rfl rfl SubRC.sub) ?_; refine q_q _ rfl rfl rfl (v_move rfl rfl) ?_; refine q_q _ rfl rfl rfl (v_ldW rfl Tryz.underlying216 rfl inf216 rfl rfl) ?_; refine q_q _ rfl rfl rfl (v_fieldAddr rfl Tryz.underlying348 inf43 rfl rfl rfl rfl) ?_; refine q_q _ rfl rfl rfl (v_fieldAddr rfl Tryz.underlying43 inf3 rfl rfl rfl rfl) ?_; refine q_q _ rfl rfl rfl (v_ld1 rfl Tryz.underlying3 rfl rfl rfl) ?_; refine q_q _ rfl rfl rfl (v_add rfl rfl rfl (by omega)) ?_; refine q_q _ rfl rfl rfl (OpQ.fn (strokes_v B po so lo pc sc lc fb mb c _ hg hc (by omega)) rfl rfl SubRC.sub) ?_; refine q_q _ rfl rfl rfl (v_assign rfl rfl) ?_; refine q_q _ rfl rfl rfl (v_assign rfl rfl) ?_; refine q_nil ?_; refine r_then (r_seq ?_); have hq := strokes_bd (c := c) hg hc (s := l.hi + 1) (by omega); refine r_region ?_; refine o_q _ rfl rfl rfl (v_fieldAddr rfl Tryz.underlying348 inf344 rfl rfl rfl rfl) ?_; refine o_q _ rfl rfl rfl (v_ldN (us := [i64 m.lo, i64 m.hi]) rfl Tryz.underlying344 rfl inf344 rfl rfl rfl) ?_; refine q_mv rfl rfl rfl rfl rfl ?_; refine o_q _ rfl rfl rfl (v_ldW rfl Tryz.underlying216 rfl inf216 rfl rfl) ?_; refine o_q _ rfl rfl rfl (OpQ.fn (ofDay_v fb m c) rfl rfl SubRC.sub) ?_; refine q_mv rfl rfl rfl rfl rfl ?_; refine q_mv rfl rfl rfl rfl rfl ?_; refine o_q _ rfl rfl rfl (v_sub rfl rfl rfl (by omega)) ?_; refine o_q _ rfl rfl rfl (v_bS rfl Tryz.underlying43 inf43 plt43 rfl rfl rfl (by repeat (first | exact trivial | refine ⟨rfl, ?_⟩)) (by rfl)) ?_; refine o_q _ rfl rfl rfl (v_bS rfl Tryz.underlying218 inf218 plt218 rfl rfl rfl (by repeat (first | exact trivial | refine ⟨rfl, ?_⟩)) (by rfl)) ?_; refine o_lit rfl Tryz.underlying350 inf218 rfl rfl rfl rfl rfl rfl rfl rfl (by repeat (first | exact trivial | refine ⟨rfl, ?_⟩)) (by rfl) (fun b32 => ?_); refine Imp.sealB b32 ?_; refine o_q _ rfl rfl rfl (OpQ.fn (common_v m ⟨strokes B c l.lo, strokes B c (l.hi + 1) - 1⟩ b32) rfl rfl SubRC.sub) ?_; refine o_st rfl inf218 rfl rfl rfl rfl rfl rfl rfl rfl ?_; refine o_nil (r_then ?_); refine r_ret ?_; exact r_retv2 (Rd.one rfl (RdI.cellW Tryz.underlying218 rfl inf218 rfl rfl)) rfl SelMC.sel SubRC.sub
end Go.Proofs.YtpndeonmmcaikaaGreat.SodW

namespace Go.Proofs.YtpndeonmmcaikaaGreat.SodW
open Go.G Foot4 Sod2
set_option maxRecDepth 1000000
attribute [local irreducible] G.ParO G.Fin
attribute [local irreducible] strokes strS cntTo nowF bk logD someTo upTo sodsOf cutL one
variable (B : Bank) (po so lo : Option Addr) (pc sc lc : Nat)
variable (fb mb : Nat)
set_option maxHeartbeats 4000000 in
theorem counts_v (c : T3) (d : Nat) (m : Span) (hg : GoodS B) (hc : InC c) : FnV Tryz.prog 191 [pt fb 0, v3 c, i64 d, vS m] [boxF fb 213 [.slice po B.spits.length pc, .slice so B.days.length sc, .slice lo B.logs.length lc, .map (some mb)], rowD po 3 encSp B.spits, rowD so 2 encS B.days, rowD lo 3 encLg B.logs] (vS (cntTo B c d m B.logs.length)) := by
 refine FnV.intro Tryz.call191 Tryz.func191 rfl Tryz.ntmps191 rfl ?_; intro W M Rf; refine r_seq (r_region ?_); refine o_boxA rfl rfl rfl rfl rfl (fun b5 => ?_); refine o_boxA rfl rfl rfl rfl rfl (fun b7 => ?_); refine o_alloc rfl inf218 rfl rfl rfl rfl rfl (fun b8 => ?_); refine o_nil (r_then (r_seq ?_)); refine r_seq ?_; have hl3 := hg.2.2.1; refine r_region ?_; refine q_mv rfl rfl rfl rfl rfl ?_; refine o_q _ rfl rfl rfl (v_nilCheck rfl rfl) ?_; refine o_q _ rfl rfl rfl (v_fieldAddr rfl Tryz.underlying213 inf62 rfl rfl rfl rfl) ?_; refine o_q _ rfl rfl rfl (v_fieldAddr rfl Tryz.underlying62 inf60 rfl rfl rfl rfl) ?_; refine o_q _ rfl rfl rfl (v_lf1 rfl Tryz.underlying60 rfl rfl rfl) ?_; refine o_q _ rfl rfl rfl (v_len rfl rfl Tryz.underlying60 rfl) ?_; refine q_mv rfl rfl rfl rfl rfl ?_; refine o_nil (r_then ?_); refine r_block ?_; refine r_loop (ι := Nat) (fun k => k ≤ B.logs.length) (fun k => [(0, pt fb 0), (2, i64 d), (5, pt b5 0), (7, pt b7 0), (8, pt b8 0), (16, .slice lo B.logs.length lc), (17, i64 B.logs.length), (18, i64 k)]) (fun k => bx b5 216 [i64 c.a, i64 c.b, i64 c.c] :: bx b7 218 [i64 (cntTo B c d m k).lo, i64 (cntTo B c d m k).hi] :: bx b8 218 [i64 0, i64 0] :: M) (fun k => [boxF fb 213 [.slice po B.spits.length pc, .slice so B.days.length sc, .slice lo B.logs.length lc, .map (some mb)], rowD po 3 encSp B.spits, rowD so 2 encS B.days, rowD lo 3 encLg B.logs] ++ Rf) (fun k => B.logs.length - k) 0 ?_ ?_ ?_
 ·
  refine Imp.box_to b8 [i64 0, i64 0] rfl ?_; refine Imp.box_to b7 [i64 (cntTo B c d m 0).lo, i64 (cntTo B c d m 0).hi] (by rw [cntTo]) ?_; exact r_here (by repeat (first | exact FSub.nil | refine FSub.cons rfl ?_)) SelMC.sel SubRC.sub
 ·
  omega
 ·
  rintro k hI0; refine r_seq (r_region ?_); refine o_q _ rfl rfl rfl (v_lss rfl rfl rfl) ?_; refine o_nil (r_then (r_seq ?_)); refine r_condd rfl (fun hc19 => ?_) (fun hc19 => ?_)
  ·
   refine r_skip (r_then ?_); refine r_seq (r_block ?_); refine r_seq (r_region ?_); refine o_q _ rfl rfl rfl (v_indexAddrSn rfl Tryz.underlying60 inf138 rfl rfl rfl (by omega) rfl) ?_; refine o_q _ rfl rfl rfl (v_loadEN rfl Tryz.underlying138 rfl inf138 rfl (by omega) rfl rfl rfl) ?_; refine o_alloc rfl inf138 rfl rfl rfl rfl rfl (fun b10 => ?_); refine o_st rfl inf138 rfl rfl rfl rfl rfl rfl rfl rfl ?_; refine o_nil (r_then (r_seq (r_region ?_))); refine o_q _ rfl rfl rfl (v_ldW rfl Tryz.underlying218 rfl inf218 rfl rfl) ?_; refine o_q _ rfl rfl rfl (v_bS rfl Tryz.underlying344 inf344 plt344 rfl rfl rfl (by repeat (first | exact trivial | refine ⟨rfl, ?_⟩)) (by rfl)) ?_; refine o_q _ rfl rfl rfl (v_makeIface rfl Tryz.underlying344 rfl rfl) ?_; refine q_as rfl rfl rfl rfl rfl ?_; refine o_nil (r_then (r_seq ?_)); refine r_seq ?_; refine Imp.box_to b10 [i64 (B.logs.getD k default).day, i64 (B.logs.getD k default).lo, i64 (B.logs.getD k default).hi] rfl ?_; have hlk := hg.bnd.log k; have hlk2 := hlk.2.2; refine r_region ?_; refine o_q _ rfl rfl rfl (v_fieldAddr rfl Tryz.underlying138 inf3 rfl rfl rfl rfl) ?_; refine o_q _ rfl rfl rfl (v_ld1 rfl Tryz.underlying3 rfl rfl rfl) ?_; refine q_mv rfl rfl rfl rfl rfl ?_; refine o_q _ rfl rfl rfl (v_eql rfl rfl rfl) ?_; refine o_nil (r_then ?_); refine r_condd rfl (fun hc28 => ?_) (fun hc28 => ?_)
   ·
    refine r_region ?_; refine o_q _ rfl rfl rfl (v_ldW rfl Tryz.underlying218 rfl inf218 rfl rfl) ?_; refine o_q _ rfl rfl rfl (v_bS rfl Tryz.underlying344 inf344 plt344 rfl rfl rfl (by repeat (first | exact trivial | refine ⟨rfl, ?_⟩)) (by rfl)) ?_; refine o_q _ rfl rfl rfl (v_fieldAddr rfl Tryz.underlying138 inf43 rfl rfl rfl rfl) ?_; refine o_q _ rfl rfl rfl (v_ldN rfl Tryz.underlying43 rfl inf43 rfl rfl rfl) ?_; refine o_q _ rfl rfl rfl (v_bS rfl Tryz.underlying348 inf348 plt348 rfl rfl rfl (by repeat (first | exact trivial | refine ⟨rfl, ?_⟩)) (by rfl)) ?_; refine o_q _ rfl rfl rfl (v_makeIface rfl Tryz.underlying348 rfl rfl) ?_; refine q_as rfl rfl rfl rfl rfl ?_; refine o_nil (r_then ?_); refine r_region ?_; refine q_mv rfl rfl rfl rfl rfl ?_; refine q_mv rfl rfl rfl rfl rfl ?_; refine o_q _ rfl rfl rfl (v_ldW rfl Tryz.underlying216 rfl inf216 rfl rfl) ?_; refine o_q _ rfl rfl rfl (OpQ.invoke (ofCounted_v B po so lo pc sc lc fb mb (cntTo B c d m k) (B.logs.getD k default) c hg hc hlk2) (countedM) rfl rfl rfl rfl SubRC.sub) ?_; refine o_st rfl inf218 rfl rfl rfl rfl rfl rfl rfl rfl ?_; refine o_nil ?_; refine r_in_normal ?_; refine r_then ?_; refine r_region ?_; refine o_q _ rfl rfl rfl (v_add rfl rfl rfl (by omega)) ?_; refine q_mv rfl rfl rfl rfl rfl ?_; refine o_nil (r_then ?_); refine r_next (k + 1) ?_ ?_ ?_
    ·
     (refine Imp.box_to b7 [i64 (cntTo B c d m (k + 1)).lo, i64 (cntTo B c d m (k + 1)).hi] (by rw [cntTo_y (by assumption)]; rfl) ?_; exact r_here (by repeat (first | exact FSub.nil | refine FSub.cons rfl ?_)) SelMC.sel SubRC.sub)
    ·
     omega
    ·
     omega
   ·
    refine r_skip (r_then ?_); refine r_region ?_; refine q_mv rfl rfl rfl rfl rfl ?_; refine q_mv rfl rfl rfl rfl rfl ?_; refine o_q _ rfl rfl rfl (v_ldW rfl Tryz.underlying216 rfl inf216 rfl rfl) ?_; refine o_q _ rfl rfl rfl (OpQ.invoke (ofDay_v fb (cntTo B c d m k) c) (dayM) rfl rfl rfl rfl SubRC.sub) ?_; refine o_st rfl inf218 rfl rfl rfl rfl rfl rfl rfl rfl ?_; refine o_nil ?_; refine r_in_normal ?_; refine r_then ?_; refine r_region ?_; refine o_q _ rfl rfl rfl (v_add rfl rfl rfl (by omega)) ?_; refine q_mv rfl rfl rfl rfl rfl ?_; refine o_nil (r_then ?_); refine r_next (k + 1) ?_ ?_ ?_
    ·
     (refine Imp.box_to b7 [i64 (cntTo B c d m (k + 1)).lo, i64 (cntTo B c d m (k + 1)).hi] (by rw [cntTo_n (by assumption)]; rfl) ?_; exact r_here (by repeat (first | exact FSub.nil | refine FSub.cons rfl ?_)) SelMC.sel SubRC.sub)
    ·
     omega
    ·
     omega
  ·
   refine r_exit ?_; refine r_then_exit ?_; refine r_then_exit ?_; refine r_in_here ?_; refine r_then (r_seq (r_region ?_)); refine o_q _ rfl rfl rfl (v_ldW rfl Tryz.underlying218 rfl inf218 rfl rfl) ?_; refine o_st rfl inf218 rfl rfl rfl rfl rfl rfl rfl rfl ?_; refine o_nil (r_then ?_); refine r_ret ?_; obtain rfl : k = B.logs.length := by omega
   refine Imp.box_to b8 [i64 (cntTo B c d m B.logs.length).lo, i64 (cntTo B c d m B.logs.length).hi] rfl ?_; exact r_retv2 (Rd.one rfl (RdI.cellW Tryz.underlying218 rfl inf218 rfl rfl)) rfl SelMC.sel SubRC.sub
theorem laid0 : laidOutB Tryz.prog = true := by kernel_rfl
theorem keyLawC : WideMaps.KeyLaw Tryz.prog 216 := deep_law_gate laid0 (by decide +kernel) (by decide +kernel) (by kernel_rfl) (by kernel_rfl)
theorem kl3 (d : Nat) {x : Int} (h : 0 ≤ x ∧ x ≤ 1000) : Tryz.prog.keyLits (d + 1) 3 [i64 x] = some [.int .i64 x] := by
  have hw : (Lit.int .i64 x).wf = true := by
    have m1 : IntKind.i64.min = -9223372036854775808 := rfl
    have m2 : IntKind.i64.max = 9223372036854775807 := rfl
    simp only [Lit.wf]
    simp
    omega
  unfold Program.keyLits
  rw [Tryz.underlying3]
  simp [hw]
theorem key_of (c : T3) (hc : InC c) : ∃ l, keyOf Tryz.prog 216 (v3 c) = some l := by
  have h1 := Tryz.underlying216
  unfold keyOf
  rw [h1]
  have h2 : Tryz.prog.keyType 216 = true := by kernel_rfl
  have h3 : (v3 c).formed Tryz.prog 216 = true := by kernel_rfl
  have cA : Tryz.prog.cellsOf 216 = 3 := by kernel_rfl
  have cB : Tryz.prog.cellsOf 203 = 3 := by kernel_rfl
  have c3 : Tryz.prog.cellsOf 3 = 1 := by kernel_rfl
  have ha : 0 ≤ c.a ∧ c.a ≤ 1000 := by have : 0 ≤ c.a ∧ c.a ≤ 6 := hc 0 (by omega); omega
  have hb : 0 ≤ c.b ∧ c.b ≤ 1000 := by have : 0 ≤ c.b ∧ c.b ≤ 6 := hc 1 (by omega); omega
  have hd : 0 ≤ c.c ∧ c.c ≤ 1000 := by have : 0 ≤ c.c ∧ c.c ≤ 6 := hc 2 (by omega); omega
  have eB : ∀ m, Tryz.prog.keyLits (m + 2) 203 [i64 c.a, i64 c.b, i64 c.c] = some [.int .i64 c.a, .int .i64 c.b, .int .i64 c.c] := by
    intro m
    unfold Program.keyLits
    rw [Tryz.underlying203]
    simp [cB, c3, List.range, List.range.loop, kl3, ha, hb, hd]
  have eA : Tryz.prog.keyLits (Tryz.prog.types.size + 1) 216 (v3 c).cells.toList = some [.int .i64 c.a, .int .i64 c.b, .int .i64 c.c] := by
    have hsz : Tryz.prog.types.size + 1 = 379 + 3 := by kernel_rfl
    rw [hsz]
    unfold Program.keyLits
    rw [Tryz.underlying216]
    simp [cA, cB, c3, Value.cells, eB]
  rw [eA, h2, h3]
  exact ⟨_, rfl⟩
set_option maxHeartbeats 4000000 in
theorem log_t (c : T3) (hg : GoodS B) (hc : InC c) : FnC Tryz.prog 161 [pt fb 0, v3 c] (memoH Tryz.prog 216 (okS B) mb (v3 c) true) [boxF fb 213 [.slice po B.spits.length pc, .slice so B.days.length sc, .slice lo B.logs.length lc, .map (some mb)], rowD po 3 encSp B.spits, rowD so 2 encS B.days, rowD lo 3 encLg B.logs] (vL B c) (memo Tryz.prog 216 (okS B) mb) := by
 obtain ⟨kl, hkl⟩ := key_of c hc; refine FnC.intro Tryz.call161 Tryz.func161 rfl Tryz.ntmps161 rfl ?_; intro W M Rf; refine r_seq (r_region ?_); refine o_boxA rfl rfl rfl rfl rfl (fun b3 => ?_); refine o_alloc (zs := L13 zF false) rfl inf221 rfl (by kernel_rfl) rfl rfl rfl (fun b4 => ?_); refine o_nil (r_then (r_seq ?_)); refine r_seq ?_; refine r_par' 11 mixed (by kernel_rfl) (by rfl) ?_; refine p_q _ rfl rfl rfl (fun _ _ => v_move rfl rfl) ?_; refine p_q _ rfl rfl rfl (fun _ _ => v_nilCheck rfl rfl) ?_; refine p_q _ rfl rfl rfl (fun _ _ => v_fieldAddr rfl Tryz.underlying213 inf211 rfl rfl rfl rfl) ?_; refine p_q _ rfl rfl rfl (fun _ _ => v_lf1 rfl Tryz.underlying211 rfl rfl rfl) ?_; refine p_q _ rfl rfl rfl (fun _ _ => v_ldW rfl Tryz.underlying216 rfl inf216 rfl rfl) ?_; refine p_q _ rfl rfl rfl (fun _ _ => v_cast (v := .tuple #[vL B c, .bool true]) (v_lookH (okS B) true (vL B c) keyLawC hkl rfl Tryz.underlying211 inf221 (z := .agg (L13 zF false).toArray) (by kernel_rfl) (fun _ u hu => hu c rfl) rfl rfl) (rfl)) ?_; refine p_q _ rfl rfl rfl (fun _ _ => v_move rfl rfl) ?_; refine p_q _ rfl rfl rfl (fun _ _ => v_extract rfl rfl rfl) ?_; refine p_q _ rfl rfl rfl (fun _ _ => v_extract rfl rfl rfl) ?_; refine p_allocL (zs := L13 zF false) 10 (L13 (logD B c) (decide (canC B c))) rfl inf221 rfl (by kernel_rfl) rfl rfl rfl ?_; refine p_acc (by simp only [List.nil_append, List.cons_append]; rfl) ?_; refine p_stl 9 rfl rfl rfl inf221 rfl rfl rfl (by kernel_rfl) (fun _ => rfl) rfl (rfl) (rfl) (rfl) ?_; refine p_nil2 (by simp only [List.nil_append, List.cons_append]; rfl) rfl ?_ (by kernel_rfl); (iterate 9 refine f_q rfl ?_); refine f_allocL rfl (fun b5 => ?_); refine f_s rfl ?_; refine f_nil ?_; refine q_as rfl rfl rfl rfl rfl ?_; refine o_nil (r_then (r_seq (r_region ?_))); refine q_mv rfl rfl rfl rfl rfl ?_; refine o_nil (r_then ?_); refine r_cond rfl (fun hc22 => ?_) (fun hc22 => ?_)
 ·
  refine r_seq (r_region ?_); refine o_q _ rfl rfl rfl (v_ldW rfl Tryz.underlying221 rfl inf221 rfl rfl) ?_; refine o_st (us := L13 (logD B c) (decide (canC B c))) rfl inf221 rfl rfl rfl rfl rfl rfl rfl (by rfl) ?_; refine o_nil (r_then ?_); refine r_ret ?_; (with_reducible refine r_then_ret ?_); refine Imp.box_to b4 (L13 (logD B c) (decide (canC B c))) rfl ?_; refine Imp.memo_join (P := Tryz.prog) (k := 216) (ok := okS B) (b := mb) (kv := v3 c) (has := true) ?_; exact r_rete [memo Tryz.prog 216 (okS B) mb] [] (Rd.one rfl (RdI.cellW Tryz.underlying221 rfl inf221 rfl rfl)) ⟨rfl, rfl, rfl⟩ SelMC.sel SubRC.sub
 ·
  (exfalso; revert hc22; decide)
theorem day_sm {B : Bank} (hg : GoodS B) (d : Nat) : SmS (B.days.getD d default) := by have := hg.bnd.day d; unfold SmS; omega
theorem last_sm {B : Bank} {c : T3} (hg : GoodS B) (hc : InC c) (d : Nat) : SmS (lastF B c d) := by
  have h2 := hg.2.1
  have := bk_bd hg hc (B.days.length - 1 - d) (by omega)
  unfold SmS lastF; omega
set_option maxHeartbeats 4000000 in
theorem log_f (c : T3) (hg : GoodS B) (hc : InC c) : FnC Tryz.prog 161 [pt fb 0, v3 c] (memoH Tryz.prog 216 (okS B) mb (v3 c) false) [boxF fb 213 [.slice po B.spits.length pc, .slice so B.days.length sc, .slice lo B.logs.length lc, .map (some mb)], rowD po 3 encSp B.spits, rowD so 2 encS B.days, rowD lo 3 encLg B.logs] (vL B c) (memo Tryz.prog 216 (okS B) mb) := by
 obtain ⟨kl, hkl⟩ := key_of c hc; refine FnC.intro Tryz.call161 Tryz.func161 rfl Tryz.ntmps161 rfl ?_; intro W M Rf; refine r_seq (r_region ?_); refine o_boxA rfl rfl rfl rfl rfl (fun b3 => ?_); refine o_alloc (zs := L13 zF false) rfl inf221 rfl (by kernel_rfl) rfl rfl rfl (fun b4 => ?_); refine o_nil (r_then (r_seq ?_)); refine r_seq ?_; have h2 := hg.2.1; have h3 := hg.1; refine r_par' 11 mixed (by kernel_rfl) (by rfl) ?_; refine p_q _ rfl rfl rfl (fun _ _ => v_move rfl rfl) ?_; refine p_q _ rfl rfl rfl (fun _ _ => v_nilCheck rfl rfl) ?_; refine p_q _ rfl rfl rfl (fun _ _ => v_fieldAddr rfl Tryz.underlying213 inf211 rfl rfl rfl rfl) ?_; refine p_q _ rfl rfl rfl (fun _ _ => v_lf1 rfl Tryz.underlying211 rfl rfl rfl) ?_; refine p_q _ rfl rfl rfl (fun _ _ => v_ldW rfl Tryz.underlying216 rfl inf216 rfl rfl) ?_; refine p_q _ rfl rfl rfl (fun _ _ => v_cast (v := .tuple #[.agg (L13 zF false).toArray, .bool false]) (v_lookH (okS B) false (vL B c) keyLawC hkl rfl Tryz.underlying211 inf221 (z := .agg (L13 zF false).toArray) (by kernel_rfl) (fun _ u hu => hu c rfl) rfl rfl) (rfl)) ?_; refine p_q _ rfl rfl rfl (fun _ _ => v_move rfl rfl) ?_; refine p_q _ rfl rfl rfl (fun _ _ => v_extract rfl rfl rfl) ?_; refine p_q _ rfl rfl rfl (fun _ _ => v_extract rfl rfl rfl) ?_; refine p_allocL (zs := L13 zF false) 10 (L13 zF false) rfl inf221 rfl (by kernel_rfl) rfl rfl rfl ?_; refine p_acc (by simp only [List.nil_append, List.cons_append]; rfl) ?_; refine p_stl 9 rfl rfl rfl inf221 rfl rfl rfl (by kernel_rfl) (fun _ => rfl) rfl (rfl) (rfl) (rfl) ?_; refine p_nil2 (by simp only [List.nil_append, List.cons_append]; rfl) rfl ?_ (by kernel_rfl); (iterate 9 refine f_q rfl ?_); refine f_allocL rfl (fun b5 => ?_); refine f_s rfl ?_; refine f_nil ?_; refine q_as rfl rfl rfl rfl rfl ?_; refine o_nil (r_then (r_seq (r_region ?_))); refine q_mv rfl rfl rfl rfl rfl ?_; refine o_nil (r_then ?_); refine r_cond rfl (fun hc22 => ?_) (fun hc22 => ?_)
 ·
  (exfalso; revert hc22; decide)
 ·
  refine r_skip (r_then (r_seq (r_region ?_))); refine o_q _ rfl rfl rfl (v_bS0 rfl Tryz.underlying218 inf218 plt218 rfl rfl) ?_; refine o_alloc rfl inf218 rfl rfl rfl rfl rfl (fun b7 => ?_); refine o_st rfl inf218 rfl rfl rfl rfl rfl rfl rfl rfl ?_; refine o_nil (r_then (r_seq ?_)); refine r_seq (r_region ?_); refine q_mv rfl rfl rfl rfl rfl ?_; refine o_q _ rfl rfl rfl (v_nilCheck rfl rfl) ?_; refine o_q _ rfl rfl rfl (v_fieldAddr rfl Tryz.underlying213 inf62 rfl rfl rfl rfl) ?_; refine o_q _ rfl rfl rfl (v_fieldAddr rfl Tryz.underlying62 inf59 rfl rfl rfl rfl) ?_; refine o_q _ rfl rfl rfl (v_lf1 rfl Tryz.underlying59 rfl rfl rfl) ?_; refine o_q _ rfl rfl rfl (v_len rfl rfl Tryz.underlying59 rfl) ?_; refine q_mv rfl rfl rfl rfl rfl ?_; refine o_nil (r_then ?_); refine r_block ?_; refine r_loop (ι := Nat) (fun d => d ≤ B.days.length ∧ someTo B c d) (fun d => [(0, pt fb 0), (3, pt b3 0), (4, pt b4 0), (7, pt b7 0), (29, .slice so B.days.length sc), (30, i64 B.days.length), (31, i64 d)]) (fun d => bx b3 216 [i64 c.a, i64 c.b, i64 c.c] :: bx b4 221 (L13 (fwdD B c d) false) :: bx b7 218 [i64 (nowF B c d).lo, i64 (nowF B c d).hi] :: memoH Tryz.prog 216 (okS B) mb (v3 c) false :: M) (fun d => [boxF fb 213 [.slice po B.spits.length pc, .slice so B.days.length sc, .slice lo B.logs.length lc, .map (some mb)], rowD po 3 encSp B.spits, rowD so 2 encS B.days, rowD lo 3 encLg B.logs] ++ Rf) (fun d => B.days.length - d) 0 ?_ ?_ ?_
  ·
   refine Imp.box_to b4 (L13 (fwdD B c 0) false) (by rw [← fwd_0]) ?_; refine Imp.box_to b7 [i64 (nowF B c 0).lo, i64 (nowF B c 0).hi] (by rw [nowF]; rfl) ?_; exact r_here (by repeat (first | exact FSub.nil | refine FSub.cons rfl ?_)) SelMC.sel SubRC.sub
  ·
   exact ⟨Nat.zero_le _, some_0⟩
  ·
   rintro d hI0; refine r_seq (r_region ?_); refine o_q _ rfl rfl rfl (v_lss rfl rfl rfl) ?_; refine o_nil (r_then (r_seq ?_)); refine r_condd rfl (fun hc32 => ?_) (fun hc32 => ?_)
   ·
    refine r_skip (r_then ?_); refine r_seq (r_block ?_); refine r_seq (r_region ?_); refine q_mv rfl rfl rfl rfl rfl ?_; refine o_q _ rfl rfl rfl (v_indexAddrSn rfl Tryz.underlying59 inf43 rfl rfl rfl (by omega) rfl) ?_; refine o_q _ rfl rfl rfl (v_loadEN rfl Tryz.underlying43 rfl inf43 rfl (by omega) rfl rfl rfl) ?_; refine o_alloc rfl inf43 rfl rfl rfl rfl rfl (fun b9 => ?_); refine q_as rfl rfl rfl rfl rfl ?_; refine o_st rfl inf43 rfl rfl rfl rfl rfl rfl rfl rfl ?_; refine o_nil (r_then (r_seq ?_)); refine Imp.box_to b9 [i64 (B.days.getD d default).lo, i64 (B.days.getD d default).hi] rfl ?_; refine r_region ?_; refine o_q _ rfl rfl rfl (v_ldW rfl Tryz.underlying218 rfl inf218 rfl rfl) ?_; refine o_q _ rfl rfl rfl (v_makeFunc rfl rfl rfl) ?_; refine q_as rfl rfl rfl rfl rfl ?_; refine o_nil (r_then (r_seq ?_)); refine r_par' 6 mixed (by kernel_rfl) (by rfl) ?_; refine p_q _ rfl rfl rfl (fun _ _ => v_move rfl rfl) ?_; refine p_q _ rfl rfl rfl (fun _ _ => v_ldW rfl Tryz.underlying216 rfl inf216 rfl rfl) ?_; refine p_q _ rfl rfl rfl (fun _ _ => v_move rfl rfl) ?_; refine p_q _ rfl rfl rfl (fun _ _ => v_move rfl rfl) ?_; refine p_q _ rfl rfl rfl (fun _ _ => v_ldW rfl Tryz.underlying43 rfl inf43 rfl rfl) ?_; refine p_q _ rfl rfl rfl (fun _ _ => OpQ.call (later_v (nowF B c d) (B.days.getD d default) (FwB.sm (nowF_bd hg hc d) (by omega)) (day_sm hg d)) rfl [vS (nowF B c d)] [] rfl rfl rfl SubRC.sub) ?_; refine p_nil2 (by simp only [List.nil_append, List.cons_append]; rfl) rfl ?_; (iterate 6 refine f_q rfl ?_); refine f_nil ?_; refine o_q _ rfl rfl rfl (OpQ.fn (counts_v B po so lo pc sc lc fb mb c d (⟨(nowF B c d).lo + (B.days.getD d default).lo, (nowF B c d).hi + (B.days.getD d default).hi⟩ : Span) hg hc) rfl rfl SubRC.sub) ?_; refine o_st rfl inf218 rfl rfl rfl rfl rfl rfl rfl rfl ?_; refine o_nil (r_then (r_seq ?_)); refine r_seq ?_; refine Imp.box_to b7 [i64 (nowF B c (d + 1)).lo, i64 (nowF B c (d + 1)).hi] (by rw [nowF]; rfl) ?_; refine r_region ?_; refine o_q _ rfl rfl rfl (v_ldW rfl Tryz.underlying218 rfl inf218 rfl rfl) ?_; refine o_test rfl rfl rfl (OpQ.fn (some_v (nowF B c (d + 1))) rfl rfl SubRC.sub) (fun h46 => ?_) (fun h46 => ?_)
    all_goals
     refine o_q _ rfl rfl rfl (v_not rfl rfl) ?_; refine o_nil (r_then ?_); refine r_cond rfl (fun hc47 => ?_) (fun hc47 => ?_)
     ·
      first
      | (exfalso; revert hc47; decide)
      |
       skip
       refine r_seq ?_; refine r_par' 6 mixed (by kernel_rfl) (by rfl) ?_; refine p_q _ rfl rfl rfl (fun _ _ => v_move rfl rfl) ?_; refine p_q _ rfl rfl rfl (fun _ _ => v_nilCheck rfl rfl) ?_; refine p_q _ rfl rfl rfl (fun _ _ => v_fieldAddr rfl Tryz.underlying213 inf211 rfl rfl rfl rfl) ?_; refine p_q _ rfl rfl rfl (fun _ _ => v_lf1 rfl Tryz.underlying211 rfl rfl rfl) ?_; refine p_q _ rfl rfl rfl (fun _ _ => v_ldW rfl Tryz.underlying216 rfl inf216 rfl rfl) ?_; refine p_q _ rfl rfl rfl (fun _ _ => v_ldW rfl Tryz.underlying221 rfl inf221 rfl rfl) ?_; refine p_nil2 (by simp only [List.nil_append, List.cons_append]; rfl) rfl ?_; (iterate 6 refine f_q rfl ?_); refine f_nil ?_; refine o_mapUpdH (ok := okS B) (kv0 := v3 c) (has := false) keyLawC hkl rfl Tryz.underlying211 rfl rfl rfl rfl rfl (okS_mk (by rw [vL, (log_no hI0.2 (by assumption) (by omega))])) ?_; refine o_nil (r_then (r_seq (r_region ?_))); refine o_q _ rfl rfl rfl (v_ldW rfl Tryz.underlying221 rfl inf221 rfl rfl) ?_; refine o_st (us := L13 (fwdD B c d) false) rfl inf221 rfl rfl rfl rfl rfl rfl rfl (by rfl) ?_; refine o_nil (r_then ?_); refine r_ret ?_; (with_reducible refine r_then_ret ?_; refine r_in_ret ?_; refine r_then_ret ?_; refine r_then_ret ?_; refine r_in_ret ?_; refine r_then_ret ?_)
       (refine Imp.box_to b4 (L13 (logD B c) (decide (canC B c))) (by rw [log_no hI0.2 (by assumption) (by omega)]; rfl) ?_; refine Imp.memo_join (P := Tryz.prog) (k := 216) (ok := okS B) (b := mb) (kv := v3 c) (has := true) ?_; exact r_rete [memo Tryz.prog 216 (okS B) mb] [] (Rd.one rfl (RdI.cellW Tryz.underlying221 rfl inf221 rfl rfl)) ⟨rfl, rfl, rfl⟩ SelMC.sel SubRC.sub)
     ·
      first
      | (exfalso; revert hc47; decide)
      |
       skip
       refine r_skip (r_then ?_); refine r_region ?_; refine q_mv rfl rfl rfl rfl rfl ?_; refine o_q _ rfl rfl rfl (v_ldW rfl Tryz.underlying218 rfl inf218 rfl rfl) ?_; refine o_q _ rfl rfl rfl (v_fieldAddr rfl Tryz.underlying221 inf219 rfl rfl rfl rfl) ?_; refine o_q _ rfl rfl rfl (v_indexAddrAn rfl Tryz.underlying219 inf218 rfl rfl (by omega)) ?_; refine o_st (us := [i64 (nowF B c (d + 1)).lo, i64 (nowF B c (d + 1)).hi]) rfl inf218 rfl rfl rfl rfl rfl rfl rfl (L13_ble (by omega)) ?_; refine o_nil ?_; refine r_in_normal ?_; refine r_then ?_; refine r_region ?_; refine o_q _ rfl rfl rfl (v_add rfl rfl rfl (by omega)) ?_; refine q_mv rfl rfl rfl rfl rfl ?_; refine o_nil (r_then ?_); refine r_next (d + 1) ?_ ?_ ?_
       ·
        refine Imp.box_to b4 (L13 (fwdD B c (d + 1)) false) (by exact (L13_set (k := d) (by omega)).trans (by rw [fwd_s])) ?_; exact r_here (by repeat (first | exact FSub.nil | refine FSub.cons rfl ?_)) SelMC.sel SubRC.sub
       ·
        exact ⟨by omega, some_s hI0.2 (by assumption)⟩
       ·
        omega
   ·
    refine r_exit ?_; refine r_then_exit ?_; refine r_then_exit ?_; refine r_in_here ?_; refine r_then (r_seq (r_region ?_)); refine q_as rfl rfl rfl rfl rfl ?_; refine o_nil (r_then (r_seq ?_)); refine r_seq (r_region ?_); refine q_mv rfl rfl rfl rfl rfl ?_; refine o_q _ rfl rfl rfl (v_nilCheck rfl rfl) ?_; refine o_q _ rfl rfl rfl (v_fieldAddr rfl Tryz.underlying213 inf62 rfl rfl rfl rfl) ?_; refine o_q _ rfl rfl rfl (v_fieldAddr rfl Tryz.underlying62 inf59 rfl rfl rfl rfl) ?_; refine o_q _ rfl rfl rfl (v_lf1 rfl Tryz.underlying59 rfl rfl rfl) ?_; refine o_q _ rfl rfl rfl (v_len rfl rfl Tryz.underlying59 rfl) ?_; refine o_q _ rfl rfl rfl (v_sub rfl rfl rfl (by omega)) ?_; refine q_as rfl rfl rfl rfl rfl ?_; refine o_nil (r_then ?_); refine r_block ?_; refine r_loop (ι := Nat) (fun e => e + 1 ≤ B.days.length ∧ canC B c) (fun e => [(0, pt fb 0), (3, pt b3 0), (4, pt b4 0), (11, .func (.func 193) #[] #[]), (12, i64 ((e : Int) - 1))]) (fun e => bx b3 216 [i64 c.a, i64 c.b, i64 c.c] :: bx b4 221 (L13 (bckD B c e) false) :: memoH Tryz.prog 216 (okS B) mb (v3 c) false :: M) (fun e => [boxF fb 213 [.slice po B.spits.length pc, .slice so B.days.length sc, .slice lo B.logs.length lc, .map (some mb)], rowD po 3 encSp B.spits, rowD so 2 encS B.days, rowD lo 3 encLg B.logs] ++ Rf) (fun e => e) (B.days.length - 1) ?_ ?_ ?_
    ·
     obtain rfl : d = B.days.length := by omega
     refine Imp.box_to b4 (L13 (bckD B c (B.days.length - 1)) false) (by rw [bck_0 (by omega)]) ?_; exact r_here (by repeat (first | exact FSub.nil | refine FSub.cons rfl ?_ | refine FSub.cons2 rfl (congrArg (Value.int .i64) (by omega)) ?_)) SelMC.sel SubRC.sub
    ·
     exact ⟨by omega, by have hd9 : d = B.days.length := (by omega); subst hd9; exact hI0.2⟩
    ·
     rintro e hI1; refine r_seq ?_; refine r_seq (r_region ?_); refine q_mv rfl rfl rfl rfl rfl ?_; refine o_q _ rfl rfl rfl (v_geq rfl rfl rfl) ?_; refine o_nil (r_then ?_); refine r_condd rfl (fun hc68 => ?_) (fun hc68 => ?_)
     ·
      refine r_skip (r_then ?_); refine r_seq (r_block ?_); obtain ⟨d, rfl⟩ : ∃ d, e = d + 1 := ⟨e - 1, by omega⟩; rw [show ((d + 1 : Nat) : Int) - 1 = (d : Int) from by omega]; refine r_par' 24 mixed (by kernel_rfl) (by rfl) ?_; refine p_q _ rfl rfl rfl (fun _ _ => v_move rfl rfl) ?_; refine p_q _ rfl rfl rfl (fun _ _ => v_move rfl rfl) ?_; refine p_q _ rfl rfl rfl (fun _ _ => v_fieldAddr rfl Tryz.underlying221 inf219 rfl rfl rfl rfl) ?_; refine p_q _ rfl rfl rfl (fun _ _ => v_indexAddrAn rfl Tryz.underlying219 inf218 rfl rfl (by omega)) ?_; refine p_q _ rfl rfl rfl (fun _ _ => v_cast (v := vS (nowF B c (d + 1))) (v_ldN (us := [i64 (bckD B c (d + 1) d).lo, i64 (bckD B c (d + 1) d).hi]) rfl Tryz.underlying218 rfl inf218 rfl (L13_get (by omega)) rfl) (by rw [bck_at (by omega)])) ?_; refine p_q _ rfl rfl rfl (fun _ _ => v_move rfl rfl) ?_; refine p_q _ rfl rfl rfl (fun _ _ => v_move rfl rfl) ?_; refine p_q _ rfl rfl rfl (fun _ _ => v_cast (v := i64 ((d + 1 : Nat) : Int)) (v_add rfl rfl rfl (by omega)) (congrArg (Value.int .i64) (by push_cast; rfl))) ?_; refine p_q _ rfl rfl rfl (fun _ _ => v_fieldAddr rfl Tryz.underlying221 inf219 rfl rfl rfl rfl) ?_; refine p_q _ rfl rfl rfl (fun _ _ => v_indexAddrAn rfl Tryz.underlying219 inf218 rfl rfl (by omega)) ?_; refine p_q _ rfl rfl rfl (fun _ _ => v_cast (v := vS (lastF B c (d + 1))) (v_ldN (us := [i64 (bckD B c (d + 1) (d + 1)).lo, i64 (bckD B c (d + 1) (d + 1)).hi]) rfl Tryz.underlying218 rfl inf218 rfl (L13_get (by omega)) rfl) (by rw [bck_at1 (by omega)])) ?_; refine p_q _ rfl rfl rfl (fun _ _ => v_move rfl rfl) ?_; refine p_q _ rfl rfl rfl (fun _ _ => v_nilCheck rfl rfl) ?_; refine p_q _ rfl rfl rfl (fun _ _ => v_fieldAddr rfl Tryz.underlying213 inf62 rfl rfl rfl rfl) ?_; refine p_q _ rfl rfl rfl (fun _ _ => v_fieldAddr rfl Tryz.underlying62 inf59 rfl rfl rfl rfl) ?_; refine p_q _ rfl rfl rfl (fun _ _ => v_lf1 rfl Tryz.underlying59 rfl rfl rfl) ?_; refine p_q _ rfl rfl rfl (fun _ _ => v_move rfl rfl) ?_; refine p_q _ rfl rfl rfl (fun _ _ => v_cast (v := i64 ((d + 1 : Nat) : Int)) (v_add rfl rfl rfl (by omega)) (congrArg (Value.int .i64) (by push_cast; rfl))) ?_; refine p_q _ rfl rfl rfl (fun _ _ => v_indexAddrSn rfl Tryz.underlying59 inf43 rfl rfl rfl (by omega) rfl) ?_; refine p_q _ rfl rfl rfl (fun _ _ => v_loadEN rfl Tryz.underlying43 rfl inf43 rfl (by omega) rfl rfl rfl) ?_; refine p_q _ rfl rfl rfl (fun _ _ => OpQ.call (earlier_v (lastF B c (d + 1)) (B.days.getD (d + 1) default) (last_sm hg hc (d + 1)) (day_sm hg (d + 1))) rfl [] [] rfl rfl rfl SubRC.sub) ?_; refine p_lit rfl Tryz.underlying350 inf218 rfl rfl rfl rfl rfl rfl rfl rfl (by repeat (first | exact trivial | refine ⟨rfl, ?_⟩)) (by rfl) ?_; refine p_acc (by simp only [List.nil_append, List.cons_append]; rfl) ?_
      refine p_depLit 21 rfl rfl (by kernel_rfl) rfl rfl rfl (fun b93 _ _ => OpQ.fn (common_v (nowF B c (d + 1)) (⟨(lastF B c (d + 1)).lo - (B.days.getD (d + 1) default).hi, (lastF B c (d + 1)).hi - (B.days.getD (d + 1) default).lo⟩ : Span) b93) rfl rfl SubRC.sub) ?_; refine p_q _ rfl rfl rfl (fun _ _ => v_fieldAddr rfl Tryz.underlying221 inf219 rfl rfl rfl rfl) ?_; refine p_nil2 (by simp only [List.nil_append, List.cons_append]; rfl) rfl ?_; (iterate 21 refine f_q rfl ?_); refine f_lit rfl (fun b92 => ?_); refine f_q rfl ?_; refine f_q rfl ?_; refine f_nil ?_; refine o_q _ rfl rfl rfl (v_indexAddrAn rfl Tryz.underlying219 inf218 rfl rfl (by omega)) ?_; refine o_st (us := [i64 (comS (nowF B c (d + 1)) (⟨(lastF B c (d + 1)).lo - (B.days.getD (d + 1) default).hi, (lastF B c (d + 1)).hi - (B.days.getD (d + 1) default).lo⟩ : Span)).lo, i64 (comS (nowF B c (d + 1)) (⟨(lastF B c (d + 1)).lo - (B.days.getD (d + 1) default).hi, (lastF B c (d + 1)).hi - (B.days.getD (d + 1) default).lo⟩ : Span)).hi]) rfl inf218 rfl rfl rfl rfl rfl rfl rfl (L13_ble (by omega)) ?_; refine o_nil ?_; refine r_in_normal ?_; refine r_then ?_; refine r_region ?_; refine q_mv rfl rfl rfl rfl rfl ?_; refine o_q _ rfl rfl rfl (v_sub rfl rfl rfl (by omega)) ?_; refine q_as rfl rfl rfl rfl rfl ?_; refine o_nil (r_then ?_); refine r_next d ?_ ?_ ?_
      ·
       refine Imp.box_to b4 (L13 (bckD B c d) false) (by exact (L13_set (k := d) (by omega)).trans (by rw [bck_s (by omega)])) ?_; exact r_here (by repeat (first | exact FSub.nil | refine FSub.cons rfl ?_)) SelMC.sel SubRC.sub
      ·
       exact ⟨by omega, hI1.2⟩
      ·
       omega
     ·
      refine r_exit ?_; refine r_then_exit ?_; refine r_then_exit ?_; refine r_in_here ?_; refine r_then (r_seq ?_); obtain rfl : e = 0 := by omega
      have hcan : canC B c := hI1.2; refine r_region ?_; refine o_q _ rfl rfl rfl (v_fieldAddr rfl Tryz.underlying221 inf4 rfl rfl rfl rfl) ?_; refine o_st rfl inf4 rfl rfl rfl rfl rfl rfl rfl rfl ?_; refine o_nil (r_then (r_seq ?_)); refine Imp.box_to b4 (L13 (bckD B c 0) true) rfl ?_; refine r_par' 6 mixed (by kernel_rfl) (by rfl) ?_; refine p_q _ rfl rfl rfl (fun _ _ => v_move rfl rfl) ?_; refine p_q _ rfl rfl rfl (fun _ _ => v_nilCheck rfl rfl) ?_; refine p_q _ rfl rfl rfl (fun _ _ => v_fieldAddr rfl Tryz.underlying213 inf211 rfl rfl rfl rfl) ?_; refine p_q _ rfl rfl rfl (fun _ _ => v_lf1 rfl Tryz.underlying211 rfl rfl rfl) ?_; refine p_q _ rfl rfl rfl (fun _ _ => v_ldW rfl Tryz.underlying216 rfl inf216 rfl rfl) ?_; refine p_q _ rfl rfl rfl (fun _ _ => v_ldW rfl Tryz.underlying221 rfl inf221 rfl rfl) ?_; refine p_nil2 (by simp only [List.nil_append, List.cons_append]; rfl) rfl ?_; (iterate 6 refine f_q rfl ?_); refine f_nil ?_; refine o_mapUpdH (ok := okS B) (kv0 := v3 c) (has := false) keyLawC hkl rfl Tryz.underlying211 rfl rfl rfl rfl rfl (okS_mk (by rw [vL, log_yes hcan])) ?_; refine o_nil (r_then (r_seq (r_region ?_))); refine o_q _ rfl rfl rfl (v_ldW rfl Tryz.underlying221 rfl inf221 rfl rfl) ?_; refine o_st (us := L13 (bckD B c 0) true) rfl inf221 rfl rfl rfl rfl rfl rfl rfl (by rfl) ?_; refine o_nil (r_then ?_); refine r_ret ?_
      (refine Imp.box_to b4 (L13 (logD B c) (decide (canC B c))) (by rw [log_yes hcan]; rfl) ?_; refine Imp.memo_join (P := Tryz.prog) (k := 216) (ok := okS B) (b := mb) (kv := v3 c) (has := true) ?_; exact r_rete [memo Tryz.prog 216 (okS B) mb] [] (Rd.one rfl (RdI.cellW Tryz.underlying221 rfl inf221 rfl rfl)) ⟨rfl, rfl, rfl⟩ SelMC.sel SubRC.sub)
theorem log_m (c : T3) (hg : GoodS B) (hc : InC c) : FnM Tryz.prog 161 [pt fb 0, v3 c] (memo Tryz.prog 216 (okS B) mb) [boxF fb 213 [.slice po B.spits.length pc, .slice so B.days.length sc, .slice lo B.logs.length lc, .map (some mb)], rowD po 3 encSp B.spits, rowD so 2 encS B.days, rowD lo 3 encLg B.logs] (fun u => u = vL B c) :=
  FnM.of_memo (log_t B po so lo pc sc lc fb mb c hg hc) (log_f B po so lo pc sc lc fb mb c hg hc)
end Go.Proofs.YtpndeonmmcaikaaGreat.SodW

namespace Go.G
variable {P : Program} {W : World} {n : Nat} {D : List Deferred} {L : Tm} {M : List Res} {R : List Fact} {Q : Exit → Act → World → Prop} {o : Oper} {Z : World → Prop}
def wpAnyZ (Z : World → Prop) (P : Program) (ops : Array Oper) (Q : Exit → Act → World → Prop) : Nat → Array Bool → Act → World → Prop
  | 0, listed, a, w => Z w ∧ Region.ready .any ops listed = [] ∧ Q .normal a w
  | fuel + 1, listed, a, w => Z w ∧ (Region.ready .any ops listed = [] → Q .normal a w) ∧ ∀ i ∈ Region.ready .any ops listed, wpOp P ops Q i (wpAnyZ Z P ops Q fuel (listed.setIfInBounds i true)) a w
theorem wpAnyZ.any {ops : Array Oper} : ∀ {fuel : Nat} {listed : Array Bool} {a : Act} {w : World}, wpAnyZ Z P ops Q fuel listed a w → wpAny P .any ops Q fuel listed a w
  | 0, _, _, _, h => h.2
  | _ + 1, _, _, _, h => ⟨h.2.1, fun i hi => wpOp_mono (fun _ _ h' => h'.any) (h.2.2 i hi)⟩
theorem wpAnyZ.z {ops : Array Oper} {fuel : Nat} {listed : Array Bool} {a : Act} {w : World} (h : wpAnyZ Z P ops Q fuel listed a w) : Z w := by
  cases fuel with
  | zero => exact h.1
  | succ f => exact h.1
def YieldsZ (Z : World → Prop) (P : Program) (ops : Array Oper) (o : Oper) (v : Value) (a : Act) : Prop := Region.wanted o (yielded ops a.tmps) = true ∧ ∀ w, Z w → (execOp a.eval o).run P w = .ok (.value v) w
theorem YieldsZ.wpOp {ops : Array Oper} {i : Nat} {v : Value} {a : Act} (hi : ops[i]? = some o) (hy : YieldsZ Z P ops o v a) {K : Act → World → Prop} {w : World} (hz : Z w) (h : K (a.put o.dst v) w) : wpOp P ops Q i K a w := by
  unfold Go.wpOp
  simp only [hi]
  rw [if_pos hy.1]
  unfold Oper.wp
  rw [hy.2 w hz]
  exact .inl h
theorem YieldsZ.put {ops : Array Oper} {oi oj : Oper} {v : Value} {a : Act} (hy : YieldsZ Z P ops oi v a) (hsi : ∀ cs b, oi.op ≠ .select cs b) (h3 : ∀ d, oj.dst = some d → d ∉ oi.looksAt ops) (u : Value) : YieldsZ Z P ops oi v (a.put oj.dst u) := by
  refine ⟨?_, fun w hz => ?_⟩
  · rw [wanted_put oi a oj.dst u h3]; exact hy.1
  · rw [execOp_put oi hsi a oj.dst u h3]; exact hy.2 w hz
theorem wpOpZ_put {ops : Array Oper} {j : Nat} {oi oj : Oper} {v : Value} (hj : ops[j]? = some oj) (hap : oi.apart ops oj = true)
    (hsi : ∀ cs b, oi.op ≠ .select cs b) (hsj : ∀ cs b, oj.op ≠ .select cs b) {K : Act → World → Prop} {a : Act} {w : World}
    (hy : YieldsZ Z P ops oi v a) (h : wpOp P ops (NoP Q) j K (a.put oi.dst v) w) :
    wpOp P ops (NoP Q) j (fun a' w' => YieldsZ Z P ops oi v a' ∧ K (a'.put oi.dst v) w') a w := by
  obtain ⟨h1, h2, h3⟩ := Oper.apart_spec hap
  have keep := fun (b : Act) (hb : YieldsZ Z P ops oi v b) u => hb.put (oj := oj) hsi h3 u
  unfold wpOp at *
  simp only [hj] at *
  rw [wanted_put oj a oi.dst v h1] at h
  split
  · rename_i hw
    rw [if_pos hw] at h
    rcases h with h | ⟨_, a0, w0, hx⟩
    · refine .inl ?_
      unfold Oper.wp at *
      rw [execOp_put oj hsj a oi.dst v h1] at h
      generalize (execOp a.eval oj).run P w = r at h
      unfold Oper.upon at h ⊢
      split at h
      · rename_i u w'
        exact ⟨keep a hy u, by rw [← Act.put_comm a v u h2]; exact h⟩
      · rename_i w'
        exact ⟨keep a hy _, by rw [← Act.put_comm a v undef h2]; exact h⟩
      · rename_i d w'
        refine ⟨keep { a with defers := d :: a.defers } ⟨hy.1, hy.2⟩ _, ?_⟩
        rw [← Act.put_comm _ v undef h2, ← Act.put_defers]
        exact h
      · rename_i f args w'
        refine Calls.mono h fun e w'' he => ?_
        cases e with
        | returned u => exact ⟨keep a hy u, by rw [← Act.put_comm a v u h2]; exact he⟩
        | panicked c => exact he.elim
        | outgrown => obtain ⟨a1, w1, hx⟩ := he; exact hx.elim
      · refine Rows.mono h fun u w'' he => ⟨keep a hy u, by rw [← Act.put_comm a v u h2]; exact he⟩
      · exact h.elim
      · exact h.elim
    · exact hx.elim
  · rename_i hw
    rw [if_neg hw] at h
    exact ⟨keep a hy _, by rw [← Act.put_comm a v undef h2]; exact h⟩
theorem wpAnyZ_first {ops : Array Oper} {i : Nat} {oi : Oper} {v : Value} (hi : ops[i]? = some oi) (hsel : ∀ (j : Nat) (o : Oper) cs b, ops[j]? = some o → o.op ≠ .select cs b) :
    ∀ (fuel : Nat) (listed : Array Bool) (a : Act) (w : World),
      (∀ j oj, ops[j]? = some oj → j ≠ i → listed.getD j true = false → (∀ e ∈ oj.after, Region.binds .any e = true → e.on ≠ i) → oi.apart ops oj = true) →
      i ∈ Region.ready .any ops listed → YieldsZ Z P ops oi v a →
      wpAnyZ Z P ops (NoP Q) fuel (listed.setIfInBounds i true) (a.put oi.dst v) w → wpAnyZ Z P ops (NoP Q) (fuel + 1) listed a w := by
  intro fuel
  induction fuel with
  | zero =>
    intro listed a w _ hr hy H
    refine ⟨H.1, fun h => (by rw [h] at hr; cases hr), fun j hj => ?_⟩
    by_cases hji : j = i
    · subst hji; exact hy.wpOp hi H.1 H
    · have := ready_mono hj hji
      rw [H.2.1] at this
      cases this
  | succ fuel ih =>
    intro listed a w hfree hr hy H
    refine ⟨H.1, fun h => (by rw [h] at hr; cases hr), fun j hj => ?_⟩
    by_cases hji : j = i
    · subst hji; exact hy.wpOp hi H.1 H
    · have h1 := H.2.2 j (ready_mono hj hji)
      obtain ⟨hjun, oj, hoj, hall⟩ := mem_ready.1 hj
      have hnot : ∀ e ∈ oj.after, Region.binds .any e = true → e.on ≠ i := fun e he hb heq => by
        have g1 := hall e he hb
        have g0 := (mem_ready.1 hr).1
        rw [heq] at g1
        rw [getD_both g0] at g1; cases g1
      have h2 := wpOpZ_put hoj (hfree j oj hoj hji hjun hnot) (fun cs b => hsel i oi cs b hi) (fun cs b => hsel j oj cs b hoj) hy h1
      refine wpOp_mono (fun a' w' h3 => ih (listed.setIfInBounds j true) a' w' (fun k ok hk hki hun hno => ?_) (ready_mono hr (Ne.symm hji)) h3.1 ?_) h2
      · refine hfree k ok hk hki ?_ hno
        by_cases hjk : j = k
        · subst hjk; exact hjun
        · rw [getD_set_ne true hjk] at hun; exact hun
      · rw [Array.setIfInBounds_comm _ _ hji]
        exact h3.2
def wpListZ (Z : World → Prop) (P : Program) (ops : Array Oper) (Q : Exit → Act → World → Prop) : List Oper → Act → World → Prop
  | [], a, w => Z w ∧ Q .normal a w
  | o :: rest, a, w => Z w ∧ if Region.wanted o (yielded ops a.tmps) then o.wp P a w (wpListZ Z P ops Q rest) Q ∨ (o.asks P a w ∧ LetsOut Q) else wpListZ Z P ops Q rest (a.put o.dst undef) w
theorem oz_nil {ops : Array Oper} (hz : ∀ w, St W M R w → Z w) (h : Imp W n D L M R (Q .normal)) : Imp W n D L M R (wpListZ Z P ops Q []) := fun a w h1 h2 h3 => ⟨hz w h3, h a w h1 h2 h3⟩
theorem oz_lift {ops : Array Oper} {rest : List Oper} (hz : ∀ w, St W M R w → Z w) (h : Imp W n D L M R (wpList P ops (Exit.then (wpListZ Z P ops (NoP Q) rest) (NoP Q)) [o])) : Imp W n D L M R (wpListZ Z P ops (NoP Q) (o :: rest)) := by
  intro a w h1 h2 h3
  refine ⟨hz w h3, ?_⟩
  have := h a w h1 h2 h3
  unfold wpList at this
  split
  · rename_i hw
    rw [if_pos hw] at this
    rcases this with h' | ⟨_, a0, w0, h'⟩
    · refine .inl ?_
      unfold Oper.wp at *
      generalize (execOp a.eval o).run P w = r at h'
      unfold Oper.upon at h' ⊢
      split at h'
      · exact h'
      · exact h'
      · exact h'
      · refine Calls.mono h' fun e w'' he => ?_
        cases e with
        | returned u => exact he
        | panicked c => exact he.elim
        | outgrown => obtain ⟨a1, w1, hx⟩ := he; exact hx.elim
      · exact h'
      · exact h'.elim
      · exact h'.elim
    · exact h'.elim
  · rename_i hw
    rw [if_neg hw] at this
    exact this
theorem wpAnyZ_tail {ops : Array Oper} (hb : backB ops.toList = true) : ∀ (k t fuel : Nat) (listed : Array Bool) (a : Act) (w : World), t + k = ops.size → k ≤ fuel → listed.size = ops.size → Closed ops listed →
    (∀ i, i < t → listed.getD i false = true) → (∀ i, t ≤ i → i < ops.size → listed.getD i true = false) →
    (∀ listed', Closed ops listed' → ∀ i o, t ≤ i → ops[i]? = some o → (∀ e ∈ o.after, Region.binds .any e = true → listed'.getD e.on false = true) → ∀ j, j < i → listed'.getD j false = true) →
    wpListZ Z P ops Q (ops.toList.drop t) a w → wpAnyZ Z P ops Q fuel listed a w := by
  intro k
  induction k with
  | zero =>
    intro t fuel listed a w htk _ hsz _ hl _ _ h
    have hdrop : ops.toList.drop t = [] := List.drop_eq_nil_of_le (by simp; omega)
    rw [hdrop] at h
    have hready : Region.ready .any ops listed = [] := by
      apply List.eq_nil_iff_forall_not_mem.2
      intro i hi
      obtain ⟨h0, o, ho, _⟩ := mem_ready.1 hi
      have hlt := (Array.getElem?_eq_some_iff.1 ho).1
      have := hl i (by omega)
      rw [getD_both h0] at this; cases this
    cases fuel with
    | zero => exact ⟨h.1, hready, h.2⟩
    | succ f => exact ⟨h.1, fun _ => h.2, fun i hi => by rw [hready] at hi; cases hi⟩
  | succ k ih =>
    intro t fuel listed a w htk hkf hsz hcl hl hu hm h
    have ht : t < ops.size := by omega
    obtain ⟨fuel, rfl⟩ : ∃ f, fuel = f + 1 := ⟨fuel - 1, by omega⟩
    have hot : ops[t]? = some ops[t] := Array.getElem?_eq_getElem ht
    have hback : ∀ i o, ops[i]? = some o → ∀ e ∈ o.after, Region.binds .any e = true → e.on < i := by
      intro i o ho e he hbi
      have hlt := (Array.getElem?_eq_some_iff.1 ho).1
      have := List.all_eq_true.1 hb i (List.mem_range.2 (by simpa using hlt))
      rw [show ops.toList[i]? = some o from by simpa using ho] at this
      have := Array.all_eq_true_iff_forall_mem.1 this e he
      simpa [hbi] using this
    have htr : t ∈ Region.ready .any ops listed := mem_ready.2 ⟨hu t (Nat.le_refl _) ht, _, hot, fun e he hbi => hl _ (hback t _ hot e he hbi)⟩
    have hz : Z w := by
      have ht2 : t < ops.toList.length := by simpa using ht
      rw [List.drop_eq_getElem_cons ht2] at h; exact h.1
    refine ⟨hz, fun h0 => (by rw [h0] at htr; cases htr), fun i hi => ?_⟩
    obtain ⟨h0, o, ho, hp⟩ := mem_ready.1 hi
    have hlt := (Array.getElem?_eq_some_iff.1 ho).1
    have hge : t ≤ i := by
      rcases Nat.lt_or_ge i t with h' | h'
      · have := hl i h'; rw [getD_both h0] at this; cases this
      · exact h'
    have hit : i = t := by
      rcases Nat.lt_or_ge t i with h' | h'
      · have := hm listed hcl i o hge ho hp t h'
        rw [getD_both (hu t (Nat.le_refl _) ht)] at this; cases this
      · omega
    subst hit
    have hoi : o = ops[i] := Option.some.inj (ho.symm.trans hot)
    have hdrop : ops.toList.drop i = o :: ops.toList.drop (i + 1) := by
      rw [List.drop_eq_getElem_cons (by simpa using ht)]; simp [hoi]
    rw [hdrop] at h
    have hcl' : Closed ops (listed.setIfInBounds i true) := by
      intro j oj hj hlj e he hbi
      by_cases hij : i = j
      · subst hij
        have : oj = o := Option.some.inj (hj.symm.trans ho)
        subst this
        exact getD_set_true (hp e he hbi)
      · rw [getD_set_ne false hij] at hlj
        exact getD_set_true (hcl j oj hj hlj e he hbi)
    have hih := fun a w => ih (i + 1) fuel (listed.setIfInBounds i true) a w (by omega) (by omega) (by simp [hsz]) hcl'
      (fun j hj => by
        by_cases hij : i = j
        · subst hij; simp [hsz, ht]
        · rw [getD_set_ne false hij]; exact hl j (by omega))
      (fun j hj hj' => by rw [getD_set_ne true (by omega)]; exact hu j (by omega) hj')
      (fun l' hc' j oj hj => hm l' hc' j oj (by omega))
    unfold wpOp
    simp only [ho]
    unfold wpListZ at h
    replace h := h.2
    split
    · rename_i hw
      rw [if_pos hw] at h
      exact h.imp (Oper.wp_mono fun a w => hih a w) id
    · rename_i hw
      rw [if_neg hw] at h
      exact hih _ _ h
theorem parZ_any {free tail : List Oper} {ss : List Spc} (hZ : ∀ X F w, St W (X ++ M) (F ++ R) w → Z w) (hpb : parB free tail = true) (hl : ss.length = free.length) (hfr : ∀ o ∈ free, look L (o.dst.getD 1000000) = none) (hL : LateOK (free ++ tail).toArray ss) (hab : ∀ (i : Nat) (s : Spc) (c : List PanicEntry), ss[i]? = some s → s.ab = some c → Imp W n D L M R (Q (.panic c)))
    (hstep : ∀ i o s, free[i]? = some o → ss[i]? = some s → Step1 P W n M R (free ++ tail).toArray ss i o s (detL (free.take i) (ss.take i) L))
    (hfin : Fin W n D (wpListZ Z P (free ++ tail).toArray Q tail) free ss L M R) :
    ∀ (fuel : Nat) (listed : Array Bool) (a : Act) (w : World), J W n D L M R (free ++ tail).toArray free ss listed a w → unl (free ++ tail).length listed ≤ fuel → wpAnyZ Z P (free ++ tail).toArray Q fuel listed a w := by
  simp only [parB, Bool.and_eq_true] at hpb
  obtain ⟨⟨⟨⟨hns, hfree⟩, hnd0⟩, hback⟩, htail⟩ := hpb
  have hnd := injB_sound hnd0
  have hmN : free.length ≤ (free ++ tail).length := by simp
  have hmask : ∀ listed', Closed (free ++ tail).toArray listed' → ∀ i o, free.length ≤ i → (free ++ tail).toArray[i]? = some o → (∀ e ∈ o.after, Region.binds .any e = true → listed'.getD e.on false = true) → ∀ j, j < i → listed'.getD j false = true := by
    intro listed' hc i o hi ho hp j hj
    have hlt : i < (free ++ tail).length := by simpa using (Array.getElem?_eq_some_iff.1 ho).1
    have h1 := List.all_eq_true.1 htail i (List.mem_range.2 hlt)
    simp only [Bool.or_eq_true] at h1
    rcases h1 with h1 | h1
    · have : i < free.length := by simpa using h1
      omega
    · have h2 := List.all_eq_true.1 h1 j (List.mem_range.2 hj)
      exact (masks_sound hc (free ++ tail) [] (fun j => by simp) (fun i hi => by simp at hi)).1 i o (Nat.zero_le _) ho hp j h2
  have hbk : ∀ i o, (free ++ tail).toArray[i]? = some o → ∀ e ∈ o.after, Region.binds .any e = true → e.on < i := by
    intro i o ho e he hbi
    have hlt : i < (free ++ tail).length := by simpa using (Array.getElem?_eq_some_iff.1 ho).1
    have := List.all_eq_true.1 hback i (List.mem_range.2 hlt)
    rw [show (free ++ tail)[i]? = some o from by simpa using ho] at this
    have := Array.all_eq_true_iff_forall_mem.1 this e he
    simpa [hbi] using this
  intro fuel
  induction fuel with
  | zero =>
    intro listed a w hJ hu
    have hall : ∀ i, i < free.length → listed.getD i false = true := by
      intro i hi
      cases h : listed.getD i true with
      | true =>
        have : i < listed.size := by rw [hJ.size]; simp; omega
        simp [this] at h ⊢; exact h
      | false =>
        have hsz : listed.size = (free ++ tail).length := by rw [hJ.size]; simp
        have := unl_set (N := (free ++ tail).length) (i := i) (by omega) hsz h
        omega
    obtain ⟨g, hg, hS⟩ := hJ.vals
    refine wpAnyZ_tail (by simpa using hback) ((free ++ tail).length - free.length) free.length 0 listed a w (by simp) (Nat.le_trans (unl_ge (fun i h1 h2 => hJ.late i h1 (by simpa using h2))) hu) hJ.size hJ.closed hall (fun i h1 h2 => hJ.late i h1 h2) hmask ?_
    have hd : ((free ++ tail).toArray).toList.drop free.length = tail := by simp
    rw [hd]
    have hsame : resOf ss listed g free.length = lastOf ss g free.length := by
      refine flatMap_same _ _ _ fun j hj => ?_
      have := List.mem_range.1 hj
      rw [hall j this, if_pos rfl]
      cases hsj : ss[j]? with
      | none => rfl
      | some sj =>
        unfold Spc.rsL Spc.last
        cases hl2 : sj.late with
        | none => simp [hl2]
        | some kr =>
          obtain ⟨k, r⟩ := kr
          have hk := (hL j sj k r hsj hl2).1
          simp [hl2, hall k (by omega)]
    have hsamf : ∀ (f : Spc → Value → List Fact), ((List.range free.length).flatMap fun i => if listed.getD i false then (match ss[i]? with | some s => f s (g i) | none => []) else []) = ((List.range free.length).flatMap fun i => if (Array.replicate free.length true).getD i false then (match ss[i]? with | some s => f s (g i) | none => []) else []) := by
      intro f
      refine flatMap_same _ _ _ fun j hj => ?_
      have := List.mem_range.1 hj
      rw [hall j this]; simp [this]
    refine fin_use free ss L M R hl hfin g a w hJ.defers hJ.frame hnd (fun i o s e1 e2 => hg i o s e1 e2 (hall i (List.getElem?_eq_some_iff.1 e1).1)) ?_
    rw [hsame] at hS
    have hf : fctOf ss listed g free.length = fctOf ss (Array.replicate free.length true) g free.length := hsamf Spc.fs
    rw [hf] at hS
    exact hS
  | succ fuel ih =>
    intro listed a w hJ hu
    by_cases hall : ∀ i, i < free.length → listed.getD i false = true
    · obtain ⟨g, hg, hS⟩ := hJ.vals
      refine wpAnyZ_tail (by simpa using hback) ((free ++ tail).length - free.length) free.length (fuel + 1) listed a w (by simp) (Nat.le_trans (unl_ge (fun i h1 h2 => hJ.late i h1 (by simpa using h2))) hu) hJ.size hJ.closed hall (fun i h1 h2 => hJ.late i h1 h2) hmask ?_
      have hd : ((free ++ tail).toArray).toList.drop free.length = tail := by simp
      rw [hd]
      have hsame : resOf ss listed g free.length = lastOf ss g free.length := by
        refine flatMap_same _ _ _ fun j hj => ?_
        have := List.mem_range.1 hj
        rw [hall j this, if_pos rfl]
        cases hsj : ss[j]? with
        | none => rfl
        | some sj =>
          unfold Spc.rsL Spc.last
          cases hl2 : sj.late with
          | none => simp [hl2]
          | some kr =>
            obtain ⟨k, r⟩ := kr
            have hk := (hL j sj k r hsj hl2).1
            simp [hl2, hall k (by omega)]
      have hsamf : ∀ (f : Spc → Value → List Fact), ((List.range free.length).flatMap fun i => if listed.getD i false then (match ss[i]? with | some s => f s (g i) | none => []) else []) = ((List.range free.length).flatMap fun i => if (Array.replicate free.length true).getD i false then (match ss[i]? with | some s => f s (g i) | none => []) else []) := by
        intro f
        refine flatMap_same _ _ _ fun j hj => ?_
        have := List.mem_range.1 hj
        rw [hall j this]; simp [this]
      refine fin_use free ss L M R hl hfin g a w hJ.defers hJ.frame hnd (fun i o s e1 e2 => hg i o s e1 e2 (hall i (List.getElem?_eq_some_iff.1 e1).1)) ?_
      rw [hsame] at hS
      have hf : fctOf ss listed g free.length = fctOf ss (Array.replicate free.length true) g free.length := hsamf Spc.fs
      rw [hf] at hS
      exact hS
    · have hex : ∃ i, i < free.length ∧ listed.getD i false = false := by
        apply Classical.byContradiction
        intro hne
        refine hall fun i hi => ?_
        cases h : listed.getD i false
        · exact absurd ⟨i, hi, h⟩ hne
        · rfl
      obtain ⟨k, ⟨hk, hkf⟩, hkm⟩ := least hex
      have hkt : listed.getD k true = false := by
        have : k < listed.size := by rw [hJ.size]; simp; omega
        simp [this] at hkf ⊢; exact hkf
      have hready : k ∈ Region.ready .any (free ++ tail).toArray listed := by
        refine mem_ready.2 ⟨hkt, (free ++ tail)[k]'(by simp; omega), by simp [List.getElem?_eq_getElem (show k < (free ++ tail).length by simp; omega)], fun e he hbi => ?_⟩
        have hlt := hbk k _ (by simp [List.getElem?_eq_getElem (show k < (free ++ tail).length by simp; omega)]) e he hbi
        cases h : listed.getD e.on false
        · exact absurd ⟨by omega, h⟩ (hkm e.on hlt)
        · rfl
      refine ⟨(by obtain ⟨g, _, hS⟩ := hJ.vals; exact hZ _ _ w hS), fun h0 => (by rw [h0] at hready; cases hready), fun i hi => ?_⟩
      obtain ⟨h0, o, hoi, hp⟩ := mem_ready.1 hi
      have him : i < free.length := by
        rcases Nat.lt_or_ge i free.length with h' | h'
        · exact h'
        · have := hmask listed hJ.closed i o h' hoi hp k (by omega)
          rw [hkf] at this; cases this
      refine par_step (by simp only [parB, Bool.and_eq_true]; exact ⟨⟨⟨⟨hns, hfree⟩, hnd0⟩, hback⟩, htail⟩) hl hfr hL hab hstep hJ hi him _ fun a' w' hJ' => ih _ _ _ hJ' ?_
      have hsz : listed.size = (free ++ tail).length := by rw [hJ.size]; simp
      have := unl_set (N := (free ++ tail).length) (i := i) (by have := (List.getElem?_eq_some_iff.1 (show (free ++ tail)[i]? = some o by simpa using hoi)).1; omega) hsz h0
      omega
theorem floatZ_any {fl : List Nat} {m : Nat} {l : List Oper} : ∀ (fuel : Nat) (listed : Array Bool) (a : Act) (w : World), (∀ i ∈ fl, listed.getD i false = true) → wpAnyZ Z P (floatL fl m l).toArray Q fuel listed a w → wpAnyZ Z P l.toArray Q fuel listed a w
  | 0, listed, a, w, hi, h => by
    refine ⟨h.1, ?_, h.2.2⟩
    cases hr : Region.ready .any l.toArray listed with
    | nil => rfl
    | cons x xs =>
      have : x ∈ Region.ready .any (floatL fl m l).toArray listed := (float_ready hi).2 (by rw [hr]; simp)
      rw [h.2.1] at this; cases this
  | fuel + 1, listed, a, w, hi, h => by
    refine ⟨h.1, fun hr => h.2.1 ?_, fun j hj => float_op (wpOp_mono (fun a' w' h' => floatZ_any fuel _ a' w' (fun i hi' => getD_set_true (hi i hi')) h') (h.2.2 j ((float_ready hi).2 hj)))⟩
    cases hr' : Region.ready .any (floatL fl m l).toArray listed with
    | nil => rfl
    | cons x xs =>
      have : x ∈ Region.ready .any l.toArray listed := (float_ready hi).1 (by rw [hr']; simp)
      rw [hr] at this; cases this
def FlZ (Z : World → Prop) (P : Program) (n : Nat) (L : Tm) (free : List Oper) (ss : List Spc) : List Nat → Prop
  | [] => True
  | i :: r => (∃ (o : Oper) (v : Value) (d : Nat), free[i]? = some o ∧ ss[i]? = some (Spc.q v) ∧ o.guard = none ∧ o.dst = some d ∧ Nat.blt d n = true ∧ ∀ a, FSat n (detL (free.take i) (ss.take i) L) a → ∀ w, Z w → (execOp a.eval o).run P w = .ok (.value v) w) ∧ FlZ Z P n L free ss r
theorem FlZ.at {free : List Oper} {ss : List Spc} : ∀ {fl : List Nat}, FlZ Z P n L free ss fl → ∀ i ∈ fl, ∃ (o : Oper) (v : Value) (d : Nat), free[i]? = some o ∧ ss[i]? = some (Spc.q v) ∧ o.guard = none ∧ o.dst = some d ∧ Nat.blt d n = true ∧ ∀ a, FSat n (detL (free.take i) (ss.take i) L) a → ∀ w, Z w → (execOp a.eval o).run P w = .ok (.value v) w
  | [], _, _, h => by cases h
  | j :: r, ⟨h1, h2⟩, i, hi => by
    rcases List.mem_cons.1 hi with rfl | hi
    · exact h1
    · exact FlZ.at h2 i hi
theorem floatZ_all {fl : List Nat} {m : Nat} {l : List Oper} (hZ : ∀ X F w, St W (X ++ M) (F ++ R) w → Z w) (hml : m ≤ l.length) {ss : List Spc} (hpb : parB ((floatL fl m l).take m) ((floatL fl m l).drop m) = true) (hlen : ss.length = ((floatL fl m l).take m).length) (hfr : ∀ o ∈ (floatL fl m l).take m, look L (o.dst.getD 1000000) = none) (hL : LateOK (floatL fl m l).toArray ss)
    (hab : ∀ (i : Nat) (s : Spc) (c : List PanicEntry), ss[i]? = some s → s.ab = some c → Imp W n D L M R (NoP Q (.panic c)))
    (hstep : ∀ i o s, ((floatL fl m l).take m)[i]? = some o → ss[i]? = some s → Step1 P W n M R (floatL fl m l).toArray ss i o s (detL (((floatL fl m l).take m).take i) (ss.take i) L))
    (hfin : Fin W n D (wpListZ Z P (floatL fl m l).toArray (NoP Q) ((floatL fl m l).drop m)) ((floatL fl m l).take m) ss L M R)
    (hfl : FlZ Z P n L ((floatL fl m l).take m) ss fl) (hns : Region.noSelect l.toArray = true) (hbk : backB l = true) (htl : tailF fl (masks l []) m l.length = true) (hfs : freesB l fl = true) :
    ∀ (fuel : Nat) (listed : Array Bool) (a : Act) (w : World), J W n D L M R (floatL fl m l).toArray ((floatL fl m l).take m) ss listed a w → unl l.length listed ≤ fuel → wpAnyZ Z P l.toArray (NoP Q) fuel listed a w := by
  have hflat := hfl.at
  have hFat := floatL_at fl m l
  have hFlen := floatL_len fl m l
  generalize hF : floatL fl m l = F at *
  have hsplit : F.take m ++ F.drop m = F := List.take_append_drop m F
  have hmF : (F.take m).length = m := by rw [List.length_take]; omega
  have hlow : ∀ j, j < m → F[j]? = l[j]? := fun j hj => by
    rw [hFat j]; cases l[j]? with
    | none => rfl
    | some o => simp [hj]
  have hfree : ∀ j, j < m → (F.take m)[j]? = l[j]? := fun j hj => by rw [List.getElem?_take, if_pos hj, hlow j hj]
  have hlate : LateOK (F.take m ++ F.drop m).toArray ss := by rw [hsplit]; exact hL
  have hst' : ∀ i o s, (F.take m)[i]? = some o → ss[i]? = some s → Step1 P W n M R (F.take m ++ F.drop m).toArray ss i o s (detL ((F.take m).take i) (ss.take i) L) := by rw [hsplit]; exact hstep
  have hclosed : ∀ listed, Closed F.toArray listed → Closed l.toArray listed := fun listed hc j o ho hj e he hb => by
    have ho : l[j]? = some o := by simpa using ho
    refine hc j (if j < m then o else addE fl o) (by rw [List.getElem?_toArray, hFat, ho]; rfl) hj e ?_ hb
    split
    · exact he
    · unfold addE; exact Array.mem_append_left _ he
  have hback : ∀ i o, l[i]? = some o → ∀ e ∈ o.after, Region.binds .any e = true → e.on < i := by
    intro i o ho e he hbi
    have hlt : i < l.length := (List.getElem?_eq_some_iff.1 ho).1
    have := List.all_eq_true.1 hbk i (List.mem_range.2 hlt)
    rw [ho] at this
    have := Array.all_eq_true_iff_forall_mem.1 this e he
    simpa [hbi] using this
  intro fuel
  induction fuel with
  | zero =>
    intro listed a w hJ hu
    have hsz : listed.size = l.length := by rw [hJ.size]; simp [hFlen]
    have hall : ∀ i ∈ fl, listed.getD i false = true := fun i hi => by
      obtain ⟨o, v, d, ho, _⟩ := hflat i hi
      have hi' : i < m := by have := (List.getElem?_eq_some_iff.1 ho).1; omega
      cases h : listed.getD i true with
      | true =>
        have : i < listed.size := by omega
        simp [this] at h ⊢; exact h
      | false =>
        have := unl_set (N := l.length) (i := i) (by omega) hsz h
        omega
    refine floatZ_any (fl := fl) (m := m) 0 listed a w hall ?_
    rw [hF, ← hsplit]
    replace hJ : J W n D L M R (F.take m ++ F.drop m).toArray (F.take m) ss listed a w := by rw [hsplit]; exact hJ
    exact parZ_any hZ hpb hlen hfr hlate hab hst' (by rw [hsplit]; exact hfin) 0 listed a w hJ (by rw [hsplit, hFlen]; exact hu)
  | succ fuel ih =>
    intro listed a w hJ hu
    have hsz : listed.size = l.length := by rw [hJ.size]; simp [hFlen]
    have hboth : ∀ j, j < l.length → listed.getD j true = listed.getD j false := fun j hj => by
      have : j < listed.size := by omega
      simp [this]
    by_cases hall : ∀ i ∈ fl, listed.getD i false = true
    · refine floatZ_any (fl := fl) (m := m) (fuel + 1) listed a w hall ?_
      rw [hF, ← hsplit]
      replace hJ : J W n D L M R (F.take m ++ F.drop m).toArray (F.take m) ss listed a w := by rw [hsplit]; exact hJ
      exact parZ_any hZ hpb hlen hfr hlate hab hst' (by rw [hsplit]; exact hfin) (fuel + 1) listed a w hJ (by rw [hsplit, hFlen]; exact hu)
    · by_cases hrd : ∃ i ∈ fl, i ∈ Region.ready .any l.toArray listed
      · obtain ⟨i, hi, hir⟩ := hrd
        obtain ⟨o, v, d, ho, hs, hg, hdst, hdn, hpure⟩ := hflat i hi
        have him : i < m := by have := (List.getElem?_eq_some_iff.1 ho).1; omega
        have hol : l[i]? = some o := by rw [← hfree i him]; exact ho
        obtain ⟨h0, o', ho', hp⟩ := mem_ready.1 hir
        have ho' : l[i]? = some o' := by simpa using ho'
        rw [hol] at ho'; cases ho'
        have hJ' : J W n D L M R (F.take m ++ F.drop m).toArray (F.take m) ss listed a w := by rw [hsplit]; exact hJ
        obtain ⟨a', g, f1, hex, hgv, hS⟩ := frame_at hpb hlen hfr hlate hab hst' hJ' ho hp
        have hirF : i ∈ Region.ready .any (F.take m ++ F.drop m).toArray listed := by
          rw [hsplit]
          exact mem_ready.2 ⟨h0, o, by rw [List.getElem?_toArray, hlow i him]; exact hol, hp⟩
        have hy : YieldsZ Z P l.toArray o v a := ⟨by simp [Region.wanted, hg], fun w hz => by rw [hex]; exact hpure a' f1 w hz⟩
        refine wpAnyZ_first (i := i) (oi := o) (v := v) (by simpa using hol) (Region.noSelect_spec hns) fuel listed a w (freeAt_spec hol (List.all_eq_true.1 hfs i hi) hp) hir hy ?_
        · have hnd : Inj (F.take m) := by
            simp only [parB, Bool.and_eq_true] at hpb
            exact injB_sound hpb.1.1.2
          have hset : (resOf ss listed g (F.take m).length ++ M).Perm (restOf ss listed g (F.take m).length i ++ M) := by
            refine List.Perm.append_right M (List.Perm.of_eq ?_)
            refine flatMap_same _ _ _ fun j hj => ?_
            by_cases e : j = i
            · subst e
              have : listed.getD j false = false := by rw [← hboth j (by omega)]; exact h0
              rw [if_pos rfl, this, hs]; rfl
            · rw [if_neg e]
          have hJn := hJ.next (v := v) (o := o) (s := Spc.q v) (i := i) (w' := w) hnd hfr (by simp [hFlen, hmF]; omega) (by rw [← hsplit]; exact hirF) (by rw [List.getElem?_toArray, hlow i him]; exact hol) ho hs (by rw [hdst]; exact hdn) rfl rfl hL hgv (hS.perm hset)
          refine ih _ _ _ hJn ?_
          have := unl_set (N := l.length) (i := i) (by omega) hsz h0
          omega
      · have hex : ∃ i, (i ∈ fl ∧ listed.getD i false = false) := by
          apply Classical.byContradiction
          intro hne
          refine hall fun i hi => ?_
          cases h : listed.getD i false
          · exact absurd ⟨i, hi, h⟩ hne
          · rfl
        obtain ⟨k, ⟨hk, hkf⟩, hkm⟩ := least hex
        obtain ⟨ok, vk, dk, hok, _⟩ := hflat k hk
        have hkm' : k < m := by have := (List.getElem?_eq_some_iff.1 hok).1; omega
        have hokl : l[k]? = some ok := by rw [← hfree k hkm']; exact hok
        have hlt : ∀ j, j ∈ Region.ready .any l.toArray listed → j < m := by
          intro j hj
          rcases Nat.lt_or_ge j m with h | h
          · exact h
          · exfalso
            obtain ⟨j0, o, hoj, hp⟩ := mem_ready.1 hj
            have hoj' : l[j]? = some o := by simpa using hoj
            have hjl : j < l.length := (List.getElem?_eq_some_iff.1 hoj').1
            have h1 := List.all_eq_true.1 htl j (List.mem_range.2 hjl)
            simp only [Bool.or_eq_true] at h1
            have hnon : ∀ t, t < j → t ∉ fl → listed.getD t false = true := fun t ht hnf => by
              rcases h1 with h1 | h1
              · have : j < m := by simpa using h1
                omega
              · have h2 := List.all_eq_true.1 h1 t (List.mem_range.2 ht)
                simp only [Bool.or_eq_true, List.contains_eq_mem, decide_eq_true_eq] at h2
                rcases h2 with h2 | h2
                · exact absurd h2 hnf
                · exact (masks_sound (ops := l.toArray) (hclosed listed hJ.closed) l [] (fun j => by simp) (fun i hi => by simp at hi)).1 j o (Nat.zero_le _) hoj hp t h2
            refine hrd ⟨k, hk, mem_ready.2 ⟨by rw [hboth k (by omega)]; exact hkf, ok, by simpa using hokl, fun e he hb => ?_⟩⟩
            have hek := hback k ok hokl e he hb
            by_cases hef : e.on ∈ fl
            · cases h : listed.getD e.on false
              · exact absurd ⟨hef, h⟩ (hkm e.on hek)
              · rfl
            · exact hnon e.on (by omega) hef
        refine ⟨(by obtain ⟨g, _, hS⟩ := hJ.vals; exact hZ _ _ w hS), fun hr => ?_, fun j hj => ?_⟩
        · exfalso
          have hex2 : ∃ t, t < l.length ∧ listed.getD t false = false := ⟨k, by omega, hkf⟩
          obtain ⟨t, ⟨ht, htf⟩, htm⟩ := least hex2
          have : t ∈ Region.ready .any l.toArray listed := mem_ready.2 ⟨by rw [hboth t ht]; exact htf, l[t], by simp, fun e he hb => by
            have hlt2 := hback t l[t] (List.getElem?_eq_getElem ht) e he hb
            cases h : listed.getD e.on false
            · exact absurd ⟨by omega, h⟩ (htm e.on hlt2)
            · rfl⟩
          rw [hr] at this; cases this
        · have hjm := hlt j hj
          obtain ⟨j0, o, hoj, hp⟩ := mem_ready.1 hj
          have hoj' : l[j]? = some o := by simpa using hoj
          refine float_op (fl := fl) (m := m) ?_
          rw [hF, ← hsplit]
          replace hJ : J W n D L M R (F.take m ++ F.drop m).toArray (F.take m) ss listed a w := by rw [hsplit]; exact hJ
          refine par_step hpb hlen hfr hlate hab hst' hJ (mem_ready.2 ⟨j0, o, ?_, hp⟩) (by omega) _ fun a' w' hJ' => ih _ _ _ (by rw [hsplit] at hJ'; exact hJ') ?_
          · rw [List.getElem?_toArray, hsplit, hlow j hjm]; exact hoj'
          · have := unl_set (N := l.length) (i := j) (by have := (List.getElem?_eq_some_iff.1 hoj').1; omega) hsz j0
            omega
theorem float_cell {o : Oper} {T B : TypeId} {x : Operand} {b off : Nat} {vs : List Value} {v : Value} {d : TypeDesc} (ho : o.op = .load T x) (hT : P.underlying T = some d) (hd : aggD d = false)
    (hx : ev L x = some (pt b off)) (hv : vs[off]? = some v) (hz : ∀ w, Z w → w.heap[b]? = some (.cells vs.toArray B (0, 0))) : ∀ a, FSat n L a → ∀ w, Z w → (execOp a.eval o).run P w = .ok (.value v) w := fun a h1 w h => by
  have hs : St w [bx b B vs] [] w := ⟨rfl, rfl, rfl, [(b, .cells vs.toArray B (0, 0))], ⟨[(b, .cells vs.toArray B (0, 0))], [], rfl, rfl, rfl⟩, ⟨by simp [keys], fun p hp => by
    have : p = (b, .cells vs.toArray B (0, 0)) := by simpa using hp
    subst this; exact hz w h⟩, fun φ hφ => by cases hφ⟩
  have hc := hs.cell (List.mem_singleton.2 rfl) off
  rw [hv] at hc
  have hagg := run_isAgg' (w := w) hT
  rw [hd] at hagg
  simp [execOp, ho, h1.ev hx, Instr.loadAt, pt, Instr.sureAddr, loadVar, hagg, hc]
end Go.G

namespace Go.G
open MapKept
variable {P : Program} {W : World} {n : Nat} {D : List Deferred} {L : Tm} {M : List Res} {R : List Fact} {Q : Exit → Act → World → Prop} {o : Oper}
abbrev Cont := Value → Option Value
structure Holds (P : Program) (k : TypeId) (G : Cont) (es : Array MapEntry) (clock : Nat) : Prop where
  st : Stamped es clock
  keys : ∀ e ∈ es.toList, ∃ l, keyOf P k e.key = some l
  yes : ∀ e ∈ es.toList, G e.key = some e.val
  no : ∀ kv, (∀ e ∈ es.toList, e.key ≠ kv) → G kv = none
noncomputable def Cont.put (G : Cont) (kv u : Value) : Cont := fun x => match Classical.propDecidable (x = kv) with
  | .isTrue _ => some u
  | .isFalse _ => G x
theorem Holds.empty (P : Program) (k : TypeId) : Holds P k (fun _ => none) #[] 0 :=
  ⟨⟨fun x hx => by simp at hx, by simp, by simp⟩, fun e he => by simp at he, fun e he => by simp at he, fun _ _ => rfl⟩
end Go.G

namespace Go.G
variable {P : Program} {W : World} {n m : Nat} {D : List Deferred} {L : Tm} {M : List Res} {R : List Fact} {Q : Exit → Act → World → Prop} {o : Oper} {F : Fence}
def YieldsG {α γ : Type} (P : Program) (W : World) (l : Nat) (enc : α → List Value) (xs : List α) (J : γ → Nat → Res) (F : γ → Nat → Fact) (Rf : List Fact) : Prop :=
  ∀ i x, xs[i]? = some x → ∀ g Mi Ri w, St W (J g i :: Mi) (F g i :: (Ri ++ Rf)) w → YieldAt Fence.wide 0 P l (enc x).toArray w fun e w' => e = .returned (.bool true) ∧ ∃ g', St W (J g' (i + 1) :: Mi) (F g' (i + 1) :: (Ri ++ Rf)) w'
def RetSeqG {γ : Type} (W : World) (J : γ → Nat → Res) (F : γ → Nat → Fact) (N : Nat) (R : List Fact) (e : Ending) (w' : World) : Prop := (∃ v, e = .returned v) ∧ ∃ g, St W [J g N] (F g N :: R) w'
structure IsSeqG {α : Type} (P : Program) (g : FuncId) (lb : List Value) (Rs : List Fact) (enc : α → List Value) (xs : List α) : Prop where
  enter : ∀ (ag : Array Value) (w : World), (callFunc g ag).run P w = .ok (.enter g ag) w
  calls : ∀ {γ : Type} (l : Nat) (J : γ → Nat → Res) (F : γ → Nat → Fact) (g0 : γ) (W : World) (Rf : List Fact) (w : World), YieldsG P W l enc xs J F Rf → St W [J g0 0] (F g0 0 :: (Rs ++ Rf)) w → Calls P g (.func (.yield l) #[] #[] :: lb).toArray w (RetSeqG W J F xs.length (Rs ++ Rf))
theorem IsSeqG.intro {α : Type} {g : FuncId} {lb : List Value} {Rs : List Fact} {enc : α → List Value} {xs : List α} {fn : Func} {c : Code} (he : ∀ (ag : Array Value) (w : World), (callFunc g ag).run P w = .ok (.enter g ag) w)
    (hf : P.funcs[g]? = some fn) (hb : fn.body = some c) (hn : fn.ntmps = n) (ha : Nat.ble (lb.length + 1) n = true)
    (h : ∀ {γ : Type} l (J : γ → Nat → Res) (F : γ → Nat → Fact) (g0 : γ) W Rf, YieldsG P W l enc xs J F Rf → Imp W n [] (argsL (.func (.yield l) #[] #[] :: lb) 0) [J g0 0] (F g0 0 :: (Rs ++ Rf)) (c.wp P (bodyPost P fn (RetSeqG W J F xs.length (Rs ++ Rf))))) : IsSeqG P g lb Rs enc xs := by
  refine ⟨he, fun l J F g0 W Rf w hY hw => calls_of_wp hf hb ?_⟩
  rw [hn]
  exact h l J F g0 W Rf hY _ w (FSat.entry (by simpa using Nat.le_of_ble_eq_true ha)) rfl hw
theorem FnS.introM {k : FuncId} {args : List Value} {M0 : List Res} {R0 : List Fact} {Post : Ending → List Res → List Fact → Prop} {fn : Func} {c : Code} (he : ∀ (ag : Array Value) (w : World), (callFunc k ag).run P w = .ok (.enter k ag) w)
    (hf : P.funcs[k]? = some fn) (hb : fn.body = some c) (hn : fn.ntmps = n) (ha : Nat.ble args.length n = true)
    (h : ∀ W Mf Rf, Imp W n [] (argsL args 0) (M0 ++ Mf) (R0 ++ Rf) (c.wp P (bodyPostM Fence.wide 0 P fn (RetE W Mf (R0 ++ Rf) Post)))) : FnS P k args M0 R0 Post := by
  refine ⟨he, fun W Mf Rf w hw => (callsIn_wide (n := 0)).1 (callsIn_of_wp_marks hf hb trivial (wpIn_wide.2 ?_))⟩
  rw [hn]
  exact h W Mf Rf _ w (FSat.entry (Nat.le_of_ble_eq_true ha)) rfl hw
theorem FnS.introM1 {k : FuncId} {args : List Value} {r : Res} {R0 : List Fact} {Post : Ending → List Res → List Fact → Prop} {fn : Func} {c : Code} (he : ∀ (ag : Array Value) (w : World), (callFunc k ag).run P w = .ok (.enter k ag) w)
    (hf : P.funcs[k]? = some fn) (hb : fn.body = some c) (hn : fn.ntmps = n) (ha : Nat.ble args.length n = true)
    (h : ∀ W Mf Rf, Imp W n [] (argsL args 0) (r :: Mf) (R0 ++ Rf) (c.wp P (bodyPostM Fence.wide 0 P fn (RetE W Mf (R0 ++ Rf) Post)))) : FnS P k args [r] R0 Post := FnS.introM he hf hb hn ha h
end Go.G

namespace Go.G
variable {P : Program} {W : World} {n : Nat} {D : List Deferred} {L : Tm} {M : List Res} {R : List Fact} {Q : Exit → Act → World → Prop} {o : Oper} {F : Fence} {m0 : Nat}
theorem anyIn_of_any {ops : Array Oper} (hF : WideF P F) (hnd : ∀ (i : Nat) (o : Oper), ops[i]? = some o → noDefer o.op = true) (hno : ∀ a w, Q .outgrown a w → False) : ∀ {fuel : Nat} {listed : Array Bool} {a : Act} {w : World}, wpAny P .any ops Q fuel listed a w → wpAnyIn F m0 P .any ops Q fuel listed a w
  | 0, _, _, _, h => h
  | fuel + 1, listed, a, w, h => by
    refine ⟨h.1, fun i hi => ?_⟩
    have h2 := h.2 i hi
    unfold wpOp at h2
    unfold wpOpIn
    cases ho : ops[i]? with
    | none =>
      rw [ho] at h2
      exact anyIn_of_any hF hnd hno h2
    | some o =>
      rw [ho] at h2
      dsimp only at h2 ⊢
      split
      · rename_i hw
        rw [if_pos hw] at h2
        rcases h2 with h2 | ⟨_, a0, w0, h3⟩
        · exact Oper.wpIn_mono (fun _ _ h' => anyIn_of_any hF hnd hno h') (opIn_of_wp hF (hnd i o ho) h2)
        · exact (hno _ _ h3).elim
      · rename_i hw
        rw [if_neg hw] at h2
        exact ⟨fun f _ => hF.fn f, anyIn_of_any hF hnd hno h2⟩
theorem ri_parZ {id : Nat} {l : List Oper} (Z : World → Prop) (hZ : ∀ X F w, St W (X ++ M) (F ++ R) w → Z w) (fl : List Nat) (m : Nat) (hF : WideF P F) (hnd : l.all (fun o => noDefer o.op) = true) (hml : Nat.ble m l.length = true) (hns : Region.noSelect l.toArray = true) (hbk : backB l = true) (htl : tailF fl (masks l []) m l.length = true) (hfs : freesB l fl = true)
    (hm : P.follows .mixedOrders = true) (hpb : parB ((floatL fl m l).take m) ((floatL fl m l).drop m) = true) (hfr : freshB L ((floatL fl m l).take m) = true)
    (h : ParO P W n M R (floatL fl m l).toArray (fun ss => FlZ Z P n L ((floatL fl m l).take m) ss fl ∧ preOf ss = [] ∧ lateX (floatL fl m l).toArray ss = true ∧ Fin W n D (wpListZ Z P (floatL fl m l).toArray (NoP Q) ((floatL fl m l).drop m)) ((floatL fl m l).take m) ss L M R) ((floatL fl m l).take m) [] L) : Imp W n D L M R ((Code.region id l.toArray true).wpIn F m0 P Q) := by
  have hml : m ≤ l.length := by simpa using hml
  intro a w h1 h2 h3
  refine Go.wpIn_mono (Q := NoP Q) ?_ (fun e a' w' he => ?_)
  rotate_left
  · cases e with
    | normal => exact he
    | _ => exact he.elim
  refine wpIn_region_any hm (anyIn_of_any hF (fun i o ho => ?_) (fun _ _ h => h) ?_)
  · have : l[i]? = some o := by simpa using ho
    exact List.all_eq_true.1 hnd o (List.mem_of_getElem? this)
  obtain ⟨ss, hl, ⟨hsi, hpre, hlx, hfin⟩, hs⟩ := ParO.out ((floatL fl m l).take m) [] L h
  rw [List.nil_append] at hsi hpre hlx hfin
  have hLB : lateB (floatL fl m l).toArray ss 0 ss = true := by simp only [lateX, Bool.and_eq_true] at hlx; exact hlx.1
  have hlk : ∀ o ∈ (floatL fl m l).take m, look L (o.dst.getD 1000000) = none := fun o ho => by
    have := List.all_eq_true.1 hfr o ho
    simpa using this
  refine (floatZ_all hZ hml hpb hl hlk (lateOK_of hLB) (fun k s c e1 e2 => (lateX_ab hlx k s c e1 e2).elim) (fun k o s e1 e2 => by
    have := hs k o s e1 e2
    rw [List.nil_append, List.length_nil, Nat.zero_add] at this
    exact this) hfin hsi hns hbk htl hfs _ _ _ _ ⟨?_, ?_, ?_, h1, h2, fun _ => undef, ?_, ?_⟩ ?_).any
  · simp [floatL_len]
  · intro j o _ hj
    rw [rep_false] at hj; cases hj
  · intro t _ ht
    have : t < l.length := by simpa [floatL_len] using ht
    simp [this]
  · intro i o s e1 _ hj
    rw [rep_false] at hj; cases hj
  · have e1 : resOf ss (Array.replicate l.toArray.size false) (fun _ => undef) ((floatL fl m l).take m).length = [] := by
      rw [← hpre, ← preOf_range, hl]
      refine flatMap_same _ _ _ fun j hj => ?_
      rw [rep_false]; rfl
    have e2 : ∀ k, fctOf ss (Array.replicate l.toArray.size false) (fun _ => undef) k = [] := by
      intro k
      unfold fctOf
      induction k with
      | zero => rfl
      | succ k ih => rw [List.range_succ, List.flatMap_append, ih, List.nil_append, List.flatMap_cons, List.flatMap_nil, List.append_nil, rep_false]; rfl
    rw [e1, e2]
    exact h3.heap rfl rfl rfl rfl
  · have := unl_tail (N := l.length) (m := 0) (listed := Array.replicate l.length false) (fun i hi => by omega)
    simpa using this
end Go.G

namespace Go.G
variable {P : Program} {W : World} {n : Nat} {D : List Deferred} {L : Tm} {M : List Res} {R : List Fact} {Q : Exit → Act → World → Prop} {o : Oper} {Z : World → Prop}
def FlY (Z : World → Prop) (P : Program) (n : Nat) (L : Tm) (free : List Oper) (ss : List Spc) : List Nat → Prop
  | [] => True
  | i :: r => (∃ (o : Oper) (s : Spc) (d : Nat), free[i]? = some o ∧ ss[i]? = some s ∧ o.guard = none ∧ o.dst = some d ∧ Nat.blt d n = true ∧ s.of = none ∧ s.pre = [] ∧ (∀ u, s.rs u = []) ∧
      ((∃ v, s = Spc.q v ∧ ∀ a, FSat n (detL (free.take i) (ss.take i) L) a → ∀ w, Z w → (execOp a.eval o).run P w = .ok (.value v) w) ∨
       (s.det = none ∧ ∃ (j : Nat) (oj : Oper) (sj : Spc) (f : Value → Value), free[j]? = some oj ∧ ss[j]? = some sj ∧ sj.det = none ∧ depOn o j = true ∧ oj.dst.isSome = true ∧
         ∀ u, sj.pval u → s.pval (f u) ∧ (∀ φ ∈ s.fct (f u), φ ∈ sj.fct u) ∧ ∀ a, FSat n ((oj.dst.getD 1000000, u) :: detL (free.take i) (ss.take i) L) a → ∀ w, Z w → (execOp a.eval o).run P w = .ok (.value (f u)) w))) ∧ FlY Z P n L free ss r
theorem FlY.at {free : List Oper} {ss : List Spc} : ∀ {fl : List Nat}, FlY Z P n L free ss fl → ∀ i ∈ fl, (∃ (o : Oper) (s : Spc) (d : Nat), free[i]? = some o ∧ ss[i]? = some s ∧ o.guard = none ∧ o.dst = some d ∧ Nat.blt d n = true ∧ s.of = none ∧ s.pre = [] ∧ (∀ u, s.rs u = []) ∧
      ((∃ v, s = Spc.q v ∧ ∀ a, FSat n (detL (free.take i) (ss.take i) L) a → ∀ w, Z w → (execOp a.eval o).run P w = .ok (.value v) w) ∨
       (s.det = none ∧ ∃ (j : Nat) (oj : Oper) (sj : Spc) (f : Value → Value), free[j]? = some oj ∧ ss[j]? = some sj ∧ sj.det = none ∧ depOn o j = true ∧ oj.dst.isSome = true ∧
         ∀ u, sj.pval u → s.pval (f u) ∧ (∀ φ ∈ s.fct (f u), φ ∈ sj.fct u) ∧ ∀ a, FSat n ((oj.dst.getD 1000000, u) :: detL (free.take i) (ss.take i) L) a → ∀ w, Z w → (execOp a.eval o).run P w = .ok (.value (f u)) w)))
  | [], _, _, h => by cases h
  | j :: r, ⟨h1, h2⟩, i, hi => by
    rcases List.mem_cons.1 hi with rfl | hi
    · exact h1
    · exact FlY.at h2 i hi
end Go.G

namespace Go.G
variable {P : Program} {W : World} {n : Nat} {D : List Deferred} {L : Tm} {M : List Res} {R : List Fact} {Q : Exit → Act → World → Prop} {o : Oper} {Z : World → Prop}
def ren (τ : Nat → Nat) (o : Oper) : Oper := { o with after := o.after.map fun e => { e with on := τ e.on }, guard := o.guard.map fun p => (τ p.1, p.2) }
def permL (σ : List Nat) (l : List Oper) : List Oper := σ.map fun i => match l[i]? with | some o => ren (fun j => σ.idxOf j) o | none => { dst := none, op := .move (.tmp 0), type := 0, pos := "", after := #[], guard := none }
def permB (σ : List Nat) (l : List Oper) : Bool := nodupB σ && Nat.beq σ.length l.length && (List.range l.length).all (fun j => Nat.blt (σ.idxOf j) σ.length) && σ.all (fun i => Nat.blt i l.length) &&
  l.all (fun o => o.after.all (fun e => Nat.blt e.on l.length) && match o.guard with | some (g, _) => Nat.blt g l.length | none => true)
structure PermOK (σ : List Nat) (l : List Oper) : Prop where
  len : σ.length = l.length
  at_ : ∀ j, j < l.length → σ.idxOf j < σ.length ∧ σ[σ.idxOf j]? = some j
  inv : ∀ k (i : Nat), σ[k]? = some i → i < l.length ∧ σ.idxOf i = k
  edge : ∀ o ∈ l, ∀ e ∈ o.after, e.on < l.length
  gd : ∀ o ∈ l, ∀ g b, o.guard = some (g, b) → g < l.length
theorem permOK_of {σ : List Nat} {l : List Oper} (h : permB σ l = true) : PermOK σ l := by
  simp only [permB, Bool.and_eq_true] at h
  obtain ⟨⟨⟨⟨h0, h1⟩, h2⟩, h3⟩, h4⟩ := h
  have hlen : σ.length = l.length := by simpa using h1
  have hat : ∀ j, j < l.length → σ.idxOf j < σ.length ∧ σ[σ.idxOf j]? = some j := fun j hj => by
    have := List.all_eq_true.1 h2 j (List.mem_range.2 hj)
    have hlt : σ.idxOf j < σ.length := by simpa using this
    exact ⟨hlt, by rw [List.getElem?_eq_getElem hlt, List.getElem_idxOf hlt]⟩
  have hmem : ∀ i ∈ σ, i < l.length := fun i hi => by simpa using List.all_eq_true.1 h3 i hi
  have hnd : σ.Nodup := nodupB_sound h0
  refine ⟨hlen, hat, fun k i hk => ?_, fun o ho e he => ?_, fun o ho g b hg => ?_⟩
  · have hi := hmem i (List.mem_of_getElem? hk)
    refine ⟨hi, ?_⟩
    obtain ⟨g1, g2⟩ := hat i hi
    have hk2 := List.getElem?_eq_some_iff.1 hk
    have g3 := List.getElem?_eq_some_iff.1 g2
    exact (List.getElem_inj hnd).1 (g3.2.trans hk2.2.symm)
  · have := List.all_eq_true.1 h4 o ho
    simp only [Bool.and_eq_true] at this
    simpa using Array.all_eq_true_iff_forall_mem.1 this.1 e he
  · have := List.all_eq_true.1 h4 o ho
    simp only [Bool.and_eq_true, hg] at this
    simpa using this.2
section
variable {σ : List Nat} {l : List Oper}
theorem permL_at (h : PermOK σ l) {k i : Nat} (hk : σ[k]? = some i) : ∃ o, l[i]? = some o ∧ (permL σ l)[k]? = some (ren (fun j => σ.idxOf j) o) := by
  obtain ⟨hi, _⟩ := h.inv k i hk
  refine ⟨l[i], List.getElem?_eq_getElem hi, ?_⟩
  unfold permL
  rw [List.getElem?_map, hk, Option.map_some, List.getElem?_eq_getElem hi]
theorem permL_len (σ : List Nat) (l : List Oper) : (permL σ l).length = σ.length := by unfold permL; rw [List.length_map]
def SameL (σ : List Nat) (listed listed' : Array Bool) : Prop := listed.size = σ.length ∧ listed'.size = σ.length ∧ ∀ k (i : Nat), σ[k]? = some i → ∀ d, listed'.getD k d = listed.getD i d
theorem perm_ready (h : PermOK σ l) {listed listed' : Array Bool} (hs : SameL σ listed listed') {k i : Nat} (hk : σ[k]? = some i) : k ∈ Region.ready .any (permL σ l).toArray listed' ↔ i ∈ Region.ready .any l.toArray listed := by
  obtain ⟨o, ho, hp⟩ := permL_at h hk
  have hom : o ∈ l := List.mem_of_getElem? ho
  have hedge : ∀ e ∈ o.after, listed'.getD (σ.idxOf e.on) false = listed.getD e.on false := fun e he => by
    have := h.edge o hom e he
    exact hs.2.2 _ _ (h.at_ e.on this).2 false
  constructor
  · intro hr
    obtain ⟨h0, o', ho', hall⟩ := mem_ready.1 hr
    have : o' = ren (fun j => σ.idxOf j) o := Option.some.inj (ho'.symm.trans (by simpa using hp))
    subst this
    refine mem_ready.2 ⟨by rw [← hs.2.2 k i hk true]; exact h0, o, by simpa using ho, fun e he hb => ?_⟩
    have := hall { e with on := σ.idxOf e.on } (Array.mem_map.2 ⟨e, he, rfl⟩) hb
    rw [← hedge e he]; exact this
  · intro hr
    obtain ⟨h0, o', ho', hall⟩ := mem_ready.1 hr
    have : o' = o := Option.some.inj (ho'.symm.trans (by simpa using ho))
    subst this
    refine mem_ready.2 ⟨by rw [hs.2.2 k i hk true]; exact h0, _, by simpa using hp, fun e he hb => ?_⟩
    obtain ⟨e0, he0, rfl⟩ := Array.mem_map.1 he
    show listed'.getD (σ.idxOf e0.on) false = true
    rw [hedge e0 he0]; exact hall e0 he0 hb
theorem perm_yielded (h : PermOK σ l) (tmps : Array Value) {g : Nat} (hg : g < l.length) : yielded (permL σ l).toArray tmps (σ.idxOf g) = yielded l.toArray tmps g := by
  obtain ⟨_, h2⟩ := h.at_ g hg
  obtain ⟨o, ho, hp⟩ := permL_at h h2
  unfold yielded
  rw [List.getElem?_toArray, List.getElem?_toArray, ho, hp]
  rfl
theorem perm_op (h : PermOK σ l) {k i : Nat} (hk : σ[k]? = some i) {K : Act → World → Prop} {a : Act} {w : World} (hw : wpOp P (permL σ l).toArray Q k K a w) : wpOp P l.toArray Q i K a w := by
  obtain ⟨o, ho, hp⟩ := permL_at h hk
  have hom : o ∈ l := List.mem_of_getElem? ho
  unfold wpOp at *
  rw [List.getElem?_toArray] at hw ⊢
  rw [hp] at hw
  rw [ho]
  have hwant : Region.wanted (ren (fun j => σ.idxOf j) o) (yielded (permL σ l).toArray a.tmps) = Region.wanted o (yielded l.toArray a.tmps) := by
    unfold Region.wanted ren
    cases hgd : o.guard with
    | none => rfl
    | some p =>
      obtain ⟨g, b⟩ := p
      dsimp only [Option.map]
      rw [perm_yielded h a.tmps (h.gd o hom g b hgd)]
  dsimp only at hw ⊢
  rw [hwant] at hw
  exact hw
theorem same_set (h : PermOK σ l) {listed listed' : Array Bool} (hs : SameL σ listed listed') {k i : Nat} (hk : σ[k]? = some i) : SameL σ (listed.setIfInBounds i true) (listed'.setIfInBounds k true) := by
  refine ⟨by simp [hs.1], by simp [hs.2.1], fun k' i' hk' d => ?_⟩
  by_cases e : k = k'
  · subst e
    have : i = i' := Option.some.inj (hk.symm.trans hk')
    subst this
    have h1 : k < listed'.size := by rw [hs.2.1]; exact (List.getElem?_eq_some_iff.1 hk).1
    have h2 : i < listed.size := by rw [hs.1, h.len]; exact (h.inv k i hk).1
    simp [h1, h2]
  · have hne : i ≠ i' := fun e2 => by
      subst e2
      exact e ((h.inv k i hk).2.symm.trans (h.inv k' i hk').2)
    rw [getD_set_ne d e, getD_set_ne d hne]
    exact hs.2.2 k' i' hk' d
theorem perm_any (h : PermOK σ l) : ∀ (fuel : Nat) (listed listed' : Array Bool) (a : Act) (w : World), SameL σ listed listed' → wpAny P .any (permL σ l).toArray Q fuel listed' a w → wpAny P .any l.toArray Q fuel listed a w := by
  have nil : ∀ {listed listed' : Array Bool}, SameL σ listed listed' → Region.ready .any l.toArray listed = [] → Region.ready .any (permL σ l).toArray listed' = [] := fun {listed listed'} hs hr => by
    apply List.eq_nil_iff_forall_not_mem.2
    intro k hk
    have hlt : k < σ.length := by
      obtain ⟨_, o, ho, _⟩ := mem_ready.1 hk
      have := (Array.getElem?_eq_some_iff.1 ho).1
      simpa [permL_len] using this
    have := (perm_ready h hs (List.getElem?_eq_getElem hlt)).1 hk
    rw [hr] at this; cases this
  have nil' : ∀ {listed listed' : Array Bool}, SameL σ listed listed' → Region.ready .any (permL σ l).toArray listed' = [] → Region.ready .any l.toArray listed = [] := fun {listed listed'} hs hr => by
    apply List.eq_nil_iff_forall_not_mem.2
    intro i hi
    have hlt : i < l.length := by
      obtain ⟨_, o, ho, _⟩ := mem_ready.1 hi
      simpa using (Array.getElem?_eq_some_iff.1 ho).1
    have := (perm_ready h hs (h.at_ i hlt).2).2 hi
    rw [hr] at this; cases this
  intro fuel
  induction fuel with
  | zero => intro listed listed' a w hs hw; exact ⟨nil' hs hw.1, hw.2⟩
  | succ fuel ih =>
    intro listed listed' a w hs hw
    refine ⟨fun hr => hw.1 (nil hs hr), fun i hi => ?_⟩
    have hlt : i < l.length := by
      obtain ⟨_, o, ho, _⟩ := mem_ready.1 hi
      simpa using (Array.getElem?_eq_some_iff.1 ho).1
    have hk := (h.at_ i hlt).2
    exact wpOp_mono (fun a' w' h' => ih _ _ a' w' (same_set h hs hk) h') (perm_op h hk (hw.2 _ ((perm_ready h hs hk).2 hi)))
end
end Go.G

namespace Go.G
variable {P : Program} {W : World} {n : Nat} {D : List Deferred} {L : Tm} {M : List Res} {R : List Fact} {Q : Exit → Act → World → Prop} {o : Oper} {Z : World → Prop}
theorem r_parPZ {id : Nat} {l0 l : List Oper} (σ : List Nat) (hpm : permB σ l0 = true) (hl0 : permL σ l0 = l) (Z : World → Prop) (hZ : ∀ X F w, St W (X ++ M) (F ++ R) w → Z w) (fl : List Nat) (m : Nat) (hml : Nat.ble m l.length = true) (hns : Region.noSelect l.toArray = true) (hbk : backB l = true) (htl : tailF fl (masks l []) m l.length = true) (hfs : freesB l fl = true)
    (hm : P.follows .mixedOrders = true) (hpb : parB ((floatL fl m l).take m) ((floatL fl m l).drop m) = true) (hfr : freshB L ((floatL fl m l).take m) = true)
    (h : ParO P W n M R (floatL fl m l).toArray (fun ss => FlZ Z P n L ((floatL fl m l).take m) ss fl ∧ preOf ss = [] ∧ lateX (floatL fl m l).toArray ss = true ∧ Fin W n D (wpListZ Z P (floatL fl m l).toArray (NoP Q) ((floatL fl m l).drop m)) ((floatL fl m l).take m) ss L M R) ((floatL fl m l).take m) [] L) : Imp W n D L M R ((Code.region id l0.toArray true).wp P Q) := by
  have hml : m ≤ l.length := by simpa using hml
  intro a w h1 h2 h3
  refine Code.wp_mono (Q := NoP Q) (fun e a' w' he => ?_) ?_
  · cases e with
    | normal => exact he
    | _ => exact he.elim
  refine wp_region_any hm ?_
  have hpk := permOK_of hpm
  have hsz : l0.length = l.length := by rw [← hl0, permL_len, hpk.len]
  rw [show l0.toArray.size = l.toArray.size by simpa using hsz]
  refine perm_any hpk _ _ (Array.replicate l.toArray.size false) _ _ ⟨by simp [hpk.len, hsz], by simp [hpk.len, hsz], fun k i hk d => ?_⟩ ?_
  · have h1 : k < l.length := by rw [← hsz, ← hpk.len]; exact (List.getElem?_eq_some_iff.1 hk).1
    have h2 : i < l.length := by rw [← hsz]; exact (hpk.inv k i hk).1
    simp [h1, h2]
  rw [hl0]
  obtain ⟨ss, hl, ⟨hsi, hpre, hlx, hfin⟩, hs⟩ := ParO.out ((floatL fl m l).take m) [] L h
  rw [List.nil_append] at hsi hpre hlx hfin
  have hLB : lateB (floatL fl m l).toArray ss 0 ss = true := by simp only [lateX, Bool.and_eq_true] at hlx; exact hlx.1
  have hlk : ∀ o ∈ (floatL fl m l).take m, look L (o.dst.getD 1000000) = none := fun o ho => by
    have := List.all_eq_true.1 hfr o ho
    simpa using this
  refine (floatZ_all hZ hml hpb hl hlk (lateOK_of hLB) (fun k s c e1 e2 => (lateX_ab hlx k s c e1 e2).elim) (fun k o s e1 e2 => by
    have := hs k o s e1 e2
    rw [List.nil_append, List.length_nil, Nat.zero_add] at this
    exact this) hfin hsi hns hbk htl hfs _ _ _ _ ⟨?_, ?_, ?_, h1, h2, fun _ => undef, ?_, ?_⟩ ?_).any
  · simp [floatL_len]
  · intro j o _ hj
    rw [rep_false] at hj; cases hj
  · intro t _ ht
    have : t < l.length := by simpa [floatL_len] using ht
    simp [this]
  · intro i o s e1 _ hj
    rw [rep_false] at hj; cases hj
  · have e1 : resOf ss (Array.replicate l.toArray.size false) (fun _ => undef) ((floatL fl m l).take m).length = [] := by
      rw [← hpre, ← preOf_range, hl]
      refine flatMap_same _ _ _ fun j hj => ?_
      rw [rep_false]; rfl
    have e2 : ∀ k, fctOf ss (Array.replicate l.toArray.size false) (fun _ => undef) k = [] := by
      intro k
      unfold fctOf
      induction k with
      | zero => rfl
      | succ k ih => rw [List.range_succ, List.flatMap_append, ih, List.nil_append, List.flatMap_cons, List.flatMap_nil, List.append_nil, rep_false]; rfl
    rw [e1, e2]
    exact h3.heap rfl rfl rfl rfl
  · have := unl_tail (N := l.length) (m := 0) (listed := Array.replicate l.length false) (fun i hi => by omega)
    simpa using this
end Go.G

namespace Go.Proofs.YtpndeonmmcaikaaGreat.SodW
open Go.G Foot4 Sod2
set_option maxRecDepth 1000000
attribute [local irreducible] G.ParO G.Fin
attribute [local irreducible] strokes strS cntTo nowF bk logD someTo upTo sodsOf cutL one preC nxC costsL
variable (B : Bank) (po so lo : Option Addr) (pc sc lc : Nat)
variable (fb mb : Nat)
def capC : Value → Nat
  | .func _ _ cs => blk (cs.getD 0 undef)
  | _ => 0
theorem FnC.toM {k : FuncId} {args : List Value} {m : Res} {R0 : List Fact} {v : Value} (h : FnC Tryz.prog k args m R0 v m) : FnM Tryz.prog k args m R0 (fun u => u = v) :=
  ⟨h.enter, fun W M Rf w hw => (h.calls W M Rf w hw).mono fun e w' ⟨M', R', ⟨he, hM, hR⟩, hs⟩ => by subst hM; subst hR; exact ⟨v, he, rfl, hs.weak (fun φ hφ => by simpa using hφ)⟩⟩
theorem r_round_retP {β : Code → Type} {N : (c : Code) → β c → List Res} {W : World} {n : Nat} {D : List Deferred} {L : Tm} {M M0 : List Res} {R R0 : List Fact} {J1 : Res} (x : β .ret) (hM : SelM M (N .ret x ++ M0)) (hR : SubR R R0) : Imp W n D L M R (RoundQ W J1 (fun c => exR (N c)) M0 R0 .ret) :=
  fun _ _ _ _ h3 => St.pk x ((h3.sel hM).weak hR)
theorem r_roundP {α : Type} {N : α → List Res} {Jx : Code → Res} {W : World} {n : Nat} {D : List Deferred} {L : Tm} {M M0 : List Res} {R R0 : List Fact} (x : α) (hM : SelM M (N x ++ M0)) (hR : SubR R R0) : Imp W n D L M R (RoundQ W (exR N) Jx M0 R0 .normal) :=
  fun _ _ _ _ h3 => St.pk x ((h3.sel hM).weak hR)
set_option maxHeartbeats 4000000 in
theorem costs_r  : FnR Tryz.prog 160 [pt fb 0] [] (fun v => v = .func (.func 188) #[] #[pt (capC v) 0]) (fun v => [boxF (capC v) 147 [pt fb 0]]) := by
 refine FnR.intro Tryz.call160 Tryz.func160 rfl Tryz.ntmps160 rfl ?_; intro W M Rf; refine r_seq (r_region ?_); refine o_box1 rfl rfl rfl rfl rfl rfl (fun b1 => ?_); refine q_as rfl rfl rfl rfl rfl ?_; refine o_nil (r_then (r_seq (r_region ?_))); refine o_q _ rfl rfl rfl (v_makeFunc rfl rfl rfl) ?_; refine q_as rfl rfl rfl rfl rfl ?_; refine o_nil (r_then ?_); refine r_ret ?_; refine Imp.sealB b1 ?_; exact r_retr (Rd.tmp rfl rfl) rfl SelMC.sel (fun _ h => h)
set_option maxHeartbeats 4000000 in
theorem on_0 {W : World} {l : Nat} {J Jx : Nat → Res} {Rf : List Fact} {xs : List T3} (hY : G.Yields Tryz.prog W l (fun c : T3 => [v3 c]) xs J Jx Rf) (c1 yb ob : Nat) (hg : GoodS B) (c : T3) (i i0 : Nat) (hi : i = B.spits.length) (hx : xs[i0]? = some c) : FnY Tryz.prog W 189 [v3 (c), i64 ((i : Nat) : Int), pt c1 0, pt yb 0, pt ob 0] (J (i0)) (J (i0 + 1)) (jxR Jx xs.length) [boxF c1 147 [pt fb 0], boxF yb 323 [.func (.yield l) #[] #[]], boxF ob 324 [.func (.func 189) #[] #[pt c1 0, pt yb 0, pt ob 0]], boxF fb 213 [.slice po B.spits.length pc, .slice so B.days.length sc, .slice lo B.logs.length lc, .map (some mb)], rowD po 3 encSp B.spits, rowD so 2 encS B.days, rowD lo 3 encLg B.logs] Rf := by
 refine FnY.intro Tryz.call189 Tryz.func189 rfl Tryz.ntmps189 rfl ?_; intro M Ri; refine r_seq ?_; have hlt : i0 < xs.length := (List.getElem?_eq_some_iff.1 hx).1; refine r_region ?_; refine o_boxA rfl rfl rfl rfl rfl (fun b5 => ?_); refine q_as rfl rfl rfl rfl rfl ?_; refine o_nil (r_then (r_seq ?_)); refine r_seq (r_region ?_); refine q_mv rfl rfl rfl rfl rfl ?_; refine o_q _ rfl rfl rfl (v_lf1 rfl Tryz.underlying147 rfl rfl rfl) ?_; refine o_q _ rfl rfl rfl (v_nilCheck rfl rfl) ?_; refine o_q _ rfl rfl rfl (v_fieldAddr rfl Tryz.underlying213 inf62 rfl rfl rfl rfl) ?_; refine o_q _ rfl rfl rfl (v_fieldAddr rfl Tryz.underlying62 inf58 rfl rfl rfl rfl) ?_; refine o_q _ rfl rfl rfl (v_lf1 rfl Tryz.underlying58 rfl rfl rfl) ?_; refine o_q _ rfl rfl rfl (v_len rfl rfl Tryz.underlying58 rfl) ?_; refine o_q _ rfl rfl rfl (v_eql rfl rfl rfl) ?_; refine o_nil (r_then ?_); refine r_condd rfl (fun hc16 => ?_) (fun hc16 => ?_)
 ·
  refine r_seq ?_; refine r_region_in ?_; refine oi_lift wideF rfl (fun _ _ h => by rcases h with ⟨h, _⟩ | ⟨h, _⟩ <;> cases h) ?_; refine o_q _ rfl rfl rfl (v_lf1 rfl Tryz.underlying323 rfl rfl rfl) ?_; refine o_nil (r_then ?_); refine oi_lift wideF rfl (fun _ _ h => by rcases h with ⟨h, _⟩ | ⟨h, _⟩ <;> cases h) ?_; refine o_q _ rfl rfl rfl (v_ldW rfl Tryz.underlying216 rfl inf216 rfl rfl) ?_; refine o_nil (r_then ?_); refine oi_yields (Ri := [boxF c1 147 [pt fb 0], boxF yb 323 [.func (.yield l) #[] #[]], boxF ob 324 [.func (.func 189) #[] #[pt c1 0, pt yb 0, pt ob 0]], boxF fb 213 [.slice po B.spits.length pc, .slice so B.days.length sc, .slice lo B.logs.length lc, .map (some mb)], rowD po 3 encSp B.spits, rowD so 2 encS B.days, rowD lo 3 encLg B.logs] ++ Ri) hY hx rfl rfl rfl rfl rfl rfl rfl ?_ ?_
  all_goals
   refine oi_lift wideF rfl (fun _ _ h => by rcases h with ⟨h, _⟩ | ⟨h, _⟩ <;> cases h) ?_; refine q_as rfl rfl rfl rfl rfl ?_; refine o_nil (r_then ?_); refine oi_nil ?_; refine r_then ?_; refine r_ret ?_; (with_reducible refine r_then_ret ?_)
   first
   | exact r_yes (Rd.tmp rfl rfl) SelMC.sel SubRC.sub
   | (refine Imp.jx_pk (Jx := Jx) (N := xs.length) (i := i0 + 1) ⟨by omega, by omega⟩ ?_; exact r_no (Rd.tmp rfl rfl) SelMC.sel SubRC.sub)
 ·
  (exfalso; omega)
set_option maxHeartbeats 4000000 in
theorem on_s {W : World} {l : Nat} {J Jx : Nat → Res} {Rf : List Fact} {xs : List T3} (hY : G.Yields Tryz.prog W l (fun c : T3 => [v3 c]) xs J Jx Rf) (c1 yb ob : Nat) (hg : GoodS B) (c : T3) (i i0 : Nat) (hi : i < B.spits.length) (ih : ∀ (c2 : T3) (j0 : Nat), SubL (costsL (B.spits.drop (i + 1)) (i + 1) c2) xs j0 → FnY Tryz.prog W 189 [v3 (c2), i64 ((i + 1 : Nat) : Int), pt c1 0, pt yb 0, pt ob 0] (J (j0)) (J (j0 + (costsL (B.spits.drop (i + 1)) (i + 1) c2).length)) (jxR Jx xs.length) [boxF c1 147 [pt fb 0], boxF yb 323 [.func (.yield l) #[] #[]], boxF ob 324 [.func (.func 189) #[] #[pt c1 0, pt yb 0, pt ob 0]], boxF fb 213 [.slice po B.spits.length pc, .slice so B.days.length sc, .slice lo B.logs.length lc, .map (some mb)], rowD po 3 encSp B.spits, rowD so 2 encS B.days, rowD lo 3 encLg B.logs] Rf) (hx : SubL (preC B c i (cntC B i)) xs i0) : FnY Tryz.prog W 189 [v3 (c), i64 ((i : Nat) : Int), pt c1 0, pt yb 0, pt ob 0] (J (i0)) (J (i0 + (preC B c i (cntC B i)).length)) (jxR Jx xs.length) [boxF c1 147 [pt fb 0], boxF yb 323 [.func (.yield l) #[] #[]], boxF ob 324 [.func (.func 189) #[] #[pt c1 0, pt yb 0, pt ob 0]], boxF fb 213 [.slice po B.spits.length pc, .slice so B.days.length sc, .slice lo B.logs.length lc, .map (some mb)], rowD po 3 encSp B.spits, rowD so 2 encS B.days, rowD lo 3 encLg B.logs] Rf := by
 refine FnY.intro Tryz.call189 Tryz.func189 rfl Tryz.ntmps189 rfl ?_; intro M Ri; refine r_seq ?_; have h3 := hg.1; have hsp := hg.2.2.2.1 i hi; refine r_region ?_; refine o_boxA rfl rfl rfl rfl rfl (fun b5 => ?_); refine q_as rfl rfl rfl rfl rfl ?_; refine o_nil (r_then (r_seq ?_)); refine r_seq (r_region ?_); refine q_mv rfl rfl rfl rfl rfl ?_; refine o_q _ rfl rfl rfl (v_lf1 rfl Tryz.underlying147 rfl rfl rfl) ?_; refine o_q _ rfl rfl rfl (v_nilCheck rfl rfl) ?_; refine o_q _ rfl rfl rfl (v_fieldAddr rfl Tryz.underlying213 inf62 rfl rfl rfl rfl) ?_; refine o_q _ rfl rfl rfl (v_fieldAddr rfl Tryz.underlying62 inf58 rfl rfl rfl rfl) ?_; refine o_q _ rfl rfl rfl (v_lf1 rfl Tryz.underlying58 rfl rfl rfl) ?_; refine o_q _ rfl rfl rfl (v_len rfl rfl Tryz.underlying58 rfl) ?_; refine o_q _ rfl rfl rfl (v_eql rfl rfl rfl) ?_; refine o_nil (r_then ?_); refine r_condd rfl (fun hc16 => ?_) (fun hc16 => ?_)
 ·
  (exfalso; omega)
 ·
  refine r_skip (r_then ?_); refine r_seq ?_; refine r_seq (r_region ?_); refine o_q _ rfl rfl rfl (v_lf1 rfl Tryz.underlying147 rfl rfl rfl) ?_; refine o_q _ rfl rfl rfl (v_nilCheck rfl rfl) ?_; refine o_q _ rfl rfl rfl (v_fieldAddr rfl Tryz.underlying213 inf62 rfl rfl rfl rfl) ?_; refine o_q _ rfl rfl rfl (v_fieldAddr rfl Tryz.underlying62 inf58 rfl rfl rfl rfl) ?_; refine o_q _ rfl rfl rfl (v_lf1 rfl Tryz.underlying58 rfl rfl rfl) ?_; refine q_mv rfl rfl rfl rfl rfl ?_; refine o_q _ rfl rfl rfl (v_indexAddrSn rfl Tryz.underlying58 inf135 rfl rfl rfl (by omega) rfl) ?_; refine o_q _ rfl rfl rfl (v_fieldAddr rfl Tryz.underlying135 inf43 rfl rfl rfl rfl) ?_; refine o_q _ rfl rfl rfl (v_fieldAddr rfl Tryz.underlying43 inf3 rfl rfl rfl rfl) ?_; refine o_q _ rfl rfl rfl (v_loadE1 rfl Tryz.underlying3 rfl rfl (by omega) rfl rfl) ?_; refine q_as rfl rfl rfl rfl rfl ?_; refine o_nil (r_then ?_); refine r_block ?_; refine r_loop (ι := Nat × T3) (fun gh => gh.1 ≤ cntC B i ∧ ∀ x, set3 gh.2 i x = set3 c i x) (fun gh => [(1, i64 (i : Int)), (2, pt c1 0), (3, pt yb 0), (4, pt ob 0), (5, pt b5 0), (8, i64 ((B.spits.getD i default).lo + (gh.1 : Int)))]) (fun gh => J (i0 + (preC B c i gh.1).length) :: bx b5 216 [i64 gh.2.a, i64 gh.2.b, i64 gh.2.c] :: M) (fun gh => ([boxF c1 147 [pt fb 0], boxF yb 323 [.func (.yield l) #[] #[]], boxF ob 324 [.func (.func 189) #[] #[pt c1 0, pt yb 0, pt ob 0]], boxF fb 213 [.slice po B.spits.length pc, .slice so B.days.length sc, .slice lo B.logs.length lc, .map (some mb)], rowD po 3 encSp B.spits, rowD so 2 encS B.days, rowD lo 3 encLg B.logs] ++ Ri) ++ Rf) (fun gh => cntC B i - gh.1) (0, c) ?_ ?_ ?_
  ·
   rw [show J i0 = J (i0 + (preC B c i ((0, c) : Nat × T3).1).length) from by rw [preC]; rfl]; exact r_here (by repeat (first | exact FSub.nil | refine FSub.cons rfl ?_ | refine FSub.cons2 rfl (congrArg (Value.int .i64) (by show _ = _ + ((0 : Nat) : Int); omega)) ?_)) SelMC.sel SubRC.sub
  ·
   exact ⟨Nat.zero_le _, fun x => rfl⟩
  ·
   rintro ⟨k, cc⟩ hI0; dsimp only at hI0; dsimp only; have hcn : cntC B i = ((B.spits.getD i default).hi - (B.spits.getD i default).lo + 1).toNat := rfl; have h3 := hg.1; have hsp := hg.2.2.2.1 i hi; refine r_seq ?_; refine r_seq (r_region ?_); refine q_mv rfl rfl rfl rfl rfl ?_; refine o_q _ rfl rfl rfl (v_lf1 rfl Tryz.underlying147 rfl rfl rfl) ?_; refine o_q _ rfl rfl rfl (v_nilCheck rfl rfl) ?_; refine o_q _ rfl rfl rfl (v_fieldAddr rfl Tryz.underlying213 inf62 rfl rfl rfl rfl) ?_; refine o_q _ rfl rfl rfl (v_fieldAddr rfl Tryz.underlying62 inf58 rfl rfl rfl rfl) ?_; refine o_q _ rfl rfl rfl (v_lf1 rfl Tryz.underlying58 rfl rfl rfl) ?_; refine q_mv rfl rfl rfl rfl rfl ?_; refine o_q _ rfl rfl rfl (v_indexAddrSn rfl Tryz.underlying58 inf135 rfl rfl rfl (by omega) rfl) ?_; refine o_q _ rfl rfl rfl (v_fieldAddr rfl Tryz.underlying135 inf43 rfl rfl rfl rfl) ?_; refine o_q _ rfl rfl rfl (v_fieldAddr rfl Tryz.underlying43 inf3 rfl rfl rfl rfl) ?_; refine o_q _ rfl rfl rfl (v_loadE1 (j := 2) rfl Tryz.underlying3 rfl rfl (by omega) rfl rfl) ?_; refine o_q _ rfl rfl rfl (v_leq rfl rfl rfl) ?_; refine o_nil (r_then ?_); refine r_condd rfl (fun hc41 => ?_) (fun hc41 => ?_)
   ·
    refine r_skip (r_then ?_); refine r_seq (r_block ?_); refine r_seq ?_; have hsub : SubL (costsL (B.spits.drop (i + 1)) (i + 1) (set3 cc i ((B.spits.getD i default).lo + (k : Int)))) xs (i0 + (preC B c i k).length) := by rw [hI0.2, ← nxC_eq]; exact sub_mid (cntC B i) hx (by omega)
    have hlen : i0 + (preC B c i (k + 1)).length = i0 + (preC B c i k).length + (costsL (B.spits.drop (i + 1)) (i + 1) (set3 cc i ((B.spits.getD i default).lo + (k : Int)))).length := by rw [hI0.2, pre_len, ← nxC_eq, Nat.add_assoc]
    refine r_region ?_; refine q_mv rfl rfl rfl rfl rfl ?_; refine q_mv rfl rfl rfl rfl rfl ?_; refine o_q _ rfl rfl rfl (v_fieldAddr rfl Tryz.underlying216 inf203 rfl rfl rfl rfl) ?_; refine o_q _ rfl rfl rfl (v_indexAddrAn rfl Tryz.underlying203 inf3 rfl rfl (by omega)) ?_; refine o_st (us := [i64 ((B.spits.getD i default).lo + k)]) rfl inf3 rfl rfl rfl rfl rfl rfl rfl (set_ble (by omega)) ?_; refine o_nil (r_then (r_seq ?_)); refine Imp.box_to b5 [i64 (set3 cc i ((B.spits.getD i default).lo + (k : Int))).a, i64 (set3 cc i ((B.spits.getD i default).lo + (k : Int))).b, i64 (set3 cc i ((B.spits.getD i default).lo + (k : Int))).c] (by exact set_cells (by omega)) ?_; refine r_region ?_; refine o_q _ rfl rfl rfl (v_lf1 rfl Tryz.underlying324 rfl rfl rfl) ?_; refine o_q _ rfl rfl rfl (v_ldW rfl Tryz.underlying216 rfl inf216 rfl rfl) ?_; refine q_mv rfl rfl rfl rfl rfl ?_; refine o_q _ rfl rfl rfl (v_cast (v := i64 ((i + 1 : Nat) : Int)) (v_add rfl rfl rfl (by omega)) (congrArg (Value.int .i64) (by push_cast; rfl))) ?_; refine o_fnY (Rx := [boxF c1 147 [pt fb 0], boxF yb 323 [.func (.yield l) #[] #[]], boxF ob 324 [.func (.func 189) #[] #[pt c1 0, pt yb 0, pt ob 0]], boxF fb 213 [.slice po B.spits.length pc, .slice so B.days.length sc, .slice lo B.logs.length lc, .map (some mb)], rowD po 3 encSp B.spits, rowD so 2 encS B.days, rowD lo 3 encLg B.logs] ++ Ri) (caps := [pt c1 0, pt yb 0, pt ob 0]) (ih (set3 cc i ((B.spits.getD i default).lo + k)) (i0 + (preC B c i k).length) hsub) rfl rfl rfl rfl rfl rfl rfl SubRC.sub ?_ ?_
    all_goals
     refine o_q _ rfl rfl rfl (v_not rfl rfl) ?_; refine o_nil (r_then ?_); refine r_cond rfl (fun hc53 => ?_) (fun hc53 => ?_)
     ·
      first
      | (exfalso; revert hc53; decide)
      |
       skip
       refine r_seq (r_region ?_); refine q_as rfl rfl rfl rfl rfl ?_; refine o_nil (r_then ?_); refine r_ret ?_; (with_reducible refine r_in_ret ?_; refine r_then_ret ?_; refine r_then_ret ?_; refine r_in_ret ?_; refine r_then_ret ?_); exact r_no (Rd.tmp rfl rfl) SelMC.sel SubRC.sub
     ·
      first
      | (exfalso; revert hc53; decide)
      |
       skip
       refine r_skip ?_; refine r_in_normal ?_; refine r_then ?_; refine r_region ?_; refine q_mv rfl rfl rfl rfl rfl ?_; refine o_q _ rfl rfl rfl (v_add rfl rfl rfl (by omega)) ?_; refine q_as rfl rfl rfl rfl rfl ?_; refine o_nil (r_then ?_); exact r_next ((k + 1, set3 cc i ((B.spits.getD i default).lo + k))) (by rw [hlen]; exact r_here (by repeat (first | exact FSub.nil | refine FSub.cons rfl ?_ | refine FSub.cons2 rfl (congrArg (Value.int .i64) (by push_cast; omega)) ?_)) SelMC.sel SubRC.sub) (by exact ⟨by omega, fun x => by rw [set_set (by omega)]; exact hI0.2 x⟩) (by show _ - (_ + 1) < _ - _; omega)
   ·
    refine r_exit ?_; refine r_then_exit ?_; refine r_then_exit ?_; refine r_in_here ?_; refine r_then (r_seq (r_region ?_)); refine q_as rfl rfl rfl rfl rfl ?_; refine o_nil (r_then ?_); refine r_ret ?_
    (obtain hk9 : k = cntC B i := (by omega); subst hk9; exact r_yes (Rd.tmp rfl rfl) SelMC.sel SubRC.sub)
end Go.Proofs.YtpndeonmmcaikaaGreat.SodW

namespace Go.Proofs.YtpndeonmmcaikaaGreat.SodW
open Go.G Foot4 Sod2
set_option maxRecDepth 1000000
attribute [local irreducible] G.ParO G.Fin
attribute [local irreducible] strokes strS cntTo nowF bk logD someTo upTo sodsOf cutL one preC nxC costsL
variable (B : Bank) (po so lo : Option Addr) (pc sc lc : Nat)
variable (fb mb : Nat)
theorem on_y {W : World} {l : Nat} {J Jx : Nat → Res} {Rf : List Fact} {xs : List T3} (hY : G.Yields Tryz.prog W l (fun c : T3 => [v3 c]) xs J Jx Rf) (c1 yb ob : Nat) (hg : GoodS B) : ∀ (r i : Nat) (c : T3) (i0 : Nat), i + r = B.spits.length → SubL (costsL (B.spits.drop i) i c) xs i0 → FnY Tryz.prog W 189 [v3 (c), i64 ((i : Nat) : Int), pt c1 0, pt yb 0, pt ob 0] (J (i0)) (J (i0 + (costsL (B.spits.drop i) i c).length)) (jxR Jx xs.length) [boxF c1 147 [pt fb 0], boxF yb 323 [.func (.yield l) #[] #[]], boxF ob 324 [.func (.func 189) #[] #[pt c1 0, pt yb 0, pt ob 0]], boxF fb 213 [.slice po B.spits.length pc, .slice so B.days.length sc, .slice lo B.logs.length lc, .map (some mb)], rowD po 3 encSp B.spits, rowD so 2 encS B.days, rowD lo 3 encLg B.logs] Rf
  | 0, i, c, i0, h, hs => by
    rw [costs_end (B := B) (i := i) (by omega)] at hs ⊢
    exact on_0 B po so lo pc sc lc fb mb hY c1 yb ob hg c i i0 (by omega) (by have := hs 0 c rfl; rw [Nat.add_zero] at this; exact this)
  | r + 1, i, c, i0, h, hs => by
    rw [costs_split (B := B) (i := i) (by omega)] at hs ⊢
    exact on_s B po so lo pc sc lc fb mb hY c1 yb ob hg c i i0 (by omega) (fun c2 j0 h2 => on_y hY c1 yb ob hg r (i + 1) c2 j0 (by omega) h2) hs
set_option maxHeartbeats 4000000 in
theorem costs1_s (c1 : Nat) (hg : GoodS B) : IsSeq Tryz.prog 188 [pt c1 0] [boxF c1 147 [pt fb 0], boxF fb 213 [.slice po B.spits.length pc, .slice so B.days.length sc, .slice lo B.logs.length lc, .map (some mb)], rowD po 3 encSp B.spits, rowD so 2 encS B.days, rowD lo 3 encLg B.logs] (fun c : T3 => [v3 c]) (allC B) := by
 refine IsSeq.intro Tryz.call188 Tryz.func188 rfl Tryz.ntmps188 rfl ?_; intro l J Jx W Rf hY; refine r_seq (r_region ?_); refine o_box1 rfl rfl rfl rfl rfl rfl (fun b2 => ?_); refine o_nil (r_then (r_seq (r_region ?_))); refine o_alloc rfl inf324 rfl rfl rfl rfl rfl (fun b3 => ?_); refine o_nil (r_then (r_seq (r_region ?_))); refine o_q _ rfl rfl rfl (v_makeFunc rfl rfl rfl) ?_; refine o_st rfl inf324 rfl rfl rfl rfl rfl rfl rfl rfl ?_; refine o_nil (r_then ?_); refine Imp.box_to b3 [.func (.func 189) #[] #[pt c1 0, pt b2 0, pt b3 0]] rfl ?_; refine Imp.sealB b2 ?_; refine Imp.sealB b3 ?_; refine r_region ?_; refine o_q _ rfl rfl rfl (v_lf1 rfl Tryz.underlying324 rfl rfl rfl) ?_; refine o_q _ rfl rfl rfl (v_cast (v := v3 ⟨0, 0, 0⟩) (v_bS0 rfl Tryz.underlying216 inf216 plt216 rfl rfl) rfl) ?_; refine o_fnY (Rx := boxF b3 324 [.func (.func 189) #[] #[pt c1 0, pt b2 0, pt b3 0]] :: boxF b2 323 [.func (.yield l) #[] #[]] :: [boxF c1 147 [pt fb 0], boxF fb 213 [.slice po B.spits.length pc, .slice so B.days.length sc, .slice lo B.logs.length lc, .map (some mb)], rowD po 3 encSp B.spits, rowD so 2 encS B.days, rowD lo 3 encLg B.logs]) (Rf := Rf) (caps := [pt c1 0, pt b2 0, pt b3 0]) (on_y B po so lo pc sc lc fb mb hY c1 b2 b3 hg B.spits.length 0 ⟨0, 0, 0⟩ 0 (by omega) (fun j y h => by rw [Nat.zero_add]; exact h)) rfl rfl rfl rfl rfl rfl rfl SubRC.sub ?_ ?_
 all_goals
  refine o_nil ?_
  first
  | exact r_retseq2 (0 + (costsL (B.spits.drop 0) 0 ⟨0, 0, 0⟩).length) (by rw [Nat.zero_add]; rfl) (Rd.none rfl) SelMC.sel SubRC.sub
  | exact r_retseqJ (fun i => Rd.none rfl) SelMC.sel SubRC.sub
set_option maxHeartbeats 4000000 in
theorem can_c (hg : GoodS B) (hcs : canS B) : FnC Tryz.prog 128 [pt fb 0] (memo Tryz.prog 216 (okS B) mb) [boxF fb 213 [.slice po B.spits.length pc, .slice so B.days.length sc, .slice lo B.logs.length lc, .map (some mb)], rowD po 3 encSp B.spits, rowD so 2 encS B.days, rowD lo 3 encLg B.logs] (.bool true) (memo Tryz.prog 216 (okS B) mb) := by
 refine FnC.introM Tryz.call128 Tryz.func128 rfl Tryz.ntmps128 rfl ?_; intro W M Rf; refine r_seq (r_region ?_); refine o_box1 rfl rfl rfl rfl rfl rfl (fun b1 => ?_); refine o_alloc rfl inf4 rfl rfl rfl rfl rfl (fun b2 => ?_); refine o_nil (r_then (r_seq ?_)); refine r_seq ?_; refine Imp.sealB b1 ?_; refine Imp.box_to b2 [.bool false] rfl ?_; refine r_region ?_; refine o_q _ rfl rfl rfl (v_lf1 rfl Tryz.underlying147 rfl rfl rfl) ?_; refine o_fn (costs_r fb) rfl rfl rfl rfl rfl SubRC.sub (fun v5 hv5 => ?_)
 (obtain ⟨cb, hcb⟩ : ∃ cb, capC v5 = cb := ⟨_, rfl⟩); rw [hcb] at hv5 ⊢; clear hcb; subst hv5
 all_goals
  refine o_nil (r_then ?_); refine r_block ?_; refine r_range (costs1_s B po so lo pc sc lc fb mb cb hg) rfl SubRC.sub (fun _ => rfl) rfl (fun i => exR fun (_ : PLift (∀ j, j < i → ∀ c, (allC B)[j]? = some c → ¬ canC B c)) => [memo Tryz.prog 216 (okS B) mb, bx b2 4 [.bool false]]) (fun i cc => exR fun (_ : PLift (cc = .ret)) => [memo Tryz.prog 216 (okS B) mb, bx b2 4 [.bool true]]) (M0 := M) (M1 := bx b2 4 [.bool false] :: memo Tryz.prog 216 (okS B) mb :: M) SelMC.sel (fun w h => St.pk (N := fun (_ : PLift (∀ j, j < 0 → ∀ c, (allC B)[j]? = some c → ¬ canC B c)) => [memo Tryz.prog 216 (okS B) mb, bx b2 4 [.bool false]]) ⟨fun j hj => absurd hj (by omega)⟩ (h.perm (List.Perm.swap _ _ _))) ?_ ?_ ?_
  ·
   intro l i x hx Mi Ri rdy bsy hbg; refine Imp.unpk2 (fun hno => ?_); refine ri_region ?_; refine oi_lift wideR rfl (fun _ _ h => h) ?_; refine o_alloc rfl inf216 rfl rfl rfl rfl rfl (fun b3 => ?_); refine o_nil (r_then ?_); refine oi_lift wideR rfl (fun _ _ h => h) ?_; refine o_st rfl inf216 rfl rfl rfl rfl rfl rfl rfl rfl ?_; refine o_nil (r_then ?_); refine oi_nil ?_; refine r_then ?_; refine r_begin hbg ?_; refine ri_block ?_; refine ri_seq ?_; refine Imp.box_to b3 [i64 x.a, i64 x.b, i64 x.c] rfl ?_; refine ri_region ?_; refine oi_lift wideR rfl (fun _ _ h => h) ?_; refine o_q _ rfl rfl rfl (v_lf1 rfl Tryz.underlying147 rfl rfl rfl) ?_; refine o_nil (r_then ?_); refine oi_lift wideR rfl (fun _ _ h => h) ?_; refine o_q _ rfl rfl rfl (v_ldW rfl Tryz.underlying216 rfl inf216 rfl rfl) ?_; refine o_nil (r_then ?_); refine oi_lift wideR rfl (fun _ _ h => h) ?_; refine o_q _ rfl rfl rfl (OpQ.fnm (log_m B po so lo pc sc lc fb mb x hg ((mem_all hg).1 (List.mem_of_getElem? hx) |>.inC hg)) rfl [] [] rfl rfl rfl SubRC.sub) ?_; refine o_nil (r_then ?_); refine oi_lift wideR rfl (fun _ _ h => h) ?_; refine o_q _ rfl rfl rfl (v_cast (v := .bool (decide (canC B x))) (v_field rfl Tryz.underlying221 Tryz.underlying4 inf4 rfl rfl rfl rfl) rfl) ?_; refine o_nil (r_then ?_); refine oi_nil ?_; refine r_then ?_; refine ri_condd rfl (fun hc10 => ?_) (fun hc10 => ?_)
   ·
    refine ri_seq ?_; refine ri_region ?_; refine oi_lift wideR rfl (fun _ _ h => h) ?_; refine o_st rfl inf4 rfl rfl rfl rfl rfl rfl rfl rfl ?_; refine o_nil (r_then ?_); refine oi_nil ?_; refine r_then ?_; refine ri_ret ?_; (with_reducible refine r_in_ret ?_); refine Imp.box_to b2 [.bool true] rfl ?_; exact r_round_retP (β := fun cc => PLift (cc = Code.ret)) (N := fun _ _ => [memo Tryz.prog 216 (okS B) mb, bx b2 4 [.bool true]]) ⟨rfl⟩ SelMC.sel SubRC.sub
   ·
    refine ri_skip ?_; (with_reducible refine r_in_normal ?_); exact r_roundP (N := fun (_ : PLift (∀ j, j < (i + 1) → ∀ c, (allC B)[j]? = some c → ¬ canC B c)) => [memo Tryz.prog 216 (okS B) mb, bx b2 4 [.bool false]]) ⟨fun j hj c hc => if e : j = i then (by subst e; rw [hx] at hc; cases hc; assumption) else hno.down j (by omega) c hc⟩ SelMC.sel SubRC.sub
  ·
   intro db; refine Imp.unpk2 (fun hno => ?_); refine r_in_normal ?_; refine r_then (r_seq ?_)
   exfalso
   obtain ⟨c, h1, h2⟩ := hcs; obtain ⟨k, hk, rfl⟩ := List.mem_iff_getElem.1 h1; exact hno.down k hk _ (List.getElem?_eq_getElem hk) h2
  ·
   intro db i c _; refine Imp.unpk (fun he => ?_); obtain ⟨rfl⟩ := he; simp only [List.cons_append, List.nil_append]; refine r_ret ?_; (with_reducible refine r_in_ret ?_; refine r_then_ret ?_); exact m_rete [memo Tryz.prog 216 (okS B) mb] [] (Rd.one rfl (RdI.cell1 Tryz.underlying4 rfl rfl rfl)) ⟨rfl, rfl, rfl⟩ SelMC.sel SubRC.sub
theorem can_m (hg : GoodS B) (hcs : canS B) : FnM Tryz.prog 128 [pt fb 0] (memo Tryz.prog 216 (okS B) mb) [boxF fb 213 [.slice po B.spits.length pc, .slice so B.days.length sc, .slice lo B.logs.length lc, .map (some mb)], rowD po 3 encSp B.spits, rowD so 2 encS B.days, rowD lo 3 encLg B.logs] (fun u => u = .bool true) := FnC.toM (can_c B po so lo pc sc lc fb mb hg hcs)
set_option maxHeartbeats 4000000 in
theorem told_c (hg : GoodS B) (hcs : canS B) : FnC Tryz.prog 75 [pt fb 0] (memo Tryz.prog 216 (okS B) mb) [boxF fb 213 [.slice po B.spits.length pc, .slice so B.days.length sc, .slice lo B.logs.length lc, .map (some mb)], rowD po 3 encSp B.spits, rowD so 2 encS B.days, rowD lo 3 encLg B.logs] (pt fb 0) (memo Tryz.prog 216 (okS B) mb) := by
 refine FnC.intro Tryz.call75 Tryz.func75 rfl Tryz.ntmps75 rfl ?_; intro W M Rf; refine r_seq (r_region ?_); refine q_as rfl rfl rfl rfl rfl ?_; refine o_nil (r_then (r_seq (r_region ?_))); refine q_mv rfl rfl rfl rfl rfl ?_; refine o_q _ rfl rfl rfl (OpQ.fnm (can_m B po so lo pc sc lc fb mb hg hcs) rfl [] [] rfl rfl rfl SubRC.sub) ?_; refine o_q _ rfl rfl rfl (OpQ.fn (ask_t _) rfl rfl SubRC.sub) ?_; refine o_nil (r_then (r_seq (r_region ?_))); refine q_mv rfl rfl rfl rfl rfl ?_; refine q_as rfl rfl rfl rfl rfl ?_; refine o_nil (r_then ?_); refine r_ret ?_; exact r_rete [memo Tryz.prog 216 (okS B) mb] [] (Rd.tmp rfl rfl) ⟨rfl, rfl, rfl⟩ SelMC.sel SubRC.sub
theorem told_m (hg : GoodS B) (hcs : canS B) : FnM Tryz.prog 75 [pt fb 0] (memo Tryz.prog 216 (okS B) mb) [boxF fb 213 [.slice po B.spits.length pc, .slice so B.days.length sc, .slice lo B.logs.length lc, .map (some mb)], rowD po 3 encSp B.spits, rowD so 2 encS B.days, rowD lo 3 encLg B.logs] (fun u => u = pt fb 0) := FnC.toM (told_c B po so lo pc sc lc fb mb hg hcs)
set_option maxHeartbeats 4000000 in
theorem hull_v (xs : List Span) (oa : Option Addr) (cp : Nat) (h0 : 0 < xs.length) (hl : xs.length ≤ 1000) : FnV Tryz.prog 71 [.slice oa xs.length cp] [rowD oa 2 encS xs] (vS (hullP xs)) := by
 refine FnV.intro Tryz.call71 Tryz.func71 rfl Tryz.ntmps71 rfl ?_; intro W M Rf; refine r_seq (r_region ?_); refine o_alloc rfl inf43 rfl rfl rfl rfl rfl (fun b2 => ?_); refine o_nil (r_then (r_seq (r_region ?_))); refine q_mv rfl rfl rfl rfl rfl ?_; refine o_q _ rfl rfl rfl (v_indexAddrSn rfl Tryz.underlying59 inf43 rfl rfl rfl (by omega) rfl) ?_; refine o_q _ rfl rfl rfl (v_loadEN rfl Tryz.underlying43 rfl inf43 rfl h0 rfl rfl rfl) ?_; refine o_alloc rfl inf43 rfl rfl rfl rfl rfl (fun b3 => ?_); refine o_st rfl inf43 rfl rfl rfl rfl rfl rfl rfl rfl ?_; refine o_nil (r_then (r_seq ?_)); refine r_seq (r_region ?_); refine q_mv rfl rfl rfl rfl rfl ?_; refine o_q _ rfl rfl rfl (v_len rfl rfl Tryz.underlying59 rfl) ?_; refine q_mv rfl rfl rfl rfl rfl ?_; refine o_nil (r_then ?_); refine r_block ?_; refine r_loop (ι := Nat) (fun k => k ≤ xs.length) (fun k => [(2, pt b2 0), (3, pt b3 0), (9, .slice oa xs.length cp), (10, i64 xs.length), (11, i64 k)]) (fun k => bx b2 43 [i64 0, i64 0] :: bx b3 43 [i64 (hullTo xs k).lo, i64 (hullTo xs k).hi] :: M) (fun k => [rowD oa 2 encS xs] ++ Rf) (fun k => xs.length - k) 0 ?_ ?_ ?_
 ·
  refine Imp.box_to b2 [i64 0, i64 0] rfl ?_; refine Imp.box_to b3 [i64 (hullTo xs 0).lo, i64 (hullTo xs 0).hi] rfl ?_; exact r_here (by repeat (first | exact FSub.nil | refine FSub.cons rfl ?_)) SelMC.sel SubRC.sub
 ·
  omega
 ·
  rintro k hI0; refine r_seq (r_region ?_); refine o_q _ rfl rfl rfl (v_lss rfl rfl rfl) ?_; refine o_nil (r_then (r_seq ?_)); refine r_condd rfl (fun hc12 => ?_) (fun hc12 => ?_)
  ·
   refine r_skip (r_then ?_); refine r_seq (r_block ?_); refine r_seq (r_region ?_); refine o_q _ rfl rfl rfl (v_indexAddrSn rfl Tryz.underlying59 inf43 rfl rfl rfl (by omega) rfl) ?_; refine o_q _ rfl rfl rfl (v_loadEN rfl Tryz.underlying43 rfl inf43 rfl (by omega) rfl rfl rfl) ?_; refine o_alloc rfl inf43 rfl rfl rfl rfl rfl (fun b5 => ?_); refine o_st rfl inf43 rfl rfl rfl rfl rfl rfl rfl rfl ?_; refine o_nil (r_then ?_); refine Imp.box_to b5 [i64 (xs.getD k default).lo, i64 (xs.getD k default).hi] rfl ?_; refine r_region ?_; refine o_q _ rfl rfl rfl (v_fieldAddr rfl Tryz.underlying43 inf3 rfl rfl rfl rfl) ?_; refine o_q _ rfl rfl rfl (v_ld1 rfl Tryz.underlying3 rfl rfl rfl) ?_; refine o_q _ rfl rfl rfl (v_fieldAddr rfl Tryz.underlying43 inf3 rfl rfl rfl rfl) ?_; refine o_q _ rfl rfl rfl (v_ld1 rfl Tryz.underlying3 rfl rfl rfl) ?_; refine o_q _ rfl rfl rfl (v_min2 rfl rfl rfl) ?_; refine o_q _ rfl rfl rfl (v_fieldAddr rfl Tryz.underlying43 inf3 rfl rfl rfl rfl) ?_; refine o_q _ rfl rfl rfl (v_ld1 rfl Tryz.underlying3 rfl rfl rfl) ?_; refine o_q _ rfl rfl rfl (v_fieldAddr rfl Tryz.underlying43 inf3 rfl rfl rfl rfl) ?_; refine o_q _ rfl rfl rfl (v_ld1 rfl Tryz.underlying3 rfl rfl rfl) ?_; refine o_q _ rfl rfl rfl (v_max2 rfl rfl rfl) ?_; refine o_q _ rfl rfl rfl (v_bS rfl Tryz.underlying43 inf43 plt43 rfl rfl rfl (by repeat (first | exact trivial | refine ⟨rfl, ?_⟩)) (by rfl)) ?_; refine o_st rfl inf43 rfl rfl rfl rfl rfl rfl rfl rfl ?_; refine o_nil ?_; refine r_in_normal ?_; refine r_then ?_; refine r_region ?_; refine o_q _ rfl rfl rfl (v_add rfl rfl rfl (by omega)) ?_; refine q_mv rfl rfl rfl rfl rfl ?_; refine o_nil (r_then ?_); refine r_next (k + 1) ?_ ?_ ?_
   ·
    refine Imp.box_to b3 [i64 (hullTo xs (k + 1)).lo, i64 (hullTo xs (k + 1)).hi] rfl ?_; exact r_here (by repeat (first | exact FSub.nil | refine FSub.cons rfl ?_)) SelMC.sel SubRC.sub
   ·
    omega
   ·
    omega
  ·
   refine r_exit ?_; refine r_then_exit ?_; refine r_then_exit ?_; refine r_in_here ?_; refine r_then (r_seq (r_region ?_)); refine o_q _ rfl rfl rfl (v_ldW rfl Tryz.underlying43 rfl inf43 rfl rfl) ?_; refine o_st rfl inf43 rfl rfl rfl rfl rfl rfl rfl rfl ?_; refine o_nil (r_then ?_); refine r_ret ?_; obtain rfl : k = xs.length := by omega
   refine Imp.box_to b2 [i64 (hullP xs).lo, i64 (hullP xs).hi] rfl ?_; exact r_retv2 (Rd.one rfl (RdI.cellW Tryz.underlying43 rfl inf43 rfl rfl)) rfl SelMC.sel SubRC.sub
set_option maxHeartbeats 4000000 in
theorem sods1_v (c : T3) (d c1 c2 : Nat) (hg : GoodS B) (hc : InB B c) (hcan : canC B c) (hd : d < B.days.length) : FnV Tryz.prog 130 [v3 c, vL B c, pt c1 0, pt c2 0] [boxF c1 147 [pt fb 0], boxF c2 3 [i64 (d : Int)], boxF fb 213 [.slice po B.spits.length pc, .slice so B.days.length sc, .slice lo B.logs.length lc, .map (some mb)], rowD po 3 encSp B.spits, rowD so 2 encS B.days, rowD lo 3 encLg B.logs] (vS (cutSp B d c)) := by
 refine FnV.intro Tryz.call130 Tryz.func130 rfl Tryz.ntmps130 rfl ?_; intro W M Rf; refine r_seq (r_region ?_); refine o_boxA rfl rfl rfl rfl rfl (fun b4 => ?_); refine o_boxA rfl rfl rfl rfl rfl (fun b5 => ?_); refine o_alloc rfl inf43 rfl rfl rfl rfl rfl (fun b6 => ?_); refine o_nil (r_then (r_seq ?_)); have h2 := hg.2.1; have hlb := log_bd hg (hc.inC hg) hcan hd; refine r_par' 17 mixed (by kernel_rfl) (by rfl) ?_; refine p_q _ rfl rfl rfl (fun _ _ => v_lf1 rfl Tryz.underlying147 rfl rfl rfl) ?_; refine p_q _ rfl rfl rfl (fun _ _ => v_ldW rfl Tryz.underlying216 rfl inf216 rfl rfl) ?_; refine p_q _ rfl rfl rfl (fun _ _ => v_lf1 rfl Tryz.underlying3 rfl rfl rfl) ?_; refine p_q _ rfl rfl rfl (fun _ _ => v_fieldAddr rfl Tryz.underlying221 inf219 rfl rfl rfl rfl) ?_; refine p_q _ rfl rfl rfl (fun _ _ => v_indexAddrAn rfl Tryz.underlying219 inf218 rfl rfl (by omega)) ?_; refine p_q _ rfl rfl rfl (fun _ _ => v_fieldAddr rfl Tryz.underlying218 inf43 rfl rfl rfl rfl) ?_; refine p_q _ rfl rfl rfl (fun _ _ => v_fieldAddr rfl Tryz.underlying43 inf3 rfl rfl rfl rfl) ?_; refine p_q _ rfl rfl rfl (fun _ _ => v_cast (v := i64 (logD B c d).lo) (v_ld1 rfl Tryz.underlying3 rfl rfl (by exact L13_lo (k := d) (by omega))) rfl) ?_; refine p_q _ rfl rfl rfl (fun _ _ => OpQ.fn (cut_v B po so lo pc sc lc fb mb c _ hg (hc.inC hg) (hc.pos hg) (by omega)) rfl rfl SubRC.sub) ?_; refine p_q _ rfl rfl rfl (fun _ _ => v_lf1 rfl Tryz.underlying147 rfl rfl rfl) ?_; refine p_q _ rfl rfl rfl (fun _ _ => v_ldW rfl Tryz.underlying216 rfl inf216 rfl rfl) ?_; refine p_q _ rfl rfl rfl (fun _ _ => v_lf1 rfl Tryz.underlying3 rfl rfl rfl) ?_; refine p_q _ rfl rfl rfl (fun _ _ => v_fieldAddr rfl Tryz.underlying221 inf219 rfl rfl rfl rfl) ?_; refine p_q _ rfl rfl rfl (fun _ _ => v_indexAddrAn rfl Tryz.underlying219 inf218 rfl rfl (by omega)) ?_; refine p_q _ rfl rfl rfl (fun _ _ => v_fieldAddr rfl Tryz.underlying218 inf43 rfl rfl rfl rfl) ?_; refine p_q _ rfl rfl rfl (fun _ _ => v_fieldAddr rfl Tryz.underlying43 inf3 rfl rfl rfl rfl) ?_; refine p_q _ rfl rfl rfl (fun _ _ => v_cast (v := i64 (logD B c d).hi) (v_ld1 rfl Tryz.underlying3 rfl rfl (by exact L13_hi (k := d) (by omega))) rfl) ?_; refine p_nil2 (by simp only [List.nil_append, List.cons_append]; rfl) rfl ?_; (iterate 17 refine f_q rfl ?_); refine f_nil ?_; refine o_q _ rfl rfl rfl (OpQ.fn (cut_v B po so lo pc sc lc fb mb c _ hg (hc.inC hg) (hc.pos hg) (by omega)) rfl rfl SubRC.sub) ?_; refine o_q _ rfl rfl rfl (v_bS rfl Tryz.underlying43 inf43 plt43 rfl rfl rfl (by repeat (first | exact trivial | refine ⟨rfl, ?_⟩)) (by rfl)) ?_; refine o_st rfl inf43 rfl rfl rfl rfl rfl rfl rfl rfl ?_; refine o_nil (r_then ?_)
 refine r_ret ?_; exact r_retv2 (Rd.one rfl (RdI.cellW Tryz.underlying43 rfl inf43 rfl rfl)) rfl SelMC.sel SubRC.sub
set_option maxHeartbeats 4000000 in
theorem all_s (d c1 c2 : Nat) (hg : GoodS B) (hd : d < B.days.length) : FnS Tryz.prog 129 [pt fb 0, .agg #[.func (.func 130) #[] #[pt c1 0, pt c2 0]]] [memo Tryz.prog 216 (okS B) mb] [boxF c1 147 [pt fb 0], boxF c2 3 [i64 (d : Int)], boxF fb 213 [.slice po B.spits.length pc, .slice so B.days.length sc, .slice lo B.logs.length lc, .map (some mb)], rowD po 3 encSp B.spits, rowD so 2 encS B.days, rowD lo 3 encLg B.logs] (fun e M' R' => ∃ x : Option Addr × Nat, e = .returned (.slice x.1 ((goodC B).map (cutSp B d)).length x.2) ∧ True ∧ M' = [memo Tryz.prog 216 (okS B) mb] ∧ R' = [rowD x.1 2 encS ((goodC B).map (cutSp B d))]) := by
 refine FnS.introM1 Tryz.call129 Tryz.func129 rfl Tryz.ntmps129 rfl ?_; intro W M Rf; refine r_seq (r_region ?_); refine o_box1 rfl rfl rfl rfl rfl rfl (fun b2 => ?_); refine o_boxA rfl rfl rfl rfl rfl (fun b3 => ?_); refine o_alloc rfl inf59 rfl rfl rfl rfl rfl (fun b4 => ?_); refine o_nil (r_then (r_seq ?_)); refine r_seq ?_; refine Imp.sealB b2 ?_; refine Imp.sealB b3 ?_; refine Imp.nilL 43 2 encS ?_; refine r_region ?_; refine o_q _ rfl rfl rfl (v_lf1 rfl Tryz.underlying147 rfl rfl rfl) ?_; refine o_fn (costs_r fb) rfl rfl rfl rfl rfl SubRC.sub (fun v8 hv8 => ?_)
 (obtain ⟨cb, hcb⟩ : ∃ cb, capC v8 = cb := ⟨_, rfl⟩); rw [hcb] at hv8 ⊢; clear hcb; subst hv8
 all_goals
  refine o_nil (r_then ?_); refine r_block ?_; refine r_range (costs1_s B po so lo pc sc lc fb mb cb hg) rfl SubRC.sub (fun _ => rfl) rfl (fun i => exR fun v => [bx b4 59 [v], ownL v 43 2 encS (cutTo B d (i)), memo Tryz.prog 216 (okS B) mb]) (fun _ _ => noR) (M0 := M) (M1 := bx b4 59 (Value.slice none 0 0).cells.toList :: ownL (.slice none 0 0) 43 2 encS ([] : List Span) :: memo Tryz.prog 216 (okS B) mb :: M) SelMC.sel (fun w h => St.pk (.slice none 0 0) h) ?_ ?_ ?_
  ·
   intro l i x hx Mi Ri rdy bsy hbg; refine Imp.unpk (fun v => ?_); simp only [List.cons_append, List.nil_append]; refine Imp.own_is v (fun hs => ?_); obtain ⟨oav, cpv, rfl⟩ := hs; refine ri_region ?_; refine oi_lift wideR rfl (fun _ _ h => h) ?_; refine o_alloc rfl inf216 rfl rfl rfl rfl rfl (fun b5 => ?_); refine o_nil (r_then ?_); refine oi_lift wideR rfl (fun _ _ h => h) ?_; refine o_st rfl inf216 rfl rfl rfl rfl rfl rfl rfl rfl ?_; refine o_nil (r_then ?_); refine oi_nil ?_; refine r_then ?_; refine r_begin hbg ?_; refine ri_block ?_; refine ri_seq ?_; refine Imp.box_to b5 [i64 x.a, i64 x.b, i64 x.c] rfl ?_; have hle := cutTo_len (B := B) hg d i; have hin := (mem_all hg).1 (List.mem_of_getElem? hx); refine ri_region ?_; refine oi_lift wideR rfl (fun _ _ h => h) ?_; refine o_q _ rfl rfl rfl (v_lf1 rfl Tryz.underlying147 rfl rfl rfl) ?_; refine o_nil (r_then ?_); refine oi_lift wideR rfl (fun _ _ h => h) ?_; refine o_q _ rfl rfl rfl (v_ldW rfl Tryz.underlying216 rfl inf216 rfl rfl) ?_; refine o_nil (r_then ?_); refine oi_lift wideR rfl (fun _ _ h => h) ?_; refine o_q _ rfl rfl rfl (OpQ.fnm (log_m B po so lo pc sc lc fb mb x hg ((mem_all hg).1 (List.mem_of_getElem? hx) |>.inC hg)) rfl [] [] rfl rfl rfl SubRC.sub) ?_; refine o_nil (r_then ?_); refine oi_lift wideR rfl (fun _ _ h => h) ?_; refine o_alloc rfl inf221 rfl rfl rfl rfl rfl (fun b6 => ?_); refine o_nil (r_then ?_); refine oi_lift wideR rfl (fun _ _ h => h) ?_; refine o_st rfl inf221 rfl rfl rfl rfl rfl rfl rfl rfl ?_; refine o_nil (r_then ?_); refine oi_nil ?_; refine r_then ?_; refine ri_seq ?_; refine Imp.box_to b6 (L13 (logD B x) (decide (canC B x))) rfl ?_; refine ri_region ?_; refine oi_lift wideR rfl (fun _ _ h => h) ?_; refine o_q _ rfl rfl rfl (v_fieldAddr rfl Tryz.underlying221 inf4 rfl rfl rfl rfl) ?_; refine o_nil (r_then ?_); refine oi_lift wideR rfl (fun _ _ h => h) ?_; refine o_q _ rfl rfl rfl (v_cast (v := .bool (decide (canC B x))) (v_ld1 rfl Tryz.underlying4 rfl rfl rfl) rfl) ?_; refine o_nil (r_then ?_); refine oi_nil ?_; refine r_then ?_; refine ri_condd rfl (fun hc14 => ?_) (fun hc14 => ?_)
   ·
    have hcx : canC B x := by assumption
    refine ri_parZ (fun _ => True) (fun _ _ _ _ => trivial) [] 7 wideR (by kernel_rfl) (by kernel_rfl) (by kernel_rfl) (by kernel_rfl) (by kernel_rfl) (by kernel_rfl) mixed (by kernel_rfl) (by rfl) ?_; refine p_q _ rfl rfl rfl (fun _ _ => v_ld1 rfl Tryz.underlying59 rfl rfl rfl) ?_; refine p_q _ rfl rfl rfl (fun _ _ => v_fieldAddr rfl Tryz.underlying225 inf223 rfl rfl rfl rfl) ?_; refine p_q _ rfl rfl rfl (fun _ _ => v_lf1 rfl Tryz.underlying223 rfl rfl rfl) ?_; refine p_q _ rfl rfl rfl (fun _ _ => v_ldW rfl Tryz.underlying216 rfl inf216 rfl rfl) ?_; refine p_q _ rfl rfl rfl (fun _ _ => v_ldW rfl Tryz.underlying221 rfl inf221 rfl rfl) ?_; refine p_q _ rfl rfl rfl (fun _ _ => OpQ.call (sods1_v B po so lo pc sc lc fb mb x d c1 c2 hg hin hcx hd) rfl [] [pt c1 0, pt c2 0] rfl rfl rfl SubRC.sub) ?_; refine p_lit rfl Tryz.underlying59 inf43 rfl rfl rfl rfl rfl rfl rfl rfl (by repeat (first | exact trivial | refine ⟨rfl, ?_⟩)) (by rfl) ?_; refine p_nilF (by simp only [List.nil_append, List.cons_append]; rfl) rfl trivial ?_; (iterate 6 refine f_q rfl ?_); refine f_lit rfl (fun b21 => ?_); refine f_nil ?_; refine oz_lift (fun _ _ => trivial) ?_; refine o_app1F (cutSp B d x) rfl Tryz.underlying59 inf43 rfl (by rfl) (by rfl) rfl rfl rfl rfl rfl (by rfl) (by rfl) (by rfl) (by first | omega | (constructor <;> first | omega | decide)) (fun v22 => ?_); refine o_nil (r_then ?_); refine Imp.own_is v22 (fun hs => ?_); obtain ⟨oa22, cp22, rfl⟩ := hs; refine oz_lift (fun _ _ => trivial) ?_; refine o_st rfl inf59 rfl rfl rfl rfl rfl rfl rfl rfl ?_; refine o_nil (r_then ?_); refine oz_nil (fun _ _ => trivial) ?_; refine r_nop ?_; (with_reducible refine r_in_normal ?_)
    (refine Imp.own_to (.slice oa22 ((cutTo B d (i)) ++ [cutSp B d x]).length cp22) (cutTo B d (i + 1)) (cutTo_y hx (by assumption)) ?_; refine Imp.box_to b4 [.slice oa22 ((cutTo B d (i)) ++ [cutSp B d x]).length cp22] rfl ?_; exact r_roundP (N := fun v => [bx b4 59 [v], ownL v 43 2 encS (cutTo B d (i + 1)), memo Tryz.prog 216 (okS B) mb]) (.slice oa22 ((cutTo B d (i)) ++ [cutSp B d x]).length cp22) SelMC.sel SubRC.sub)
   ·
    refine ri_skip ?_; (with_reducible refine r_in_normal ?_)
    (refine Imp.own_to (.slice oav (cutTo B d (i)).length cpv) (cutTo B d (i + 1)) (cutTo_n hx (by assumption)) ?_; exact r_roundP (N := fun v => [bx b4 59 [v], ownL v 43 2 encS (cutTo B d (i + 1)), memo Tryz.prog 216 (okS B) mb]) (.slice oav (cutTo B d (i)).length cpv) SelMC.sel SubRC.sub)
  ·
   intro db; refine Imp.unpk (fun v => ?_); simp only [List.cons_append, List.nil_append]; refine Imp.own_is v (fun hs => ?_); obtain ⟨oav, cpv, rfl⟩ := hs; refine r_in_normal ?_; refine r_then (r_seq (r_region ?_)); refine o_q _ rfl rfl rfl (v_ld1 rfl Tryz.underlying59 rfl rfl rfl) ?_; refine o_st rfl inf59 rfl rfl rfl rfl rfl rfl rfl rfl ?_; refine o_nil (r_then ?_); refine r_ret ?_; refine Imp.own_to (.slice oav (cutTo B d ((allC B).length)).length cpv) ((goodC B).map (cutSp B d)) cutTo_all ?_; refine Imp.settleS (.slice oav (cutTo B d ((allC B).length)).length cpv) encS_len (fun oz cz hz => ?_); refine m_rete [memo Tryz.prog 216 (okS B) mb] [rowD oz 2 encS ((goodC B).map (cutSp B d))] (Rd.one rfl (RdI.cell1 Tryz.underlying59 rfl rfl rfl)) ⟨(oz, cz), by rw [← hz], trivial, rfl, rfl⟩ SelMC.sel SubRC.sub
  ·
   intro db i c _; exact Imp.noR
end Go.Proofs.YtpndeonmmcaikaaGreat.SodW

namespace Go.Proofs.YtpndeonmmcaikaaGreat.SodW
open Go.G Foot4 Sod2
set_option maxRecDepth 1000000
attribute [local irreducible] G.ParO G.Fin
attribute [local irreducible] strokes strS cntTo nowF bk logD someTo upTo sodsOf cutL one preC nxC costsL
variable (B : Bank) (po so lo : Option Addr) (pc sc lc : Nat)
variable (fb mb : Nat)
set_option maxHeartbeats 4000000 in
theorem sods_s (d : Nat) (hg : GoodS B) (hd : d < B.days.length) : FnS Tryz.prog 76 [pt fb 0, i64 (d : Int)] [memo Tryz.prog 216 (okS B) mb] [boxF fb 213 [.slice po B.spits.length pc, .slice so B.days.length sc, .slice lo B.logs.length lc, .map (some mb)], rowD po 3 encSp B.spits, rowD so 2 encS B.days, rowD lo 3 encLg B.logs] (fun e M' R' => ∃ x : Option Addr × Nat, e = .returned (.slice x.1 ((goodC B).map (cutSp B d)).length x.2) ∧ True ∧ M' = [memo Tryz.prog 216 (okS B) mb] ∧ R' = [rowD x.1 2 encS ((goodC B).map (cutSp B d))]) := by
 refine FnS.intro1 Tryz.call76 Tryz.func76 rfl Tryz.ntmps76 rfl ?_; intro W M Rf; refine r_seq (r_region ?_); refine o_box1 rfl rfl rfl rfl rfl rfl (fun b2 => ?_); refine o_box1 rfl rfl rfl rfl rfl rfl (fun b3 => ?_); refine q_as rfl rfl rfl rfl rfl ?_; refine o_nil (r_then (r_seq ?_)); refine Imp.sealB b2 ?_; refine Imp.sealB b3 ?_; refine r_region ?_; refine o_q _ rfl rfl rfl (v_lf1 rfl Tryz.underlying147 rfl rfl rfl) ?_; refine o_q _ rfl rfl rfl (v_makeFunc rfl rfl rfl) ?_; refine o_q _ rfl rfl rfl (v_bS rfl Tryz.underlying225 inf225 plt225 rfl rfl rfl (by repeat (first | exact trivial | refine ⟨rfl, ?_⟩)) (by rfl)) ?_; refine o_fnX (all_s B po so lo pc sc lc fb mb d b2 b3 hg hd) rfl rfl rfl rfl rfl SubRC.sub (fun x8 _ => ?_); refine q_as rfl rfl rfl rfl rfl ?_; refine o_nil (r_then ?_); refine r_ret ?_; exact r_rete [memo Tryz.prog 216 (okS B) mb] [rowD x8.1 2 encS ((goodC B).map (cutSp B d))] (Rd.tmp rfl rfl) ⟨x8, rfl, trivial, rfl, rfl⟩ SelMC.sel SubRC.sub
set_option maxHeartbeats 4000000 in
theorem is1_v (d c1 : Nat) (hd : d < B.days.length) (hl2 : B.days.length ≤ 40) : FnV Tryz.prog 73 [pt fb 0, pt c1 0] [boxF fb 213 [.slice po B.spits.length pc, .slice so B.days.length sc, .slice lo B.logs.length lc, .map (some mb)], rowD po 3 encSp B.spits, rowD so 2 encS B.days, rowD lo 3 encLg B.logs, boxF c1 3 [i64 (d : Int)]] (.bool true) := by
 refine FnV.intro Tryz.call73 Tryz.func73 rfl Tryz.ntmps73 rfl ?_; intro W M Rf; refine r_seq (r_region ?_); refine q_as rfl rfl rfl rfl rfl ?_; refine o_nil (r_then (r_seq (r_region ?_))); refine q_mv rfl rfl rfl rfl rfl ?_; refine o_q _ rfl rfl rfl (v_lf1 rfl Tryz.underlying3 rfl rfl rfl) ?_; refine o_q _ rfl rfl rfl (v_cast (v := .bool true) (OpQ.fn (isDay_v B po so lo pc sc lc fb mb _ hl2) rfl rfl SubRC.sub) (congrArg Value.bool (decide_eq_true (by omega)))) ?_; refine q_as rfl rfl rfl rfl rfl ?_; refine o_nil (r_then ?_); refine r_ret ?_; exact r_retv2 (Rd.tmp rfl rfl) rfl SelMC.sel SubRC.sub
set_option maxHeartbeats 4000000 in
theorem answer_ans : AnsP Tryz.prog 70 .i64 208 47 := by
  refine ⟨Tryz.call70, fun W M R w b hw => ?_, fun W M R w b x y hw => ?_⟩
  · refine ans_intro (args := [pt b 0]) (u' := .returning) (v := .nilIface) Tryz.func70 rfl Tryz.ntmps70 rfl rfl rfl rfl rfl rfl rfl rfl rfl (fun c₀ cs h => .inr ⟨rec_ret h, rfl, rfl⟩) hw ?_
    intro c₀ cs
    refine r_seq ?_
    refine r_region ?_
    refine o_q _ rfl rfl rfl (v_move rfl rfl) ?_
    refine o_q _ rfl rfl rfl (v_ifnil rfl Tryz.underlying20 rfl) ?_
    refine o_nil ?_
    with_reducible refine r_then ?_
    refine r_cond rfl (fun hc7 => ?_) (fun hc7 => ?_)
    ·
      (exfalso; revert hc7; decide)
    ·
      refine r_skip ?_
      exact r_ends (Rd.none rfl) (fun w' h => ⟨⟨_, rfl⟩, rfl, h⟩)
  · refine ans_intro (args := [pt b 0]) (u' := .panicking [{ v := .iface 208 (i64 y), recovered := true }]) (v := .iface 208 (i64 y)) Tryz.func70 rfl Tryz.ntmps70 rfl rfl rfl rfl rfl rfl rfl rfl rfl (fun c₀ cs h => .inl (rec_pan h)) hw ?_
    intro c₀ cs
    refine r_seq ?_
    refine r_region ?_
    refine o_q _ rfl rfl rfl (v_move rfl rfl) ?_
    refine o_q _ rfl rfl rfl (v_ifnn rfl Tryz.underlying20 rfl) ?_
    refine o_nil ?_
    with_reducible refine r_then ?_
    refine r_cond rfl (fun hc7 => ?_) (fun hc7 => ?_)
    ·
      refine r_seq ?_
      refine r_region ?_
      refine o_q _ rfl rfl rfl (v_move rfl rfl) ?_
      refine o_q _ rfl rfl rfl (v_assertOk rfl Tryz.underlying208 rfl rfl) ?_
      refine o_q _ rfl rfl rfl (v_move rfl rfl) ?_
      refine o_q _ rfl rfl rfl (v_extract rfl rfl rfl) ?_
      refine o_q _ rfl rfl rfl (v_extract rfl rfl rfl) ?_
      refine o_q _ rfl rfl rfl (v_assign rfl rfl) ?_
      refine o_q _ rfl rfl rfl (v_assign rfl rfl) ?_
      refine o_nil ?_
      with_reducible refine r_then ?_
      refine r_seq ?_
      refine r_seq ?_
      refine r_region ?_
      refine o_q _ rfl rfl rfl (v_move rfl rfl) ?_
      refine o_q _ rfl rfl rfl (v_not rfl rfl) ?_
      refine o_nil ?_
      with_reducible refine r_then ?_
      refine r_cond rfl (fun hc14 => ?_) (fun hc14 => ?_)
      ·
        (exfalso; revert hc14; decide)
      ·
        refine r_skip ?_
        with_reducible refine r_then ?_
        refine r_region ?_
        refine o_q _ rfl rfl rfl (v_move rfl rfl) ?_
        refine o_q _ rfl rfl rfl (v_move rfl rfl) ?_
        refine o_q _ rfl rfl rfl (v_nilCheck rfl rfl) ?_
        refine o_st rfl inf47 rfl rfl rfl rfl rfl rfl rfl rfl ?_
        refine o_nil ?_
        exact r_ends (Rd.none rfl) (fun w' h => ⟨⟨_, rfl⟩, rfl, h⟩)
    ·
      (exfalso; revert hc7; decide)
theorem o_fnN {α : Type} {W : World} {n : Nat} {D : List Deferred} {L : Tm} {M : List Res} {R : List Fact} {Q : Exit → Act → World → Prop} {o : Oper} {ops : Array Oper} {rest : List Oper} {k : FuncId} {args : List Value} {R0 : List Fact} {g : α → Value} {Pp : α → Prop} {Mr : α → Res} {Rr : α → List Fact} {xs : List Operand} {ts : Array TypeId} {d : Nat}
    (h : FnS Tryz.prog k args [] R0 (fun e M' R' => ∃ x, e = .returned (g x) ∧ Pp x ∧ M' = [Mr x] ∧ R' = Rr x)) (ho : o.op = .call { callee := .value (.func k), args := xs.toArray, argTypes := ts })
    (hx : evs L xs = some args) (hg : o.guard = none) (hdst : o.dst = some d) (hd : Nat.blt d n = true) (hs : SubR R R0)
    (hret : ∀ x, Pp x → Imp W n D ((d, g x) :: L) (Mr x :: M) (Rr x ++ R) (wpList Tryz.prog ops Q rest)) : Imp W n D L M R (wpList Tryz.prog ops Q (o :: rest)) := by
  refine o_call h ho [] [] rfl hx (by simp) hg (by simp [okD, hdst, hd]) (Mf := M) SelM.refl hs ?_ ?_ ?_
  · rintro v M' R' ⟨x, he, hp, rfl, rfl⟩
    cases he
    rw [hdst]
    exact hret x hp
  · rintro c M' R' ⟨x, he, _⟩; cases he
  · rintro M' R' ⟨x, he, _⟩; cases he
set_option maxHeartbeats 4000000 in
theorem open_ok (ki : FuncId) (caps : List Value) (Rc : List Fact) (hI : ∀ fb mb, FnV Tryz.prog ki (pt fb 0 :: caps) (boxF fb 213 [.slice po B.spits.length pc, .slice so B.days.length sc, .slice lo B.logs.length lc, .map (some mb)] :: rowD po 3 encSp B.spits :: rowD so 2 encS B.days :: rowD lo 3 encLg B.logs :: Rc) (.bool true)) (hg : GoodS B) : FnS Tryz.prog 72 [valS B po pc so sc lo lc, .func (.func ki) #[] caps.toArray] [] (rowD po 3 encSp B.spits :: rowD so 2 encS B.days :: rowD lo 3 encLg B.logs :: Rc) (fun e M' R' => ∃ x : Nat × Nat, e = .returned (pt x.1 0) ∧ True ∧ M' = [memo Tryz.prog 216 (okS B) x.2] ∧ R' = [boxF x.1 213 [.slice po B.spits.length pc, .slice so B.days.length sc, .slice lo B.logs.length lc, .map (some x.2)]]) := by
 refine FnS.intro0 Tryz.call72 Tryz.func72 rfl Tryz.ntmps72 rfl ?_; intro W M Rf; refine r_seq (r_region ?_); refine o_boxA rfl rfl rfl rfl rfl (fun b2 => ?_); refine q_as rfl rfl rfl rfl rfl ?_; refine o_nil (r_then (r_seq ?_)); have hq1 := hg.1; have hq2 := hg.2.1; have hq3 := hg.2.2.1; refine r_region ?_; refine o_q _ rfl rfl rfl (v_fieldAddr rfl Tryz.underlying62 inf58 rfl rfl rfl rfl) ?_; refine o_q _ rfl rfl rfl (v_ld1 rfl Tryz.underlying58 rfl rfl rfl) ?_; refine o_q _ rfl rfl rfl (v_len rfl rfl Tryz.underlying58 rfl) ?_; refine o_q _ rfl rfl rfl (v_true (OpQ.fn (within_v _ _ _) rfl rfl SubRC.sub) (by omega)) ?_
 all_goals
  refine q_mv rfl rfl rfl rfl rfl ?_; refine o_g _ rfl rfl rfl rfl (v_fieldAddr rfl Tryz.underlying62 inf59 rfl rfl rfl rfl) ?_; refine o_g _ rfl rfl rfl rfl (v_ld1 rfl Tryz.underlying59 rfl rfl rfl) ?_; refine o_g _ rfl rfl rfl rfl (v_len rfl rfl Tryz.underlying59 rfl) ?_; refine o_g _ rfl rfl rfl rfl (v_true (OpQ.fn (within_v _ _ _) rfl rfl SubRC.sub) (by omega)) ?_
  all_goals
   refine o_q _ rfl rfl rfl (v_pick_t rfl rfl rfl) ?_; refine q_mv rfl rfl rfl rfl rfl ?_; refine o_g _ rfl rfl rfl rfl (v_fieldAddr rfl Tryz.underlying62 inf60 rfl rfl rfl rfl) ?_; refine o_g _ rfl rfl rfl rfl (v_ld1 rfl Tryz.underlying60 rfl rfl rfl) ?_; refine o_g _ rfl rfl rfl rfl (v_len rfl rfl Tryz.underlying60 rfl) ?_; refine o_g _ rfl rfl rfl rfl (v_true (v_leq rfl rfl rfl) (by omega)) ?_
   all_goals
    refine o_q _ rfl rfl rfl (v_pick_t rfl rfl rfl) ?_; refine o_q _ rfl rfl rfl (OpQ.fn (ask_t _) rfl rfl SubRC.sub) ?_; try ((exfalso; first | omega | (obtain ⟨j, hj, hp⟩ := h56; exact hp (hg.2.2.2.2.1 j hj))))
    all_goals
     refine o_nil (r_then (r_seq ?_)); refine r_seq (r_region ?_); refine o_q _ rfl rfl rfl (v_fieldAddr rfl Tryz.underlying62 inf58 rfl rfl rfl rfl) ?_; refine o_q _ rfl rfl rfl (v_ld1 rfl Tryz.underlying58 rfl rfl rfl) ?_; refine o_q _ rfl rfl rfl (v_len rfl rfl Tryz.underlying58 rfl) ?_; refine q_mv rfl rfl rfl rfl rfl ?_; refine o_nil (r_then ?_); refine r_block ?_; refine r_loop (ι := Nat) (fun k => k ≤ B.spits.length) (fun k => [(1, .func (.func ki) #[] caps.toArray), (2, pt b2 0), (28, .slice po B.spits.length pc), (29, i64 B.spits.length), (30, i64 k)]) (fun k => bx b2 62 (cellsS B po pc so sc lo lc) :: M) (fun k => (rowD po 3 encSp B.spits :: rowD so 2 encS B.days :: rowD lo 3 encLg B.logs :: Rc) ++ Rf) (fun k => B.spits.length - k) 0 ?_ ?_ ?_
     ·
      exact r_here (by repeat (first | exact FSub.nil | refine FSub.cons rfl ?_)) SelMC.sel SubRC.sub
     ·
      omega
     ·
      rintro k hI0; have hsp := hg.2.2.2.1 k; refine r_seq (r_region ?_); refine o_q _ rfl rfl rfl (v_lss rfl rfl rfl) ?_; refine o_nil (r_then (r_seq ?_)); refine r_condd rfl (fun hc31 => ?_) (fun hc31 => ?_)
      ·
       refine r_skip (r_then ?_); refine r_seq (r_block ?_); refine r_seq (r_region ?_); refine o_q _ rfl rfl rfl (v_indexAddrSn rfl Tryz.underlying58 inf135 rfl rfl rfl (by omega) rfl) ?_; refine o_q _ rfl rfl rfl (v_loadEN rfl Tryz.underlying135 rfl inf135 rfl (by omega) rfl rfl rfl) ?_; refine o_alloc rfl inf135 rfl rfl rfl rfl rfl (fun b6 => ?_); refine o_st rfl inf135 rfl rfl rfl rfl rfl rfl rfl rfl ?_; refine o_nil (r_then ?_); refine Imp.box_to b6 [i64 (B.spits.getD k default).sods, i64 (B.spits.getD k default).lo, i64 (B.spits.getD k default).hi] rfl ?_; refine r_region ?_; refine o_q _ rfl rfl rfl (v_fieldAddr rfl Tryz.underlying135 inf3 rfl rfl rfl rfl) ?_; refine o_q _ rfl rfl rfl (v_ld1 rfl Tryz.underlying3 rfl rfl rfl) ?_; refine o_q _ rfl rfl rfl (v_true (OpQ.fn (within_v _ _ _) rfl rfl SubRC.sub) (by omega)) ?_
       all_goals
        refine q_mv rfl rfl rfl rfl rfl ?_; refine o_g _ rfl rfl rfl rfl (v_fieldAddr rfl Tryz.underlying135 inf43 rfl rfl rfl rfl) ?_; refine o_g _ rfl rfl rfl rfl (v_ldN rfl Tryz.underlying43 rfl inf43 rfl rfl rfl) ?_; refine o_g _ rfl rfl rfl rfl (v_true (OpQ.fn (isSpan_v _ _ _ _) rfl rfl SubRC.sub) (by omega)) ?_
        all_goals
         refine o_q _ rfl rfl rfl (v_pick_t rfl rfl rfl) ?_; refine q_mv rfl rfl rfl rfl rfl ?_; refine o_g _ rfl rfl rfl rfl (v_fieldAddr rfl Tryz.underlying135 inf43 rfl rfl rfl rfl) ?_; refine o_g _ rfl rfl rfl rfl (v_fieldAddr rfl Tryz.underlying43 inf3 rfl rfl rfl rfl) ?_; refine o_g _ rfl rfl rfl rfl (v_ld1 rfl Tryz.underlying3 rfl rfl rfl) ?_; refine o_g _ rfl rfl rfl rfl (v_fieldAddr rfl Tryz.underlying135 inf43 rfl rfl rfl rfl) ?_; refine o_g _ rfl rfl rfl rfl (v_fieldAddr rfl Tryz.underlying43 inf3 rfl rfl rfl rfl) ?_; refine o_g _ rfl rfl rfl rfl (v_ld1 rfl Tryz.underlying3 rfl rfl rfl) ?_; refine o_g _ rfl rfl rfl rfl (v_sub rfl rfl rfl (by omega)) ?_; refine o_g _ rfl rfl rfl rfl (v_true (v_leq rfl rfl rfl) (by omega)) ?_
         all_goals
          refine o_q _ rfl rfl rfl (v_pick_t rfl rfl rfl) ?_; refine o_q _ rfl rfl rfl (OpQ.fn (ask_t _) rfl rfl SubRC.sub) ?_; try ((exfalso; first | omega | (obtain ⟨j, hj, hp⟩ := h56; exact hp (hg.2.2.2.2.1 j hj))))
          all_goals
           refine o_nil ?_; refine r_in_normal ?_; refine r_then ?_; refine r_region ?_; refine o_q _ rfl rfl rfl (v_add rfl rfl rfl (by omega)) ?_; refine q_mv rfl rfl rfl rfl rfl ?_; refine o_nil (r_then ?_); refine r_next (k + 1) ?_ ?_ ?_
           ·
            exact r_here (by repeat (first | exact FSub.nil | refine FSub.cons rfl ?_)) SelMC.sel SubRC.sub
           ·
            omega
           ·
            omega
      ·
       refine r_exit ?_; refine r_then_exit ?_; refine r_then_exit ?_; refine r_in_here ?_; refine r_then (r_seq (r_region ?_)); refine o_q _ rfl rfl rfl (v_fieldAddr rfl Tryz.underlying62 inf59 rfl rfl rfl rfl) ?_; refine o_q _ rfl rfl rfl (v_ld1 rfl Tryz.underlying59 rfl rfl rfl) ?_; refine o_test rfl rfl rfl (OpQ.fn (FootW.spans_c (fun s : Span => ¬ (0 ≤ s.lo ∧ s.lo ≤ s.hi ∧ s.hi ≤ 100)) B.days so sc 126 [] [] (by omega) (fun j hj => open1_v _ _)) rfl rfl SubRC.sub) (fun h56 => ?_) (fun h56 => ?_)
       all_goals
        refine o_q _ rfl rfl rfl (v_not rfl rfl) ?_
        first | refine o_q _ rfl rfl rfl (OpQ.fn (ask_t _) rfl rfl SubRC.sub) ?_ | refine o_fnx (ask_f _) rfl rfl rfl SubRC.sub ?_
        repeat (first | with_reducible refine r_then_panic ?_); try ((exfalso; first | omega | (obtain ⟨j, hj, hp⟩ := h56; exact hp (hg.2.2.2.2.1 j hj))))
        all_goals
         refine o_nil (r_then (r_seq (r_region ?_))); refine o_q _ rfl rfl rfl (v_ldW rfl Tryz.underlying62 rfl inf62 rfl rfl) ?_; refine o_makeMap (P := Tryz.prog) (k := 216) (okS B) rfl rfl rfl rfl (fun b60 => ?_); refine o_q _ rfl rfl rfl (v_bS rfl Tryz.underlying213 inf213 plt213 rfl rfl rfl (by repeat (first | exact trivial | refine ⟨rfl, ?_⟩)) (by rfl)) ?_; refine o_boxA rfl rfl rfl rfl rfl (fun b62 => ?_); refine q_as rfl rfl rfl rfl rfl ?_; refine o_nil (r_then (r_seq ?_)); refine r_seq ?_; refine Imp.box_to b62 [.slice po B.spits.length pc, .slice so B.days.length sc, .slice lo B.logs.length lc, .map (some b60)] rfl ?_; refine Imp.sealB b62 ?_; refine r_region ?_; refine o_q _ rfl rfl rfl (v_fieldAddr rfl Tryz.underlying62 inf60 rfl rfl rfl rfl) ?_; refine o_q _ rfl rfl rfl (v_ld1 rfl Tryz.underlying60 rfl rfl rfl) ?_; refine o_q _ rfl rfl rfl (v_len rfl rfl Tryz.underlying60 rfl) ?_; refine q_mv rfl rfl rfl rfl rfl ?_; refine o_nil (r_then ?_); refine r_block ?_; refine r_loop (ι := Nat) (fun k => k ≤ B.logs.length) (fun k => [(1, .func (.func ki) #[] caps.toArray), (7, pt b62 0), (64, .slice lo B.logs.length lc), (65, i64 B.logs.length), (66, i64 k)]) (fun k => memo Tryz.prog 216 (okS B) b60 :: M) (fun k => boxF b62 213 [.slice po B.spits.length pc, .slice so B.days.length sc, .slice lo B.logs.length lc, .map (some b60)] :: (rowD po 3 encSp B.spits :: rowD so 2 encS B.days :: rowD lo 3 encLg B.logs :: Rc) ++ Rf) (fun k => B.logs.length - k) 0 ?_ ?_ ?_
         ·
          exact r_here (by repeat (first | exact FSub.nil | refine FSub.cons rfl ?_)) SelMC.sel SubRC.sub
         ·
          omega
         ·
          rintro k hI1; have hlk := hg.2.2.2.2.2 k; refine r_seq (r_region ?_); refine o_q _ rfl rfl rfl (v_lss rfl rfl rfl) ?_; refine o_nil (r_then (r_seq ?_)); refine r_condd rfl (fun hc67 => ?_) (fun hc67 => ?_)
          ·
           refine r_skip (r_then ?_); refine r_seq (r_block ?_); refine r_seq (r_region ?_); refine o_q _ rfl rfl rfl (v_indexAddrSn rfl Tryz.underlying60 inf138 rfl rfl rfl (by omega) rfl) ?_; refine o_q _ rfl rfl rfl (v_loadEN rfl Tryz.underlying138 rfl inf138 rfl (by omega) rfl rfl rfl) ?_; refine o_alloc rfl inf138 rfl rfl rfl rfl rfl (fun b9 => ?_); refine o_st rfl inf138 rfl rfl rfl rfl rfl rfl rfl rfl ?_; refine o_nil (r_then ?_); refine Imp.box_to b9 [i64 (B.logs.getD k default).day, i64 (B.logs.getD k default).lo, i64 (B.logs.getD k default).hi] rfl ?_; refine r_region ?_; refine q_mv rfl rfl rfl rfl rfl ?_; refine o_q _ rfl rfl rfl (v_fieldAddr rfl Tryz.underlying138 inf3 rfl rfl rfl rfl) ?_; refine o_q _ rfl rfl rfl (v_ld1 rfl Tryz.underlying3 rfl rfl rfl) ?_; refine o_q _ rfl rfl rfl (v_true (OpQ.fn (isDay_v B po so lo pc sc lc b62 b60 _ (by omega)) rfl rfl SubRC.sub) (by omega)) ?_
           all_goals
            refine q_mv rfl rfl rfl rfl rfl ?_; refine o_g _ rfl rfl rfl rfl (v_fieldAddr rfl Tryz.underlying138 inf43 rfl rfl rfl rfl) ?_; refine o_g _ rfl rfl rfl rfl (v_ldN rfl Tryz.underlying43 rfl inf43 rfl rfl rfl) ?_; refine o_g _ rfl rfl rfl rfl (v_true (OpQ.fn (isCount_v _ _) rfl rfl SubRC.sub) (by omega)) ?_
            all_goals
             refine o_q _ rfl rfl rfl (v_pick_t rfl rfl rfl) ?_; refine o_q _ rfl rfl rfl (OpQ.fn (ask_t _) rfl rfl SubRC.sub) ?_; try ((exfalso; first | omega | (obtain ⟨j, hj, hp⟩ := h56; exact hp (hg.2.2.2.2.1 j hj))))
             all_goals
              refine o_nil ?_; refine r_in_normal ?_; refine r_then ?_; refine r_region ?_; refine o_q _ rfl rfl rfl (v_add rfl rfl rfl (by omega)) ?_; refine q_mv rfl rfl rfl rfl rfl ?_; refine o_nil (r_then ?_); refine r_next (k + 1) ?_ ?_ ?_
              ·
               exact r_here (by repeat (first | exact FSub.nil | refine FSub.cons rfl ?_)) SelMC.sel SubRC.sub
              ·
               omega
              ·
               omega
          ·
           refine r_exit ?_; refine r_then_exit ?_; refine r_then_exit ?_; refine r_in_here ?_; refine r_then (r_seq (r_region ?_)); refine q_mv rfl rfl rfl rfl rfl ?_; refine q_mv rfl rfl rfl rfl rfl ?_; refine o_q _ rfl rfl rfl (OpQ.call (hI b62 b60) rfl [] caps rfl rfl rfl SubRC.sub) ?_; refine o_q _ rfl rfl rfl (OpQ.fn (ask_t _) rfl rfl SubRC.sub) ?_; try ((exfalso; first | omega | (obtain ⟨j, hj, hp⟩ := h56; exact hp (hg.2.2.2.2.1 j hj))))
           all_goals
            refine o_nil (r_then (r_seq (r_region ?_))); refine q_mv rfl rfl rfl rfl rfl ?_; refine q_as rfl rfl rfl rfl rfl ?_; refine o_nil (r_then ?_); refine r_ret ?_; exact r_rete [memo Tryz.prog 216 (okS B) b60] [boxF b62 213 [.slice po B.spits.length pc, .slice so B.days.length sc, .slice lo B.logs.length lc, .map (some b60)]] (Rd.tmp rfl rfl) ⟨(b62, b60), rfl, trivial, rfl, rfl⟩ SelMC.sel SubRC.sub
set_option maxHeartbeats 4000000 in
theorem Cut_v (d : Nat) (hg : GoodS B) (hcs : canS B) (hd : d < B.days.length) : FnV Tryz.prog 20 [valS B po pc so sc lo lc, i64 (d : Int)] [rowD po 3 encSp B.spits, rowD so 2 encS B.days, rowD lo 3 encLg B.logs] (.tuple #[vS (cutP B d), i64 0]) := by
 refine FnV.introD Tryz.call20 Tryz.func20 rfl Tryz.ntmps20 rfl ?_; intro W M Rf; refine r_seq (r_region ?_); refine o_boxA rfl rfl rfl rfl rfl (fun b2 => ?_); refine o_box1 rfl rfl rfl rfl rfl rfl (fun b3 => ?_); refine o_alloc rfl inf43 rfl rfl rfl rfl rfl (fun b4 => ?_); refine o_alloc rfl inf47 rfl rfl rfl rfl rfl (fun b5 => ?_); refine o_nil (r_then (r_seq (r_region ?_))); refine o_defer rfl rfl rfl rfl ?_; refine o_nil (r_then (r_seq ?_)); refine Imp.sealB b3 ?_; refine r_parPZ [0, 1, 4, 2, 3, 5, 6, 7, 8] (by kernel_rfl) rfl (fun w => w.heap[b3]? = some (.cells ([i64 (d : Int)] : List Value).toArray 3 (0, 0))) (fun X F w h => h.fact (φ := boxF b3 3 [i64 (d : Int)]) (List.mem_append_right _ InR.mem)) [2] 3 (by kernel_rfl) (by kernel_rfl) (by kernel_rfl) (by kernel_rfl) (by kernel_rfl) mixed (by kernel_rfl) (by rfl) ?_; refine p_q _ rfl rfl rfl (fun _ _ => v_ldW rfl Tryz.underlying62 rfl inf62 rfl rfl) ?_; refine p_q _ rfl rfl rfl (fun _ _ => v_makeFunc rfl rfl rfl) ?_; refine p_q _ rfl rfl rfl (fun _ _ => v_lf1 rfl Tryz.underlying3 rfl rfl rfl) ?_; refine p_nilF (by simp only [List.nil_append, List.cons_append]; rfl) rfl ⟨⟨_, _, _, rfl, rfl, rfl, rfl, rfl, float_cell (vs := [i64 (d : Int)]) (B := 3) rfl Tryz.underlying3 rfl rfl rfl (fun _ h => h)⟩, trivial⟩ ?_; (iterate 3 refine f_q rfl ?_); refine f_nil ?_; refine oz_lift (fun w h => h.fact (φ := boxF b3 3 [i64 (d : Int)]) InR.mem) ?_; refine o_fnN (open_ok B po so lo pc sc lc 73 [pt b3 0] [boxF b3 3 [i64 (d : Int)]] (fun fb mb => is1_v B po so lo pc sc lc fb mb d b3 hd (by have := hg.2.1; omega)) hg) rfl rfl rfl rfl rfl SubRC.sub (fun x8 _ => ?_); refine o_nil (r_then ?_); refine oz_lift (fun w h => h.fact (φ := boxF b3 3 [i64 (d : Int)]) InR.mem) ?_; refine o_q _ rfl rfl rfl (OpQ.fnm (told_m B po so lo pc sc lc x8.1 x8.2 hg hcs) rfl [] [] rfl rfl rfl SubRC.sub) ?_; refine o_nil (r_then ?_); refine oz_lift (fun w h => h.fact (φ := boxF b3 3 [i64 (d : Int)]) InR.mem) ?_; refine o_fnX (sods_s B po so lo pc sc lc x8.1 x8.2 d hg hd) rfl rfl rfl rfl rfl SubRC.sub (fun x11 _ => ?_); refine o_nil (r_then ?_); refine oz_lift (fun w h => h.fact (φ := boxF b3 3 [i64 (d : Int)]) InR.mem) ?_; refine o_q _ rfl rfl rfl (OpQ.fn (hull_v ((goodC B).map (cutSp B d)) x11.1 x11.2 (goodC_pos hcs) (by have := cutTo_len (B := B) hg d (allC B).length; rw [cutTo_all] at this; omega)) rfl rfl SubRC.sub) ?_; refine o_nil (r_then ?_); refine oz_lift (fun w h => h.fact (φ := boxF b3 3 [i64 (d : Int)]) InR.mem) ?_; refine o_st rfl inf43 rfl rfl rfl rfl rfl rfl rfl rfl ?_; refine o_nil (r_then ?_); refine oz_lift (fun w h => h.fact (φ := boxF b3 3 [i64 (d : Int)]) InR.mem) ?_; refine o_st rfl inf47 rfl rfl rfl rfl rfl rfl rfl rfl ?_; refine o_nil (r_then ?_); refine oz_nil (fun w h => h.fact (φ := boxF b3 3 [i64 (d : Int)]) InR.mem) ?_; refine r_nop ?_; refine r_then ?_; refine r_ret ?_
 exact d_retv answer_ans (Rd.two rfl (RdI.cellW Tryz.underlying43 rfl inf43 rfl rfl) (RdI.cell1 Tryz.underlying47 rfl rfl rfl)) rfl SelMC.sel SubRC.sub
end Go.Proofs.YtpndeonmmcaikaaGreat.SodW

namespace Go.Proofs.YtpndeonmmcaikaaGreat.FootW
open Go.G Foot4
set_option maxRecDepth 1000000
attribute [local irreducible] G.ParO G.Fin
end Go.Proofs.YtpndeonmmcaikaaGreat.FootW

namespace Go.Proofs.YtpndeonmmcaikaaGreat.FootW
open Go.G Foot4
set_option maxRecDepth 1000000
attribute [local irreducible] G.ParO G.Fin
set_option maxHeartbeats 4000000 in
theorem after_v (w r d : Int) (h : -1000000 ≤ w ∧ w ≤ 1000000 ∧ -1000000 ≤ r ∧ r ≤ 1000000 ∧ -1000000 ≤ d ∧ d ≤ 1000000) : FnV Tryz.prog 207 [i64 w, i64 r, i64 d] [] (i64 (Foot4.step w r d)) := by
 refine FnV.intro Tryz.call207 Tryz.func207 rfl Tryz.ntmps207 rfl ?_; intro W M Rf; refine r_seq (r_region ?_); refine q_as rfl rfl rfl rfl rfl ?_; refine o_nil (r_then (r_seq (r_region ?_))); refine q_mv rfl rfl rfl rfl rfl ?_; refine q_mv rfl rfl rfl rfl rfl ?_; refine o_q _ rfl rfl rfl (v_add rfl rfl rfl (by omega)) ?_; refine q_mv rfl rfl rfl rfl rfl ?_; refine o_q _ rfl rfl rfl (v_sub rfl rfl rfl (by omega)) ?_; refine o_q _ rfl rfl rfl (v_max2 rfl rfl rfl) ?_; refine q_as rfl rfl rfl rfl rfl ?_; refine o_nil (r_then ?_); refine r_ret ?_; exact r_retv2 (Rd.tmp rfl rfl) rfl SelMC.sel SubRC.sub
set_option maxHeartbeats 4000000 in
theorem fits_v (w l : Int) : FnV Tryz.prog 206 [i64 w, i64 l] [] (.bool (decide (w ≤ l))) := by
 refine FnV.intro Tryz.call206 Tryz.func206 rfl Tryz.ntmps206 rfl ?_; intro W M Rf; refine r_seq (r_region ?_); refine q_as rfl rfl rfl rfl rfl ?_; refine o_nil (r_then (r_seq (r_region ?_))); refine q_mv rfl rfl rfl rfl rfl ?_; refine q_mv rfl rfl rfl rfl rfl ?_; refine o_q _ rfl rfl rfl (v_leq rfl rfl rfl) ?_; refine q_as rfl rfl rfl rfl rfl ?_; refine o_nil (r_then ?_); refine r_ret ?_; exact r_retv2 (Rd.tmp rfl rfl) rfl SelMC.sel SubRC.sub
set_option maxHeartbeats 4000000 in
theorem dry_v (lo hi : Int) : FnV Tryz.prog 232 [.agg #[], .agg #[i64 lo, i64 hi]] [] (i64 lo) := by
 refine FnV.intro Tryz.call232 Tryz.func232 rfl Tryz.ntmps232 rfl ?_; intro W M Rf; refine r_seq (r_region ?_); refine o_boxA rfl rfl rfl rfl rfl (fun b2 => ?_); refine o_boxA rfl rfl rfl rfl rfl (fun b3 => ?_); refine q_as rfl rfl rfl rfl rfl ?_; refine o_nil (r_then (r_seq (r_region ?_))); refine o_q _ rfl rfl rfl (v_fieldAddr rfl Tryz.underlying43 inf3 rfl rfl rfl rfl) ?_; refine o_q _ rfl rfl rfl (v_ld1 rfl Tryz.underlying3 rfl rfl rfl) ?_; refine q_as rfl rfl rfl rfl rfl ?_; refine o_nil (r_then ?_); refine r_ret ?_; exact r_retv2 (Rd.tmp rfl rfl) rfl SelMC.sel SubRC.sub
set_option maxHeartbeats 4000000 in
theorem wet0_v (lo hi : Int) (hl : -1000 ≤ lo ∧ lo ≤ 1000) (hh : -1000 ≤ hi ∧ hi ≤ 1000) : FnV Tryz.prog 233 [.agg #[], .agg #[i64 lo, i64 hi]] [] (i64 hi) := by
 refine FnV.intro Tryz.call233 Tryz.func233 rfl Tryz.ntmps233 rfl ?_; intro W M Rf; refine r_seq (r_region ?_); refine o_boxA rfl rfl rfl rfl rfl (fun b2 => ?_); refine o_boxA rfl rfl rfl rfl rfl (fun b3 => ?_); refine q_as rfl rfl rfl rfl rfl ?_; refine o_nil (r_then (r_seq ?_)); refine r_region_q mixed (by kernel_rfl) ?_; refine q_q _ rfl rfl rfl (v_fieldAddr0 rfl Tryz.underlying314 inf312 rfl rfl rfl rfl rfl (by kernel_rfl) rfl) ?_; refine q_q _ rfl rfl rfl (v_ldW rfl Tryz.underlying312 rfl inf312 rfl rfl) ?_; refine q_q _ rfl rfl rfl (v_ldW rfl Tryz.underlying43 rfl inf43 rfl rfl) ?_; refine q_q _ rfl rfl rfl (OpQ.fn (dry_v _ _) rfl rfl SubRC.sub) ?_; refine q_q _ rfl rfl rfl (v_fieldAddr rfl Tryz.underlying43 inf3 rfl rfl rfl rfl) ?_; refine q_q _ rfl rfl rfl (v_ld1 rfl Tryz.underlying3 rfl rfl rfl) ?_; refine q_q _ rfl rfl rfl (v_fieldAddr rfl Tryz.underlying43 inf3 rfl rfl rfl rfl) ?_; refine q_q _ rfl rfl rfl (v_ld1 rfl Tryz.underlying3 rfl rfl rfl) ?_; refine q_q _ rfl rfl rfl (v_sub rfl rfl rfl (by omega)) ?_; refine q_q _ rfl rfl rfl (v_add rfl rfl rfl (by omega)) ?_; refine q_q _ rfl rfl rfl (v_assign rfl rfl) ?_; refine q_nil ?_; refine r_then ?_; refine r_ret ?_; exact r_retv2 (Rd.tmp rfl rfl) (congrArg (Value.int .i64) (by omega)) SelMC.sel SubRC.sub
set_option maxHeartbeats 4000000 in
theorem ask_t (e : Int) : FnV Tryz.prog 177 [.bool true, i64 e] [] (.tuple #[]) := by
 refine FnV.intro Tryz.call177 Tryz.func177 rfl Tryz.ntmps177 rfl ?_; intro W M Rf; refine r_seq (r_region ?_); refine q_mv rfl rfl rfl rfl rfl ?_; refine o_q _ rfl rfl rfl (v_not rfl rfl) ?_; refine o_nil (r_then ?_); refine r_cond rfl (fun hc5 => ?_) (fun hc5 => ?_)
 ·
  (exfalso; revert hc5; decide)
 ·
  refine r_skip ?_; exact r_endv (Rd.none rfl) SelMC.sel SubRC.sub
set_option maxHeartbeats 4000000 in
theorem ask_f (e : Int) : FnX Tryz.prog 177 [.bool false, i64 e] [] (.iface 306 (i64 e)) := by
 refine FnX.intro Tryz.call177 Tryz.func177 rfl Tryz.ntmps177 rfl ?_; intro W M Rf; refine r_seq (r_region ?_); refine q_mv rfl rfl rfl rfl rfl ?_; refine o_q _ rfl rfl rfl (v_not rfl rfl) ?_; refine o_nil (r_then ?_); refine r_cond rfl (fun hc5 => ?_) (fun hc5 => ?_)
 ·
  refine r_region ?_; refine q_mv rfl rfl rfl rfl rfl ?_; refine o_q _ rfl rfl rfl (v_makeIface rfl Tryz.underlying306 rfl rfl) ?_; refine o_panic rfl rfl rfl ?_; exact r_retx SelMC.sel SubRC.sub
 ·
  (exfalso; revert hc5; decide)
set_option maxHeartbeats 4000000 in
theorem answer_ans : AnsP Tryz.prog 155 .i64 306 47 := by
  refine ⟨Tryz.call155, fun W M R w b hw => ?_, fun W M R w b x y hw => ?_⟩
  · refine ans_intro (args := [pt b 0]) (u' := .returning) (v := .nilIface) Tryz.func155 rfl Tryz.ntmps155 rfl rfl rfl rfl rfl rfl rfl rfl rfl (fun c₀ cs h => .inr ⟨rec_ret h, rfl, rfl⟩) hw ?_
    intro c₀ cs
    refine r_seq ?_
    refine r_region ?_
    refine o_q _ rfl rfl rfl (v_move rfl rfl) ?_
    refine o_q _ rfl rfl rfl (v_ifnil rfl Tryz.underlying20 rfl) ?_
    refine o_nil ?_
    with_reducible refine r_then ?_
    refine r_cond rfl (fun hc7 => ?_) (fun hc7 => ?_)
    ·
      (exfalso; revert hc7; decide)
    ·
      refine r_skip ?_
      exact r_ends (Rd.none rfl) (fun w' h => ⟨⟨_, rfl⟩, rfl, h⟩)
  · refine ans_intro (args := [pt b 0]) (u' := .panicking [{ v := .iface 306 (i64 y), recovered := true }]) (v := .iface 306 (i64 y)) Tryz.func155 rfl Tryz.ntmps155 rfl rfl rfl rfl rfl rfl rfl rfl rfl (fun c₀ cs h => .inl (rec_pan h)) hw ?_
    intro c₀ cs
    refine r_seq ?_
    refine r_region ?_
    refine o_q _ rfl rfl rfl (v_move rfl rfl) ?_
    refine o_q _ rfl rfl rfl (v_ifnn rfl Tryz.underlying20 rfl) ?_
    refine o_nil ?_
    with_reducible refine r_then ?_
    refine r_cond rfl (fun hc7 => ?_) (fun hc7 => ?_)
    ·
      refine r_seq ?_
      refine r_region ?_
      refine o_q _ rfl rfl rfl (v_move rfl rfl) ?_
      refine o_q _ rfl rfl rfl (v_assertOk rfl Tryz.underlying306 rfl rfl) ?_
      refine o_q _ rfl rfl rfl (v_move rfl rfl) ?_
      refine o_q _ rfl rfl rfl (v_extract rfl rfl rfl) ?_
      refine o_q _ rfl rfl rfl (v_extract rfl rfl rfl) ?_
      refine o_q _ rfl rfl rfl (v_assign rfl rfl) ?_
      refine o_q _ rfl rfl rfl (v_assign rfl rfl) ?_
      refine o_nil ?_
      with_reducible refine r_then ?_
      refine r_seq ?_
      refine r_seq ?_
      refine r_region ?_
      refine o_q _ rfl rfl rfl (v_move rfl rfl) ?_
      refine o_q _ rfl rfl rfl (v_not rfl rfl) ?_
      refine o_nil ?_
      with_reducible refine r_then ?_
      refine r_cond rfl (fun hc14 => ?_) (fun hc14 => ?_)
      ·
        (exfalso; revert hc14; decide)
      ·
        refine r_skip ?_
        with_reducible refine r_then ?_
        refine r_region ?_
        refine o_q _ rfl rfl rfl (v_move rfl rfl) ?_
        refine o_q _ rfl rfl rfl (v_move rfl rfl) ?_
        refine o_q _ rfl rfl rfl (v_nilCheck rfl rfl) ?_
        refine o_st rfl inf47 rfl rfl rfl rfl rfl rfl rfl rfl ?_
        refine o_nil ?_
        exact r_ends (Rd.none rfl) (fun w' h => ⟨⟨_, rfl⟩, rfl, h⟩)
    ·
      (exfalso; revert hc7; decide)
end Go.Proofs.YtpndeonmmcaikaaGreat.FootW

namespace Go.Proofs.YtpndeonmmcaikaaGreat.FootW
open Go.G Foot4
set_option maxRecDepth 1000000
attribute [local irreducible] G.ParO G.Fin
theorem chk_1 {F : Work} {v : Bool} (h : ¬ GoodF F) : chk F v = 1 := if_neg h
theorem chk_2 {F : Work} {v : Bool} (hv : ¬ v = true) (h : GoodF F) : chk F v = 2 := by unfold chk; rw [if_pos h, if_neg hv]
theorem chk_0 {F : Work} {v : Bool} (hv : v = true) (h : GoodF F) : chk F v = 0 := by unfold chk; rw [if_pos h, if_pos hv]
theorem goodrain {F : Work} (h : ¬ ∃ k, k < F.rain.length ∧ ¬ SpanOk (F.rain.getD k default) 10) : ∀ k, k < F.rain.length → 0 ≤ (F.rain.getD k default).lo ∧ (F.rain.getD k default).lo ≤ (F.rain.getD k default).hi ∧ (F.rain.getD k default).hi ≤ 10 := by
  intro k hk
  exact Classical.not_not.1 fun hx => h ⟨k, hk, hx⟩
theorem norain {F : Work} (h : ∃ k, k < F.rain.length ∧ ¬ SpanOk (F.rain.getD k default) 10) (g : ∀ k, k < F.rain.length → 0 ≤ (F.rain.getD k default).lo ∧ (F.rain.getD k default).lo ≤ (F.rain.getD k default).hi ∧ (F.rain.getD k default).hi ≤ 10) : False := by
  obtain ⟨k, hk, hx⟩ := h
  exact hx (g k hk)
theorem r_panx {P : Program} {W : World} {n : Nat} {D : List Deferred} {L : Tm} {M : List Res} {R : List Fact} {fn : Func} {Rr : Ending → World → Prop} {c : List PanicEntry} (h : False) : Imp W n D L M R (bodyPost P fn Rr (.panic c)) := h.elim
theorem r_retx2 {P : Program} {W : World} {n : Nat} {L : Tm} {M : List Res} {R : List Fact} {fn : Func} {M0 : List Res} {R0 : List Fact} {t : TypeId} {x y : Int} (he : x = y) (hM : SelM M M0) (hR : SubR R R0) : Imp W n [] L M R (bodyPost P fn (RetX W M0 R0 (.iface t (i64 y))) (.panic [{ v := .iface t (i64 x), recovered := false }])) := by
  subst he; exact r_retx hM hR
set_option maxHeartbeats 4000000 in
theorem open_ok (F : Work) (ro ho : Option Addr) (rc hc : Nat) (hr : F.rain.length ≤ 40) (hh : F.heaps.length ≤ 40) (g : GoodF F) : FnR Tryz.prog 156 [valF F ro rc ho hc, .bool true] [rowD ro 2 encS F.rain, rowD ho 3 encH F.heaps] (isP) (fun v => [boxF (blk v) 309 (cellsF F ro rc ho hc)]) := by
 refine FnR.intro Tryz.call156 Tryz.func156 rfl Tryz.ntmps156 rfl ?_; intro W M Rf; refine r_seq (r_region ?_); refine o_boxA rfl rfl rfl rfl rfl (fun b2 => ?_); refine q_as rfl rfl rfl rfl rfl ?_; refine o_nil (r_then (r_seq (r_region ?_))); refine o_q _ rfl rfl rfl (v_fieldAddr rfl Tryz.underlying206 inf59 rfl rfl rfl rfl) ?_; refine o_q _ rfl rfl rfl (v_ld1 rfl Tryz.underlying59 rfl rfl rfl) ?_; refine o_q _ rfl rfl rfl (v_len rfl rfl Tryz.underlying59 rfl) ?_; refine o_test rfl rfl rfl (OpQ.fn (within_v _ _ _) rfl rfl SubRC.sub) (fun h11 => ?_) (fun h11 => ?_)
 all_goals
  refine q_mv rfl rfl rfl rfl rfl ?_
  first | refine o_gn rfl rfl rfl rfl ?_ | refine o_g _ rfl rfl rfl rfl (v_fieldAddr rfl Tryz.underlying206 inf3 rfl rfl rfl rfl) ?_
  first | refine o_gn rfl rfl rfl rfl ?_ | refine o_g _ rfl rfl rfl rfl (v_ld1 rfl Tryz.underlying3 rfl rfl rfl) ?_
  first | refine o_gn rfl rfl rfl rfl ?_ | refine o_gtest rfl rfl rfl rfl (OpQ.fn (within_v _ _ _) rfl rfl SubRC.sub) (fun h15 => ?_) (fun h15 => ?_)
  all_goals
   first | refine o_q _ rfl rfl rfl (v_pick_t rfl rfl rfl) ?_ | refine o_q _ rfl rfl rfl (v_pick_f rfl rfl rfl) ?_
   refine q_mv rfl rfl rfl rfl rfl ?_
   first | refine o_gn rfl rfl rfl rfl ?_ | refine o_g _ rfl rfl rfl rfl (v_fieldAddr rfl Tryz.underlying206 inf204 rfl rfl rfl rfl) ?_
   first | refine o_gn rfl rfl rfl rfl ?_ | refine o_g _ rfl rfl rfl rfl (v_ld1 rfl Tryz.underlying204 rfl rfl rfl) ?_
   first | refine o_gn rfl rfl rfl rfl ?_ | refine o_g _ rfl rfl rfl rfl (v_len rfl rfl Tryz.underlying204 rfl) ?_
   first | refine o_gn rfl rfl rfl rfl ?_ | refine o_gtest rfl rfl rfl rfl (v_leq rfl rfl rfl) (fun h21 => ?_) (fun h21 => ?_)
   all_goals
    first | refine o_q _ rfl rfl rfl (v_pick_t rfl rfl rfl) ?_ | refine o_q _ rfl rfl rfl (v_pick_f rfl rfl rfl) ?_
    first | refine o_q _ rfl rfl rfl (OpQ.fn (ask_t _) rfl rfl SubRC.sub) ?_ | refine o_fnx (ask_f _) rfl rfl rfl SubRC.sub ?_
    repeat (first | with_reducible refine r_then_panic ?_); try (refine r_panx ?_; (obtain ⟨g1, g2, g3, g4, g5, g6⟩ := g; first | omega | exact absurd rfl (by assumption) | exact norain (by assumption) g4 | (have g9 := g5 k1 (by omega); omega) | (have g9 := g6 k2 (by omega); omega)))
    all_goals
     refine o_nil (r_then (r_seq (r_region ?_))); refine o_q _ rfl rfl rfl (v_fieldAddr rfl Tryz.underlying206 inf59 rfl rfl rfl rfl) ?_; refine o_q _ rfl rfl rfl (v_ld1 rfl Tryz.underlying59 rfl rfl rfl) ?_; refine o_test rfl rfl rfl (OpQ.fn (spans_c (fun s => ¬ SpanOk s 10) F.rain ro rc 179 [] [] (by omega) (fun k _ => open1_v _)) rfl rfl SubRC.sub) (fun h26 => ?_) (fun h26 => ?_)
     all_goals
      refine o_q _ rfl rfl rfl (v_not rfl rfl) ?_
      first | refine o_q _ rfl rfl rfl (OpQ.fn (ask_t _) rfl rfl SubRC.sub) ?_ | refine o_fnx (ask_f _) rfl rfl rfl SubRC.sub ?_
      repeat (first | with_reducible refine r_then_panic ?_); try (refine r_panx ?_; (obtain ⟨g1, g2, g3, g4, g5, g6⟩ := g; first | omega | exact absurd rfl (by assumption) | exact norain (by assumption) g4 | (have g9 := g5 k1 (by omega); omega) | (have g9 := g6 k2 (by omega); omega)))
      all_goals
       refine o_nil (r_then (r_seq ?_)); refine r_seq (r_region ?_); refine q_mv rfl rfl rfl rfl rfl ?_; refine o_nil (r_then ?_); refine r_block ?_; refine r_loop (ι := Nat) (fun k1 => k1 ≤ 3 ∧ ∀ j, j < k1 → (0 ≤ F.lim.at j ∧ F.lim.at j ≤ 60) ∧ (0 ≤ F.dr.at j ∧ F.dr.at j ≤ 10)) (fun k1 => [(1, .bool true), (2, pt b2 0), (29, i64 k1)]) (fun k1 => bx b2 206 (cellsF F ro rc ho hc) :: M) (fun k1 => [rowD ro 2 encS F.rain, rowD ho 3 encH F.heaps] ++ Rf) (fun k1 => 3 - k1) 0 ?_ ?_ ?_
       ·
        exact r_here (by repeat (first | exact FSub.nil | refine FSub.cons rfl ?_)) SelMC.sel SubRC.sub
       ·
        exact ⟨by omega, fun j hj => absurd hj (by omega)⟩
       ·
        rintro k1 hI0; refine r_seq (r_region ?_); refine o_q _ rfl rfl rfl (v_lss rfl rfl rfl) ?_; refine o_nil (r_then (r_seq ?_)); refine r_condd rfl (fun hc30 => ?_) (fun hc30 => ?_)
        ·
         refine r_skip (r_then ?_); refine r_seq (r_block ?_); refine r_seq (r_region ?_); refine q_mv rfl rfl rfl rfl rfl ?_; refine q_as rfl rfl rfl rfl rfl ?_; refine o_nil (r_then ?_); refine r_region ?_; refine q_mv rfl rfl rfl rfl rfl ?_; refine o_q _ rfl rfl rfl (v_fieldAddr rfl Tryz.underlying206 inf203 rfl rfl rfl rfl) ?_; refine o_q _ rfl rfl rfl (v_indexAddrAn rfl Tryz.underlying203 inf3 rfl rfl (by omega)) ?_; refine o_q _ rfl rfl rfl (v_ld1 rfl Tryz.underlying3 rfl rfl (F_limn (by omega))) ?_; refine o_test rfl rfl rfl (OpQ.fn (within_v _ _ _) rfl rfl SubRC.sub) (fun h36 => ?_) (fun h36 => ?_)
         all_goals
          refine q_mv rfl rfl rfl rfl rfl ?_
          first | refine o_gn rfl rfl rfl rfl ?_ | refine o_g _ rfl rfl rfl rfl (v_move rfl rfl) ?_
          first | refine o_gn rfl rfl rfl rfl ?_ | refine o_g _ rfl rfl rfl rfl (v_fieldAddr rfl Tryz.underlying206 inf203 rfl rfl rfl rfl) ?_
          first | refine o_gn rfl rfl rfl rfl ?_ | refine o_g _ rfl rfl rfl rfl (v_indexAddrAn rfl Tryz.underlying203 inf3 rfl rfl (by omega)) ?_
          first | refine o_gn rfl rfl rfl rfl ?_ | refine o_g _ rfl rfl rfl rfl (v_ld1 rfl Tryz.underlying3 rfl rfl (F_drn (by omega))) ?_
          first | refine o_gn rfl rfl rfl rfl ?_ | refine o_gtest rfl rfl rfl rfl (OpQ.fn (within_v _ _ _) rfl rfl SubRC.sub) (fun h42 => ?_) (fun h42 => ?_)
          all_goals
           first | refine o_q _ rfl rfl rfl (v_pick_t rfl rfl rfl) ?_ | refine o_q _ rfl rfl rfl (v_pick_f rfl rfl rfl) ?_
           first | refine o_q _ rfl rfl rfl (OpQ.fn (ask_t _) rfl rfl SubRC.sub) ?_ | refine o_fnx (ask_f _) rfl rfl rfl SubRC.sub ?_
           repeat (first | with_reducible refine r_then_panic ?_ | with_reducible refine r_in_panic ?_); try (refine r_panx ?_; (obtain ⟨g1, g2, g3, g4, g5, g6⟩ := g; first | omega | exact absurd rfl (by assumption) | exact norain (by assumption) g4 | (have g9 := g5 k1 (by omega); omega) | (have g9 := g6 k2 (by omega); omega)))
           all_goals
            refine o_nil ?_; refine r_in_normal ?_; refine r_then ?_; refine r_region ?_; refine o_q _ rfl rfl rfl (v_add rfl rfl rfl (by omega)) ?_; refine q_mv rfl rfl rfl rfl rfl ?_; refine o_nil (r_then ?_); refine r_next (k1 + 1) ?_ ?_ ?_
            ·
             exact r_here (by repeat (first | exact FSub.nil | refine FSub.cons rfl ?_)) SelMC.sel SubRC.sub
            ·
             exact ⟨by omega, Foot4.all_step hI0.2 ⟨by assumption, by assumption⟩⟩
            ·
             omega
        ·
         refine r_exit ?_; refine r_then_exit ?_; refine r_then_exit ?_; refine r_in_here ?_; refine r_then (r_seq ?_); refine r_seq (r_region ?_); refine o_q _ rfl rfl rfl (v_fieldAddr rfl Tryz.underlying206 inf204 rfl rfl rfl rfl) ?_; refine o_q _ rfl rfl rfl (v_ld1 rfl Tryz.underlying204 rfl rfl rfl) ?_; refine o_q _ rfl rfl rfl (v_len rfl rfl Tryz.underlying204 rfl) ?_; refine q_mv rfl rfl rfl rfl rfl ?_; refine o_nil (r_then ?_); refine r_block ?_; refine r_loop (ι := Nat) (fun k2 => k2 ≤ F.heaps.length ∧ ∀ j, j < k2 → (0 ≤ (F.heaps.getD j default).lo ∧ (F.heaps.getD j default).lo ≤ (F.heaps.getD j default).hi ∧ (F.heaps.getD j default).hi ≤ 60) ∧ (0 ≤ (F.heaps.getD j default).sods ∧ (F.heaps.getD j default).sods ≤ 500)) (fun k2 => [(1, .bool true), (2, pt b2 0), (47, .slice ho F.heaps.length hc), (48, i64 F.heaps.length), (49, i64 k2)]) (fun k2 => bx b2 206 (cellsF F ro rc ho hc) :: M) (fun k2 => [rowD ro 2 encS F.rain, rowD ho 3 encH F.heaps] ++ Rf) (fun k2 => F.heaps.length - k2) 0 ?_ ?_ ?_
         ·
          exact r_here (by repeat (first | exact FSub.nil | refine FSub.cons rfl ?_)) SelMC.sel SubRC.sub
         ·
          exact ⟨by omega, fun j hj => absurd hj (by omega)⟩
         ·
          rintro k2 hI1; refine r_seq (r_region ?_); refine o_q _ rfl rfl rfl (v_lss rfl rfl rfl) ?_; refine o_nil (r_then (r_seq ?_)); refine r_condd rfl (fun hc50 => ?_) (fun hc50 => ?_)
          ·
           refine r_skip (r_then ?_); refine r_seq (r_block ?_); refine r_seq (r_region ?_); refine o_q _ rfl rfl rfl (v_indexAddrSn rfl Tryz.underlying204 inf278 rfl rfl rfl (by omega) rfl) ?_; refine o_q _ rfl rfl rfl (v_loadEN rfl Tryz.underlying278 rfl inf278 rfl (by omega) rfl rfl rfl) ?_; refine o_alloc rfl inf278 rfl rfl rfl rfl rfl (fun b7 => ?_); refine o_st rfl inf278 rfl rfl rfl rfl rfl rfl rfl rfl ?_; refine o_nil (r_then ?_); refine r_region ?_; refine o_q _ rfl rfl rfl (v_fieldAddr rfl Tryz.underlying278 inf43 rfl rfl rfl rfl) ?_; refine o_q _ rfl rfl rfl (v_ldN rfl Tryz.underlying43 rfl inf43 rfl rfl rfl) ?_; refine o_test rfl rfl rfl (OpQ.fn (isSpan_v _ _ _ _) rfl rfl SubRC.sub) (fun h55 => ?_) (fun h55 => ?_)
           all_goals
            refine q_mv rfl rfl rfl rfl rfl ?_
            first | refine o_gn rfl rfl rfl rfl ?_ | refine o_g _ rfl rfl rfl rfl (v_fieldAddr rfl Tryz.underlying278 inf3 rfl rfl rfl rfl) ?_
            first | refine o_gn rfl rfl rfl rfl ?_ | refine o_g _ rfl rfl rfl rfl (v_ld1 rfl Tryz.underlying3 rfl rfl rfl) ?_
            first | refine o_gn rfl rfl rfl rfl ?_ | refine o_gtest rfl rfl rfl rfl (OpQ.fn (within_v _ _ _) rfl rfl SubRC.sub) (fun h59 => ?_) (fun h59 => ?_)
            all_goals
             first | refine o_q _ rfl rfl rfl (v_pick_t rfl rfl rfl) ?_ | refine o_q _ rfl rfl rfl (v_pick_f rfl rfl rfl) ?_
             first | refine o_q _ rfl rfl rfl (OpQ.fn (ask_t _) rfl rfl SubRC.sub) ?_ | refine o_fnx (ask_f _) rfl rfl rfl SubRC.sub ?_
             repeat (first | with_reducible refine r_then_panic ?_ | with_reducible refine r_in_panic ?_); try (refine r_panx ?_; (obtain ⟨g1, g2, g3, g4, g5, g6⟩ := g; first | omega | exact absurd rfl (by assumption) | exact norain (by assumption) g4 | (have g9 := g5 k1 (by omega); omega) | (have g9 := g6 k2 (by omega); omega)))
             all_goals
              refine o_nil ?_; refine r_in_normal ?_; refine r_then ?_; refine r_region ?_; refine o_q _ rfl rfl rfl (v_add rfl rfl rfl (by omega)) ?_; refine q_mv rfl rfl rfl rfl rfl ?_; refine o_nil (r_then ?_); refine r_next (k2 + 1) ?_ ?_ ?_
              ·
               exact r_here (by repeat (first | exact FSub.nil | refine FSub.cons rfl ?_)) SelMC.sel SubRC.sub
              ·
               exact ⟨by omega, Foot4.all_step hI1.2 ⟨by assumption, by assumption⟩⟩
              ·
               omega
          ·
           refine r_exit ?_; refine r_then_exit ?_; refine r_then_exit ?_; refine r_in_here ?_; refine r_then (r_seq (r_region ?_)); refine o_test rfl rfl rfl (OpQ.asTest (v_move rfl rfl)) (fun h63 => ?_) (fun h63 => ?_)
           all_goals
            first | refine o_q _ rfl rfl rfl (OpQ.fn (ask_t _) rfl rfl SubRC.sub) ?_ | refine o_fnx (ask_f _) rfl rfl rfl SubRC.sub ?_
            repeat (first | with_reducible refine r_then_panic ?_); try (refine r_panx ?_; (obtain ⟨g1, g2, g3, g4, g5, g6⟩ := g; first | omega | exact absurd rfl (by assumption) | exact norain (by assumption) g4 | (have g9 := g5 k1 (by omega); omega) | (have g9 := g6 k2 (by omega); omega)))
            all_goals
             refine o_nil (r_then (r_seq (r_region ?_))); refine o_q _ rfl rfl rfl (v_ldW rfl Tryz.underlying206 rfl inf206 rfl rfl) ?_; refine o_q _ rfl rfl rfl (v_bS rfl Tryz.underlying309 inf309 plt309 rfl rfl rfl (by repeat (first | exact trivial | refine ⟨rfl, ?_⟩)) (by rfl)) ?_; refine o_boxA rfl rfl rfl rfl rfl (fun b67 => ?_); refine q_as rfl rfl rfl rfl rfl ?_; refine o_nil (r_then ?_); refine r_ret ?_; refine Imp.sealB b67 ?_; exact r_retr (Rd.tmp rfl rfl) (isP_pt b67) SelMC.sel (fun _ h => h)
set_option maxHeartbeats 4000000 in
theorem open_x (F : Work) (ro ho : Option Addr) (rc hc : Nat) (v : Bool) (hr : F.rain.length ≤ 40) (hh : F.heaps.length ≤ 40) (hx : chk F v ≠ 0) : FnX Tryz.prog 156 [valF F ro rc ho hc, .bool v] [rowD ro 2 encS F.rain, rowD ho 3 encH F.heaps] (.iface 306 (i64 (chk F v))) := by
 refine FnX.intro Tryz.call156 Tryz.func156 rfl Tryz.ntmps156 rfl ?_; intro W M Rf; refine r_seq (r_region ?_); refine o_boxA rfl rfl rfl rfl rfl (fun b2 => ?_); refine q_as rfl rfl rfl rfl rfl ?_; refine o_nil (r_then (r_seq (r_region ?_))); refine o_q _ rfl rfl rfl (v_fieldAddr rfl Tryz.underlying206 inf59 rfl rfl rfl rfl) ?_; refine o_q _ rfl rfl rfl (v_ld1 rfl Tryz.underlying59 rfl rfl rfl) ?_; refine o_q _ rfl rfl rfl (v_len rfl rfl Tryz.underlying59 rfl) ?_; refine o_test rfl rfl rfl (OpQ.fn (within_v _ _ _) rfl rfl SubRC.sub) (fun h11 => ?_) (fun h11 => ?_)
 all_goals
  refine q_mv rfl rfl rfl rfl rfl ?_
  first | refine o_gn rfl rfl rfl rfl ?_ | refine o_g _ rfl rfl rfl rfl (v_fieldAddr rfl Tryz.underlying206 inf3 rfl rfl rfl rfl) ?_
  first | refine o_gn rfl rfl rfl rfl ?_ | refine o_g _ rfl rfl rfl rfl (v_ld1 rfl Tryz.underlying3 rfl rfl rfl) ?_
  first | refine o_gn rfl rfl rfl rfl ?_ | refine o_gtest rfl rfl rfl rfl (OpQ.fn (within_v _ _ _) rfl rfl SubRC.sub) (fun h15 => ?_) (fun h15 => ?_)
  all_goals
   first | refine o_q _ rfl rfl rfl (v_pick_t rfl rfl rfl) ?_ | refine o_q _ rfl rfl rfl (v_pick_f rfl rfl rfl) ?_
   refine q_mv rfl rfl rfl rfl rfl ?_
   first | refine o_gn rfl rfl rfl rfl ?_ | refine o_g _ rfl rfl rfl rfl (v_fieldAddr rfl Tryz.underlying206 inf204 rfl rfl rfl rfl) ?_
   first | refine o_gn rfl rfl rfl rfl ?_ | refine o_g _ rfl rfl rfl rfl (v_ld1 rfl Tryz.underlying204 rfl rfl rfl) ?_
   first | refine o_gn rfl rfl rfl rfl ?_ | refine o_g _ rfl rfl rfl rfl (v_len rfl rfl Tryz.underlying204 rfl) ?_
   first | refine o_gn rfl rfl rfl rfl ?_ | refine o_gtest rfl rfl rfl rfl (v_leq rfl rfl rfl) (fun h21 => ?_) (fun h21 => ?_)
   all_goals
    first | refine o_q _ rfl rfl rfl (v_pick_t rfl rfl rfl) ?_ | refine o_q _ rfl rfl rfl (v_pick_f rfl rfl rfl) ?_
    first | refine o_q _ rfl rfl rfl (OpQ.fn (ask_t _) rfl rfl SubRC.sub) ?_ | refine o_fnx (ask_f _) rfl rfl rfl SubRC.sub ?_
    repeat (first | with_reducible refine r_then_panic ?_); try (first | exact r_retx2 (chk_2 (by assumption) ⟨by omega, by omega, by omega, goodrain (by assumption), fun j hj => hI0.2 j (by omega), fun j hj => hI1.2 j (by omega)⟩).symm SelMC.sel SubRC.sub | exact r_retx2 (chk_1 (fun g => by obtain ⟨g1, g2, g3, g4, g5, g6⟩ := g; first | omega | exact absurd rfl (by assumption) | exact norain (by assumption) g4 | (have g9 := g5 k1 (by omega); omega) | (have g9 := g6 k2 (by omega); omega))).symm SelMC.sel SubRC.sub)
    all_goals
     refine o_nil (r_then (r_seq (r_region ?_))); refine o_q _ rfl rfl rfl (v_fieldAddr rfl Tryz.underlying206 inf59 rfl rfl rfl rfl) ?_; refine o_q _ rfl rfl rfl (v_ld1 rfl Tryz.underlying59 rfl rfl rfl) ?_; refine o_test rfl rfl rfl (OpQ.fn (spans_c (fun s => ¬ SpanOk s 10) F.rain ro rc 179 [] [] (by omega) (fun k _ => open1_v _)) rfl rfl SubRC.sub) (fun h26 => ?_) (fun h26 => ?_)
     all_goals
      refine o_q _ rfl rfl rfl (v_not rfl rfl) ?_
      first | refine o_q _ rfl rfl rfl (OpQ.fn (ask_t _) rfl rfl SubRC.sub) ?_ | refine o_fnx (ask_f _) rfl rfl rfl SubRC.sub ?_
      repeat (first | with_reducible refine r_then_panic ?_); try (first | exact r_retx2 (chk_2 (by assumption) ⟨by omega, by omega, by omega, goodrain (by assumption), fun j hj => hI0.2 j (by omega), fun j hj => hI1.2 j (by omega)⟩).symm SelMC.sel SubRC.sub | exact r_retx2 (chk_1 (fun g => by obtain ⟨g1, g2, g3, g4, g5, g6⟩ := g; first | omega | exact absurd rfl (by assumption) | exact norain (by assumption) g4 | (have g9 := g5 k1 (by omega); omega) | (have g9 := g6 k2 (by omega); omega))).symm SelMC.sel SubRC.sub)
      all_goals
       refine o_nil (r_then (r_seq ?_)); refine r_seq (r_region ?_); refine q_mv rfl rfl rfl rfl rfl ?_; refine o_nil (r_then ?_); refine r_block ?_; refine r_loop (ι := Nat) (fun k1 => k1 ≤ 3 ∧ ∀ j, j < k1 → (0 ≤ F.lim.at j ∧ F.lim.at j ≤ 60) ∧ (0 ≤ F.dr.at j ∧ F.dr.at j ≤ 10)) (fun k1 => [(1, .bool v), (2, pt b2 0), (29, i64 k1)]) (fun k1 => bx b2 206 (cellsF F ro rc ho hc) :: M) (fun k1 => [rowD ro 2 encS F.rain, rowD ho 3 encH F.heaps] ++ Rf) (fun k1 => 3 - k1) 0 ?_ ?_ ?_
       ·
        exact r_here (by repeat (first | exact FSub.nil | refine FSub.cons rfl ?_)) SelMC.sel SubRC.sub
       ·
        exact ⟨by omega, fun j hj => absurd hj (by omega)⟩
       ·
        rintro k1 hI0; refine r_seq (r_region ?_); refine o_q _ rfl rfl rfl (v_lss rfl rfl rfl) ?_; refine o_nil (r_then (r_seq ?_)); refine r_condd rfl (fun hc30 => ?_) (fun hc30 => ?_)
        ·
         refine r_skip (r_then ?_); refine r_seq (r_block ?_); refine r_seq (r_region ?_); refine q_mv rfl rfl rfl rfl rfl ?_; refine q_as rfl rfl rfl rfl rfl ?_; refine o_nil (r_then ?_); refine r_region ?_; refine q_mv rfl rfl rfl rfl rfl ?_; refine o_q _ rfl rfl rfl (v_fieldAddr rfl Tryz.underlying206 inf203 rfl rfl rfl rfl) ?_; refine o_q _ rfl rfl rfl (v_indexAddrAn rfl Tryz.underlying203 inf3 rfl rfl (by omega)) ?_; refine o_q _ rfl rfl rfl (v_ld1 rfl Tryz.underlying3 rfl rfl (F_limn (by omega))) ?_; refine o_test rfl rfl rfl (OpQ.fn (within_v _ _ _) rfl rfl SubRC.sub) (fun h36 => ?_) (fun h36 => ?_)
         all_goals
          refine q_mv rfl rfl rfl rfl rfl ?_
          first | refine o_gn rfl rfl rfl rfl ?_ | refine o_g _ rfl rfl rfl rfl (v_move rfl rfl) ?_
          first | refine o_gn rfl rfl rfl rfl ?_ | refine o_g _ rfl rfl rfl rfl (v_fieldAddr rfl Tryz.underlying206 inf203 rfl rfl rfl rfl) ?_
          first | refine o_gn rfl rfl rfl rfl ?_ | refine o_g _ rfl rfl rfl rfl (v_indexAddrAn rfl Tryz.underlying203 inf3 rfl rfl (by omega)) ?_
          first | refine o_gn rfl rfl rfl rfl ?_ | refine o_g _ rfl rfl rfl rfl (v_ld1 rfl Tryz.underlying3 rfl rfl (F_drn (by omega))) ?_
          first | refine o_gn rfl rfl rfl rfl ?_ | refine o_gtest rfl rfl rfl rfl (OpQ.fn (within_v _ _ _) rfl rfl SubRC.sub) (fun h42 => ?_) (fun h42 => ?_)
          all_goals
           first | refine o_q _ rfl rfl rfl (v_pick_t rfl rfl rfl) ?_ | refine o_q _ rfl rfl rfl (v_pick_f rfl rfl rfl) ?_
           first | refine o_q _ rfl rfl rfl (OpQ.fn (ask_t _) rfl rfl SubRC.sub) ?_ | refine o_fnx (ask_f _) rfl rfl rfl SubRC.sub ?_
           repeat (first | with_reducible refine r_then_panic ?_ | with_reducible refine r_in_panic ?_); try (first | exact r_retx2 (chk_2 (by assumption) ⟨by omega, by omega, by omega, goodrain (by assumption), fun j hj => hI0.2 j (by omega), fun j hj => hI1.2 j (by omega)⟩).symm SelMC.sel SubRC.sub | exact r_retx2 (chk_1 (fun g => by obtain ⟨g1, g2, g3, g4, g5, g6⟩ := g; first | omega | exact absurd rfl (by assumption) | exact norain (by assumption) g4 | (have g9 := g5 k1 (by omega); omega) | (have g9 := g6 k2 (by omega); omega))).symm SelMC.sel SubRC.sub)
           all_goals
            refine o_nil ?_; refine r_in_normal ?_; refine r_then ?_; refine r_region ?_; refine o_q _ rfl rfl rfl (v_add rfl rfl rfl (by omega)) ?_; refine q_mv rfl rfl rfl rfl rfl ?_; refine o_nil (r_then ?_); refine r_next (k1 + 1) ?_ ?_ ?_
            ·
             exact r_here (by repeat (first | exact FSub.nil | refine FSub.cons rfl ?_)) SelMC.sel SubRC.sub
            ·
             exact ⟨by omega, Foot4.all_step hI0.2 ⟨by assumption, by assumption⟩⟩
            ·
             omega
        ·
         refine r_exit ?_; refine r_then_exit ?_; refine r_then_exit ?_; refine r_in_here ?_; refine r_then (r_seq ?_); refine r_seq (r_region ?_); refine o_q _ rfl rfl rfl (v_fieldAddr rfl Tryz.underlying206 inf204 rfl rfl rfl rfl) ?_; refine o_q _ rfl rfl rfl (v_ld1 rfl Tryz.underlying204 rfl rfl rfl) ?_; refine o_q _ rfl rfl rfl (v_len rfl rfl Tryz.underlying204 rfl) ?_; refine q_mv rfl rfl rfl rfl rfl ?_; refine o_nil (r_then ?_); refine r_block ?_; refine r_loop (ι := Nat) (fun k2 => k2 ≤ F.heaps.length ∧ ∀ j, j < k2 → (0 ≤ (F.heaps.getD j default).lo ∧ (F.heaps.getD j default).lo ≤ (F.heaps.getD j default).hi ∧ (F.heaps.getD j default).hi ≤ 60) ∧ (0 ≤ (F.heaps.getD j default).sods ∧ (F.heaps.getD j default).sods ≤ 500)) (fun k2 => [(1, .bool v), (2, pt b2 0), (47, .slice ho F.heaps.length hc), (48, i64 F.heaps.length), (49, i64 k2)]) (fun k2 => bx b2 206 (cellsF F ro rc ho hc) :: M) (fun k2 => [rowD ro 2 encS F.rain, rowD ho 3 encH F.heaps] ++ Rf) (fun k2 => F.heaps.length - k2) 0 ?_ ?_ ?_
         ·
          exact r_here (by repeat (first | exact FSub.nil | refine FSub.cons rfl ?_)) SelMC.sel SubRC.sub
         ·
          exact ⟨by omega, fun j hj => absurd hj (by omega)⟩
         ·
          rintro k2 hI1; refine r_seq (r_region ?_); refine o_q _ rfl rfl rfl (v_lss rfl rfl rfl) ?_; refine o_nil (r_then (r_seq ?_)); refine r_condd rfl (fun hc50 => ?_) (fun hc50 => ?_)
          ·
           refine r_skip (r_then ?_); refine r_seq (r_block ?_); refine r_seq (r_region ?_); refine o_q _ rfl rfl rfl (v_indexAddrSn rfl Tryz.underlying204 inf278 rfl rfl rfl (by omega) rfl) ?_; refine o_q _ rfl rfl rfl (v_loadEN rfl Tryz.underlying278 rfl inf278 rfl (by omega) rfl rfl rfl) ?_; refine o_alloc rfl inf278 rfl rfl rfl rfl rfl (fun b7 => ?_); refine o_st rfl inf278 rfl rfl rfl rfl rfl rfl rfl rfl ?_; refine o_nil (r_then ?_); refine r_region ?_; refine o_q _ rfl rfl rfl (v_fieldAddr rfl Tryz.underlying278 inf43 rfl rfl rfl rfl) ?_; refine o_q _ rfl rfl rfl (v_ldN rfl Tryz.underlying43 rfl inf43 rfl rfl rfl) ?_; refine o_test rfl rfl rfl (OpQ.fn (isSpan_v _ _ _ _) rfl rfl SubRC.sub) (fun h55 => ?_) (fun h55 => ?_)
           all_goals
            refine q_mv rfl rfl rfl rfl rfl ?_
            first | refine o_gn rfl rfl rfl rfl ?_ | refine o_g _ rfl rfl rfl rfl (v_fieldAddr rfl Tryz.underlying278 inf3 rfl rfl rfl rfl) ?_
            first | refine o_gn rfl rfl rfl rfl ?_ | refine o_g _ rfl rfl rfl rfl (v_ld1 rfl Tryz.underlying3 rfl rfl rfl) ?_
            first | refine o_gn rfl rfl rfl rfl ?_ | refine o_gtest rfl rfl rfl rfl (OpQ.fn (within_v _ _ _) rfl rfl SubRC.sub) (fun h59 => ?_) (fun h59 => ?_)
            all_goals
             first | refine o_q _ rfl rfl rfl (v_pick_t rfl rfl rfl) ?_ | refine o_q _ rfl rfl rfl (v_pick_f rfl rfl rfl) ?_
             first | refine o_q _ rfl rfl rfl (OpQ.fn (ask_t _) rfl rfl SubRC.sub) ?_ | refine o_fnx (ask_f _) rfl rfl rfl SubRC.sub ?_
             repeat (first | with_reducible refine r_then_panic ?_ | with_reducible refine r_in_panic ?_); try (first | exact r_retx2 (chk_2 (by assumption) ⟨by omega, by omega, by omega, goodrain (by assumption), fun j hj => hI0.2 j (by omega), fun j hj => hI1.2 j (by omega)⟩).symm SelMC.sel SubRC.sub | exact r_retx2 (chk_1 (fun g => by obtain ⟨g1, g2, g3, g4, g5, g6⟩ := g; first | omega | exact absurd rfl (by assumption) | exact norain (by assumption) g4 | (have g9 := g5 k1 (by omega); omega) | (have g9 := g6 k2 (by omega); omega))).symm SelMC.sel SubRC.sub)
             all_goals
              refine o_nil ?_; refine r_in_normal ?_; refine r_then ?_; refine r_region ?_; refine o_q _ rfl rfl rfl (v_add rfl rfl rfl (by omega)) ?_; refine q_mv rfl rfl rfl rfl rfl ?_; refine o_nil (r_then ?_); refine r_next (k2 + 1) ?_ ?_ ?_
              ·
               exact r_here (by repeat (first | exact FSub.nil | refine FSub.cons rfl ?_)) SelMC.sel SubRC.sub
              ·
               exact ⟨by omega, Foot4.all_step hI1.2 ⟨by assumption, by assumption⟩⟩
              ·
               omega
          ·
           refine r_exit ?_; refine r_then_exit ?_; refine r_then_exit ?_; refine r_in_here ?_; refine r_then (r_seq (r_region ?_)); refine o_test rfl rfl rfl (OpQ.asTest (v_move rfl rfl)) (fun h63 => ?_) (fun h63 => ?_)
           all_goals
            first | refine o_q _ rfl rfl rfl (OpQ.fn (ask_t _) rfl rfl SubRC.sub) ?_ | refine o_fnx (ask_f _) rfl rfl rfl SubRC.sub ?_
            repeat (first | with_reducible refine r_then_panic ?_); try (first | exact r_retx2 (chk_2 (by assumption) ⟨by omega, by omega, by omega, goodrain (by assumption), fun j hj => hI0.2 j (by omega), fun j hj => hI1.2 j (by omega)⟩).symm SelMC.sel SubRC.sub | exact r_retx2 (chk_1 (fun g => by obtain ⟨g1, g2, g3, g4, g5, g6⟩ := g; first | omega | exact absurd rfl (by assumption) | exact norain (by assumption) g4 | (have g9 := g5 k1 (by omega); omega) | (have g9 := g6 k2 (by omega); omega))).symm SelMC.sel SubRC.sub)
            all_goals
             refine o_nil (r_then (r_seq (r_region ?_))); refine o_q _ rfl rfl rfl (v_ldW rfl Tryz.underlying206 rfl inf206 rfl rfl) ?_; refine o_q _ rfl rfl rfl (v_bS rfl Tryz.underlying309 inf309 plt309 rfl rfl rfl (by repeat (first | exact trivial | refine ⟨rfl, ?_⟩)) (by rfl)) ?_; refine o_boxA rfl rfl rfl rfl rfl (fun b67 => ?_); refine q_as rfl rfl rfl rfl rfl ?_; refine o_nil (r_then ?_); refine r_ret ?_
             exfalso
             apply hx
             exact chk_0 (by assumption) ⟨by omega, by omega, by omega, goodrain (by assumption), fun j hj => hI0.2 j (by omega), fun j hj => hI1.2 j (by omega)⟩
end Go.Proofs.YtpndeonmmcaikaaGreat.FootW

namespace Go.Proofs.YtpndeonmmcaikaaGreat.FootW
open Go.G Foot4
set_option maxRecDepth 1000000
attribute [local irreducible] G.ParO G.Fin
theorem canF_iff {sel : Int → Int → Int} {F : Work} {heap : Nat} {p : T3} {k : Nat} (h : ¬ p.at k < 0) : wetF sel F heap p (p.at k).toNat ≤ F.lim.at k ↔ canF sel F heap p k := ⟨Or.inr, fun x => x.resolve_left h⟩
theorem keptF_not {sel : Int → Int → Int} {F : Work} {heap : Nat} {p : T3} {k : Nat} (h : ¬ canF sel F heap p k) (hk : k < 3) : ¬ keptF sel F heap p := by
  rintro ⟨x, y, z⟩
  obtain rfl | rfl | rfl : k = 0 ∨ k = 1 ∨ k = 2 := by omega
  · exact h x
  · exact h y
  · exact h z
set_option maxHeartbeats 4000000 in
theorem wet_v (t : Tr Tryz.prog "bogworks/foot.of") (F : Work) (ro ho : Option Addr) (rc hc : Nat) (fb : Nat) (heap : Int) (a b c : Int) (y : Int) (h0 : 0 ≤ heap) (h1 : heap < F.heaps.length) (hb : Bnd F) (hy : 0 ≤ y ∧ y ≤ (F.rain.length : Int)) : FnV Tryz.prog 205 [pt fb 0, i64 heap, .agg #[i64 a, i64 b, i64 c], i64 y, t.i] [boxF fb 309 (cellsF F ro rc ho hc), rowD ro 2 encS F.rain, rowD ho 3 encH F.heaps] (i64 (wetF t.sel F heap.toNat ⟨a, b, c⟩ y.toNat)) := by
 have hlen := hb.len; refine FnV.intro Tryz.call205 Tryz.func205 rfl Tryz.ntmps205 rfl ?_; intro W M Rf; refine r_seq (r_region ?_); refine o_boxA rfl rfl rfl rfl rfl (fun b7 => ?_); refine q_as rfl rfl rfl rfl rfl ?_; refine o_nil (r_then (r_seq ?_)); refine r_region_q mixed (by kernel_rfl) ?_; refine q_q _ rfl rfl rfl (v_move rfl rfl) ?_; refine q_q _ rfl rfl rfl (v_move rfl rfl) ?_; refine q_q _ rfl rfl rfl (v_nilCheck rfl rfl) ?_; refine q_q _ rfl rfl rfl (v_fieldAddr rfl Tryz.underlying309 inf206 rfl rfl rfl rfl) ?_; refine q_q _ rfl rfl rfl (v_fieldAddr rfl Tryz.underlying206 inf204 rfl rfl rfl rfl) ?_; refine q_q _ rfl rfl rfl (v_lf1 rfl Tryz.underlying204 rfl rfl rfl) ?_; refine q_q _ rfl rfl rfl (v_move rfl rfl) ?_; refine q_q _ rfl rfl rfl (v_indexAddrS rfl Tryz.underlying204 inf278 rfl rfl rfl (by omega) (by omega) rfl) ?_; refine q_q _ rfl rfl rfl (v_fieldAddr rfl Tryz.underlying278 inf43 rfl rfl rfl rfl) ?_; refine q_q _ rfl rfl rfl (v_loadEN rfl Tryz.underlying43 rfl inf43 rfl (by omega) rfl rfl rfl) ?_; refine q_q _ rfl rfl rfl (v_makeFunc rfl rfl rfl) ?_; refine q_q _ rfl rfl rfl (v_nilCheckM (t.hm) rfl rfl) ?_; refine q_q _ rfl rfl rfl (v_move rfl rfl) ?_; refine q_q _ rfl rfl rfl (OpQ.invoke (t.hv _ _ (by have := hb.heap heap.toNat; omega) (by have := hb.heap heap.toNat; omega) (by have := hb.heap heap.toNat; omega) (by have := hb.heap heap.toNat; omega)) t.hm rfl rfl rfl rfl SubRC.sub) ?_; refine q_q _ rfl rfl rfl (v_assign rfl rfl) ?_; refine q_q _ rfl rfl rfl (v_assign rfl rfl) ?_; refine q_nil ?_; refine r_then (r_seq (r_region ?_)); refine q_as rfl rfl rfl rfl rfl ?_; refine o_nil (r_then (r_seq ?_)); refine r_seq (r_region ?_); refine q_mv rfl rfl rfl rfl rfl ?_; refine q_mv rfl rfl rfl rfl rfl ?_; refine o_nil (r_then ?_); refine r_block ?_; refine r_loop (ι := Nat) (fun d => d ≤ y.toNat ∧ (wetS t.sel F heap.toNat ⟨a, b, c⟩ d).2 ≠ 3) (fun d => [(0, pt fb 0), (4, t.i), (7, pt b7 0), (13, .func (.func 207) #[] #[]), (29, i64 y), (11, i64 (wetF t.sel F heap.toNat ⟨a, b, c⟩ d)), (12, i64 (wetS t.sel F heap.toNat ⟨a, b, c⟩ d).2), (30, i64 d)]) (fun d => bx b7 273 [i64 a, i64 b, i64 c] :: M) (fun d => [boxF fb 309 (cellsF F ro rc ho hc), rowD ro 2 encS F.rain, rowD ho 3 encH F.heaps] ++ Rf) (fun d => y.toNat - d) 0 ?_ ?_ ?_
 ·
  exact r_here (by repeat (first | exact FSub.nil | refine FSub.cons rfl ?_)) SelMC.sel SubRC.sub
 ·
  exact ⟨Nat.zero_le _, by simp [wetS]⟩
 ·
  rintro d hI0; refine r_seq (r_region ?_); refine o_q _ rfl rfl rfl (v_lss rfl rfl rfl) ?_; refine o_nil (r_then (r_seq ?_)); refine r_condd rfl (fun hc31 => ?_) (fun hc31 => ?_)
  ·
   refine r_skip (r_then ?_); refine r_seq (r_block ?_); refine r_seq (r_region ?_); refine q_mv rfl rfl rfl rfl rfl ?_; refine q_as rfl rfl rfl rfl rfl ?_; refine o_nil (r_then ?_); refine r_seq (r_block ?_); refine r_loop (ι := Nat) (fun j => j ≤ 3 ∧ adv ⟨a, b, c⟩ d (wetS t.sel F heap.toNat ⟨a, b, c⟩ d).2 = adv ⟨a, b, c⟩ d j) (fun j => [(0, pt fb 0), (4, t.i), (7, pt b7 0), (13, .func (.func 207) #[] #[]), (29, i64 y), (11, i64 (wetF t.sel F heap.toNat ⟨a, b, c⟩ d)), (12, i64 j), (30, i64 d), (14, i64 d)]) (fun j => bx b7 273 [i64 a, i64 b, i64 c] :: M) (fun j => [boxF fb 309 (cellsF F ro rc ho hc), rowD ro 2 encS F.rain, rowD ho 3 encH F.heaps] ++ Rf) (fun j => 3 - j) (wetS t.sel F heap.toNat ⟨a, b, c⟩ d).2 ?_ ?_ ?_
   ·
    exact r_here (by repeat (first | exact FSub.nil | refine FSub.cons rfl ?_)) SelMC.sel SubRC.sub
   ·
    exact ⟨wetS_le _ _ _ _ _, rfl⟩
   ·
    rintro j hI1; refine r_seq ?_; refine r_seq (r_region ?_); refine q_mv rfl rfl rfl rfl rfl ?_; refine o_test rfl rfl rfl (v_lss rfl rfl rfl) (fun h34 => ?_) (fun h34 => ?_)
    all_goals
     refine q_mv rfl rfl rfl rfl rfl ?_
     first | refine o_gn rfl rfl rfl rfl ?_ | refine o_g _ rfl rfl rfl rfl (v_move rfl rfl) ?_
     first | refine o_gn rfl rfl rfl rfl ?_ | refine o_g _ rfl rfl rfl rfl (v_indexAddrAn rfl Tryz.underlying273 inf3 rfl rfl (by omega)) ?_
     first | refine o_gn rfl rfl rfl rfl ?_ | refine o_g _ rfl rfl rfl rfl (v_ld1 rfl Tryz.underlying3 rfl rfl (t3_atn (by omega))) ?_
     first | refine o_gn rfl rfl rfl rfl ?_ | refine o_gtest rfl rfl rfl rfl (v_geq rfl rfl rfl) (fun h39 => ?_) (fun h39 => ?_)
     all_goals
      first | refine o_q _ rfl rfl rfl (v_pick_t rfl rfl rfl) ?_ | refine o_q _ rfl rfl rfl (v_pick_f rfl rfl rfl) ?_
      refine q_mv rfl rfl rfl rfl rfl ?_
      first | refine o_gn rfl rfl rfl rfl ?_ | refine o_g _ rfl rfl rfl rfl (v_move rfl rfl) ?_
      first | refine o_gn rfl rfl rfl rfl ?_ | refine o_g _ rfl rfl rfl rfl (v_indexAddrAn rfl Tryz.underlying273 inf3 rfl rfl (by omega)) ?_
      first | refine o_gn rfl rfl rfl rfl ?_ | refine o_g _ rfl rfl rfl rfl (v_ld1 rfl Tryz.underlying3 rfl rfl (t3_atn (by omega))) ?_
      first | refine o_gn rfl rfl rfl rfl ?_ | refine o_g _ rfl rfl rfl rfl (v_move rfl rfl) ?_
      first | refine o_gn rfl rfl rfl rfl ?_ | refine o_gtest rfl rfl rfl rfl (v_leq rfl rfl rfl) (fun h46 => ?_) (fun h46 => ?_)
      all_goals
       first | refine o_q _ rfl rfl rfl (v_pick_t rfl rfl rfl) ?_ | refine o_q _ rfl rfl rfl (v_pick_f rfl rfl rfl) ?_
       refine o_nil (r_then ?_); refine r_cond rfl (fun hc47 => ?_) (fun hc47 => ?_)
       ·
        first
        | (exfalso; revert hc47; decide)
        |
         skip
         refine r_skip (r_then ?_); refine r_block ?_; refine r_region ?_; refine q_mv rfl rfl rfl rfl rfl ?_; refine o_q _ rfl rfl rfl (v_add rfl rfl rfl (by omega)) ?_; refine q_as rfl rfl rfl rfl rfl ?_; refine o_nil ?_; refine r_in_normal ?_; refine r_then ?_; refine r_next (j + 1) ?_ ?_ ?_
         ·
          exact r_here (by repeat (first | exact FSub.nil | refine FSub.cons rfl ?_)) SelMC.sel SubRC.sub
         ·
          exact ⟨by omega, hI1.2.trans (adv_go (by omega))⟩
         ·
          omega
       ·
        first
        | (exfalso; revert hc47; decide)
        |
         skip
         refine r_exit ?_; refine r_then_exit ?_; refine r_then_exit ?_; refine r_in_here ?_; refine r_then (r_seq ?_); refine r_seq ?_; have hk : adv ⟨a, b, c⟩ d (wetS t.sel F heap.toNat ⟨a, b, c⟩ d).2 = j := hI1.2.trans (adv_stop (by omega)); refine r_region ?_; refine q_mv rfl rfl rfl rfl rfl ?_; refine o_q _ rfl rfl rfl (v_eql rfl rfl rfl) ?_; refine o_nil (r_then ?_); refine r_condd rfl (fun hc51 => ?_) (fun hc51 => ?_)
         ·
          first
          | (exfalso; omega)
          |
           skip
           refine r_seq (r_region ?_); refine q_mv rfl rfl rfl rfl rfl ?_; refine q_as rfl rfl rfl rfl rfl ?_; refine o_nil (r_then ?_); refine r_ret ?_; (with_reducible refine r_then_ret ?_; refine r_in_ret ?_; refine r_then_ret ?_; refine r_then_ret ?_; refine r_in_ret ?_; refine r_then_ret ?_); exact r_retv2 (Rd.tmp rfl rfl) (congrArg (Value.int .i64) (wetS_end (hk.trans (by omega)) _ (by omega)).symm) SelMC.sel SubRC.sub
         ·
          first
          | (exfalso; omega)
          |
           skip
           refine r_skip (r_then ?_); refine r_region_q mixed (by kernel_rfl) ?_; (iterate 4 refine q_q _ rfl rfl rfl (v_move rfl rfl) ?_); refine q_q _ rfl rfl rfl (v_nilCheck rfl rfl) ?_; refine q_q _ rfl rfl rfl (v_fieldAddr rfl Tryz.underlying309 inf206 rfl rfl rfl rfl) ?_; refine q_q _ rfl rfl rfl (v_fieldAddr rfl Tryz.underlying206 inf59 rfl rfl rfl rfl) ?_; refine q_q _ rfl rfl rfl (v_lf1 rfl Tryz.underlying59 rfl rfl rfl) ?_; refine q_q _ rfl rfl rfl (v_move rfl rfl) ?_; refine q_q _ rfl rfl rfl (v_indexAddrSn rfl Tryz.underlying59 inf43 rfl rfl rfl (by omega) rfl) ?_; refine q_q _ rfl rfl rfl (v_loadEN rfl Tryz.underlying43 rfl inf43 rfl (by omega) rfl rfl rfl) ?_; refine q_q _ rfl rfl rfl (v_makeFunc rfl rfl rfl) ?_; refine q_q _ rfl rfl rfl (v_nilCheckM (t.hm) rfl rfl) ?_; refine q_q _ rfl rfl rfl (v_move rfl rfl) ?_; refine q_q _ rfl rfl rfl (OpQ.invoke (t.hv _ _ (by have := hb.rain d; omega) (by have := hb.rain d; omega) (by have := hb.rain d; omega) (by have := hb.rain d; omega)) t.hm rfl rfl rfl rfl SubRC.sub) ?_; refine q_q _ rfl rfl rfl (v_move rfl rfl) ?_; refine q_q _ rfl rfl rfl (v_move rfl rfl) ?_; refine q_q _ rfl rfl rfl (v_nilCheck rfl rfl) ?_; refine q_q _ rfl rfl rfl (v_fieldAddr rfl Tryz.underlying309 inf206 rfl rfl rfl rfl) ?_; refine q_q _ rfl rfl rfl (v_fieldAddr rfl Tryz.underlying206 inf203 rfl rfl rfl rfl) ?_; refine q_q _ rfl rfl rfl (v_indexAddrAn rfl Tryz.underlying203 inf3 rfl rfl (by omega)) ?_; refine q_q _ rfl rfl rfl (v_lf1 rfl Tryz.underlying3 rfl rfl (F_drn (by omega))) ?_; refine q_q _ rfl rfl rfl (OpQ.call (after_v _ _ _ (by have := wetS_bd t hb heap.toNat ⟨a, b, c⟩ d; have := hb.rain d; have := hb.dr j; have := hb.len; rcases t.hs (F.rain.getD d default).lo (F.rain.getD d default).hi with e | e <;> rw [e] <;> omega)) rfl [] [] rfl rfl rfl SubRC.sub) ?_; refine q_q _ rfl rfl rfl (v_assign rfl rfl) ?_; refine q_nil ?_; refine r_in_normal ?_; refine r_then ?_; refine r_region ?_; refine o_q _ rfl rfl rfl (v_add rfl rfl rfl (by omega)) ?_; refine q_mv rfl rfl rfl rfl rfl ?_; refine o_nil (r_then ?_); refine r_next (d + 1) ?_ ?_ ?_
           ·
            exact r_here (by repeat (first | exact FSub.nil | refine FSub.cons rfl ?_ | refine FSub.cons2 rfl (congrArg (Value.int .i64) (by first | omega | (unfold wetF; rw [wetS_next hk (by omega)]; rfl) | (rw [wetS_next hk (by omega)]))) ?_)) SelMC.sel SubRC.sub
           ·
            exact ⟨by omega, by rw [wetS_next hk (by omega)]; show j ≠ 3; omega⟩
           ·
            omega
  ·
   refine r_exit ?_; refine r_then_exit ?_; refine r_then_exit ?_; refine r_in_here ?_; refine r_then (r_seq (r_region ?_)); refine q_mv rfl rfl rfl rfl rfl ?_; refine q_as rfl rfl rfl rfl rfl ?_; refine o_nil (r_then ?_); refine r_ret ?_; exact r_retv2 (Rd.tmp rfl rfl) (congrArg (fun z => Value.int .i64 (wetF t.sel F heap.toNat ⟨a, b, c⟩ z)) (by omega : d = y.toNat)) SelMC.sel SubRC.sub
set_option maxHeartbeats 4000000 in
theorem can_v (t : Tr Tryz.prog "bogworks/foot.of") (F : Work) (ro ho : Option Addr) (rc hc : Nat) (fb : Nat) (heap : Int) (a b c : Int) (k : Nat) (hk : k < 3) (h0 : 0 ≤ heap) (h1 : heap < F.heaps.length) (hb : Bnd F) (hd : (⟨a, b, c⟩ : T3).at k ≤ (F.rain.length : Int) - 1) : FnV Tryz.prog 204 [pt fb 0, i64 heap, .agg #[i64 a, i64 b, i64 c], i64 k, t.i] [boxF fb 309 (cellsF F ro rc ho hc), rowD ro 2 encS F.rain, rowD ho 3 encH F.heaps] (.bool (decide (canF t.sel F heap.toNat ⟨a, b, c⟩ k))) := by
 refine FnV.intro Tryz.call204 Tryz.func204 rfl Tryz.ntmps204 rfl ?_; intro W M Rf; refine r_seq (r_region ?_); refine o_boxA rfl rfl rfl rfl rfl (fun b7 => ?_); refine q_as rfl rfl rfl rfl rfl ?_; refine o_nil (r_then (r_seq ?_)); refine r_seq (r_region ?_); refine q_mv rfl rfl rfl rfl rfl ?_; refine o_q _ rfl rfl rfl (v_indexAddrAn rfl Tryz.underlying273 inf3 rfl rfl (by omega)) ?_; refine o_q _ rfl rfl rfl (v_ld1 rfl Tryz.underlying3 rfl rfl (t3_atn (by omega))) ?_; refine o_q _ rfl rfl rfl (v_lss rfl rfl rfl) ?_; refine o_nil (r_then ?_); refine r_condd rfl (fun hc15 => ?_) (fun hc15 => ?_)
 ·
  refine r_seq (r_region ?_); refine q_as rfl rfl rfl rfl rfl ?_; refine o_nil (r_then ?_); refine r_ret ?_; (with_reducible refine r_then_ret ?_); exact r_retv2 (Rd.tmp rfl rfl) (congrArg Value.bool (decide_eq_true (Or.inl (by assumption))).symm) SelMC.sel SubRC.sub
 ·
  refine r_skip (r_then ?_); refine r_seq ?_; refine r_region_q mixed (by kernel_rfl) ?_; refine q_q _ rfl rfl rfl (v_move rfl rfl) ?_; refine q_q _ rfl rfl rfl (v_move rfl rfl) ?_; refine q_q _ rfl rfl rfl (v_ldW rfl Tryz.underlying273 rfl inf273 rfl rfl) ?_; refine q_q _ rfl rfl rfl (v_move rfl rfl) ?_; refine q_q _ rfl rfl rfl (v_indexAddrAn rfl Tryz.underlying273 inf3 rfl rfl (by omega)) ?_; refine q_q _ rfl rfl rfl (v_ld1 rfl Tryz.underlying3 rfl rfl (t3_atn (by omega))) ?_; refine q_q _ rfl rfl rfl (v_move rfl rfl) ?_; refine q_q _ rfl rfl rfl (OpQ.fn (wet_v t F ro ho rc hc fb _ _ _ _ _ h0 h1 hb (by omega)) rfl rfl SubRC.sub) ?_; refine q_q _ rfl rfl rfl (v_makeFunc rfl rfl rfl) ?_; refine q_q _ rfl rfl rfl (v_assign rfl rfl) ?_; refine q_nil ?_; refine r_then (r_seq (r_region ?_)); (iterate 3 refine q_mv rfl rfl rfl rfl rfl ?_); refine o_q _ rfl rfl rfl (v_nilCheck rfl rfl) ?_; refine o_q _ rfl rfl rfl (v_fieldAddr rfl Tryz.underlying309 inf206 rfl rfl rfl rfl) ?_; refine o_q _ rfl rfl rfl (v_fieldAddr rfl Tryz.underlying206 inf203 rfl rfl rfl rfl) ?_; refine o_q _ rfl rfl rfl (v_indexAddrAn rfl Tryz.underlying203 inf3 rfl rfl (by omega)) ?_; refine o_q _ rfl rfl rfl (v_lf1 rfl Tryz.underlying3 rfl rfl (F_limn (by omega))) ?_; refine o_q _ rfl rfl rfl (OpQ.call (fits_v _ _) rfl [i64 (wetF t.sel F heap.toNat ⟨a, b, c⟩ ((⟨a, b, c⟩ : T3).at k).toNat)] [] rfl rfl rfl SubRC.sub) ?_; refine q_as rfl rfl rfl rfl rfl ?_; refine o_nil (r_then ?_); refine r_ret ?_; exact r_retv2 (Rd.tmp rfl rfl) (congrArg Value.bool (decide_eq_decide.2 (canF_iff (by assumption)))) SelMC.sel SubRC.sub
set_option maxHeartbeats 4000000 in
theorem kept_fv (t : Tr Tryz.prog "bogworks/foot.of") (F : Work) (ro ho : Option Addr) (rc hc : Nat) (fb : Nat) (heap : Int) (a b c : Int) (h0 : 0 ≤ heap) (h1 : heap < F.heaps.length) (hb : Bnd F) (hd : ∀ k, k < 3 → (⟨a, b, c⟩ : T3).at k ≤ (F.rain.length : Int) - 1) : FnV Tryz.prog 200 [pt fb 0, i64 heap, .agg #[i64 a, i64 b, i64 c], t.i] [boxF fb 309 (cellsF F ro rc ho hc), rowD ro 2 encS F.rain, rowD ho 3 encH F.heaps] (.bool (decide (keptF t.sel F heap.toNat ⟨a, b, c⟩))) := by
 refine FnV.intro Tryz.call200 Tryz.func200 rfl Tryz.ntmps200 rfl ?_; intro W M Rf; refine r_seq (r_region ?_); refine o_boxA rfl rfl rfl rfl rfl (fun b6 => ?_); refine q_as rfl rfl rfl rfl rfl ?_; refine o_nil (r_then (r_seq ?_)); refine r_seq (r_region ?_); refine q_mv rfl rfl rfl rfl rfl ?_; refine o_nil (r_then ?_); refine r_block ?_; refine r_loop (ι := Nat) (fun k => k ≤ 3 ∧ ∀ j, j < k → canF t.sel F heap.toNat ⟨a, b, c⟩ j) (fun k => [(0, pt fb 0), (1, i64 heap), (3, t.i), (6, pt b6 0), (10, i64 k)]) (fun k => bx b6 273 [i64 a, i64 b, i64 c] :: M) (fun k => [boxF fb 309 (cellsF F ro rc ho hc), rowD ro 2 encS F.rain, rowD ho 3 encH F.heaps] ++ Rf) (fun k => 3 - k) 0 ?_ ?_ ?_
 ·
  exact r_here (by repeat (first | exact FSub.nil | refine FSub.cons rfl ?_)) SelMC.sel SubRC.sub
 ·
  exact ⟨by omega, fun j hj => absurd hj (by omega)⟩
 ·
  rintro k hI0; refine r_seq (r_region ?_); refine o_q _ rfl rfl rfl (v_lss rfl rfl rfl) ?_; refine o_nil (r_then (r_seq ?_)); refine r_condd rfl (fun hc11 => ?_) (fun hc11 => ?_)
  ·
   refine r_skip (r_then ?_); refine r_seq (r_block ?_); refine r_seq (r_region ?_); refine q_mv rfl rfl rfl rfl rfl ?_; refine q_as rfl rfl rfl rfl rfl ?_; refine o_nil (r_then (r_seq (r_region ?_))); refine q_mv rfl rfl rfl rfl rfl ?_; refine q_mv rfl rfl rfl rfl rfl ?_; refine o_q _ rfl rfl rfl (v_ldW rfl Tryz.underlying273 rfl inf273 rfl rfl) ?_; refine q_mv rfl rfl rfl rfl rfl ?_; refine q_mv rfl rfl rfl rfl rfl ?_; refine o_test rfl rfl rfl (OpQ.fn (can_v t F ro ho rc hc fb _ _ _ _ k (by omega) h0 h1 hb (hd k (by omega))) rfl rfl SubRC.sub) (fun h18 => ?_) (fun h18 => ?_)
   all_goals
    refine o_q _ rfl rfl rfl (v_not rfl rfl) ?_; refine o_nil (r_then ?_); refine r_cond rfl (fun hc19 => ?_) (fun hc19 => ?_)
    ·
     first
     | (exfalso; revert hc19; decide)
     |
      skip
      refine r_seq (r_region ?_); refine q_as rfl rfl rfl rfl rfl ?_; refine o_nil (r_then ?_); refine r_ret ?_; (with_reducible refine r_in_ret ?_; refine r_then_ret ?_; refine r_then_ret ?_; refine r_in_ret ?_; refine r_then_ret ?_); exact r_retv2 (Rd.tmp rfl rfl) (congrArg Value.bool (decide_eq_false (fun h => keptF_not (by assumption) (by omega) h)).symm) SelMC.sel SubRC.sub
    ·
     first
     | (exfalso; revert hc19; decide)
     |
      skip
      refine r_skip ?_; refine r_in_normal ?_; refine r_then ?_; refine r_region ?_; refine o_q _ rfl rfl rfl (v_add rfl rfl rfl (by omega)) ?_; refine q_mv rfl rfl rfl rfl rfl ?_; refine o_nil (r_then ?_); refine r_next (k + 1) ?_ ?_ ?_
      ·
       exact r_here (by repeat (first | exact FSub.nil | refine FSub.cons rfl ?_)) SelMC.sel SubRC.sub
      ·
       exact ⟨by omega, Foot4.all_step hI0.2 (by assumption)⟩
      ·
       omega
  ·
   refine r_exit ?_; refine r_then_exit ?_; refine r_then_exit ?_; refine r_in_here ?_; refine r_then (r_seq (r_region ?_)); refine q_as rfl rfl rfl rfl rfl ?_; refine o_nil (r_then ?_); refine r_ret ?_; exact r_retv2 (Rd.tmp rfl rfl) (congrArg Value.bool (decide_eq_true ⟨hI0.2 0 (by omega), hI0.2 1 (by omega), hI0.2 2 (by omega)⟩).symm) SelMC.sel SubRC.sub
end Go.Proofs.YtpndeonmmcaikaaGreat.FootW

namespace Go.Proofs.YtpndeonmmcaikaaGreat.FootW
open Go.G Foot4
set_option maxRecDepth 1000000
attribute [local irreducible] G.ParO G.Fin
set_option maxHeartbeats 4000000 in
theorem whole_fr (F : Work) (ro ho : Option Addr) (rc hc : Nat) (fb : Nat) : FnR Tryz.prog 199 [pt fb 0] [boxF fb 309 (cellsF F ro rc ho hc), rowD ro 2 encS F.rain, rowD ho 3 encH F.heaps] (fun v => v = .func (.func 203) #[] #[pt (capB v) 0]) (fun v => [boxF (capB v) 3 [i64 F.rain.length]]) := by
 refine FnR.intro Tryz.call199 Tryz.func199 rfl Tryz.ntmps199 rfl ?_; intro W M Rf; refine r_seq (r_region ?_); refine q_as rfl rfl rfl rfl rfl ?_; refine o_nil (r_then (r_seq (r_region ?_))); refine q_mv rfl rfl rfl rfl rfl ?_; refine o_q _ rfl rfl rfl (v_nilCheck rfl rfl) ?_; refine o_q _ rfl rfl rfl (v_fieldAddr rfl Tryz.underlying309 inf206 rfl rfl rfl rfl) ?_; refine o_q _ rfl rfl rfl (v_fieldAddr rfl Tryz.underlying206 inf59 rfl rfl rfl rfl) ?_; refine o_q _ rfl rfl rfl (v_lf1 rfl Tryz.underlying59 rfl rfl rfl) ?_; refine o_q _ rfl rfl rfl (v_len rfl rfl Tryz.underlying59 rfl) ?_; refine o_alloc rfl inf3 rfl rfl rfl rfl rfl (fun b3 => ?_); refine o_st rfl inf3 rfl rfl rfl rfl rfl rfl rfl rfl ?_; refine o_nil (r_then (r_seq (r_region ?_))); refine o_q _ rfl rfl rfl (v_makeFunc rfl rfl rfl) ?_; refine q_as rfl rfl rfl rfl rfl ?_; refine o_nil (r_then ?_); refine r_ret ?_; refine Imp.sealB b3 ?_; exact r_retr (Rd.tmp rfl rfl) rfl SelMC.sel (fun _ h => h)
set_option maxHeartbeats 4000000 in
theorem whole1_s (n cb : Nat) (hn : n ≤ 8) : IsSeq Tryz.prog 203 [pt cb 0] [boxF cb 3 [i64 n]] encP (whole n) := by
 refine IsSeq.intro Tryz.call203 Tryz.func203 rfl Tryz.ntmps203 rfl ?_; intro l J Jx W Rf hY; refine r_scope ?_; refine r_seq ?_; refine r_label ?_; refine r_then (r_seq (r_region ?_)); refine o_q _ rfl rfl rfl (v_lf1 rfl Tryz.underlying3 rfl rfl rfl) ?_; refine q_mv rfl rfl rfl rfl rfl ?_; refine o_nil (r_then ?_); refine r_block ?_; refine r_loop (ι := Nat) (fun k1 => k1 ≤ n) (fun k1 => [(0, .func (.yield l) #[] #[]), (1, pt cb 0), (6, i64 n), (7, i64 k1)]) (fun k1 => [J (wholeA n k1).length]) (fun k1 => [boxF cb 3 [i64 n]] ++ Rf) (fun k1 => n - k1) 0 ?_ ?_ ?_
 ·
  show Imp _ _ _ _ [J (wholeA n 0).length] _ _; exact r_here (by repeat (first | exact FSub.nil | refine FSub.cons rfl ?_)) SelMC.sel SubRC.sub
 ·
  omega
 ·
  rintro k1 hI0; refine r_seq (r_region ?_); refine o_q _ rfl rfl rfl (v_lss rfl rfl rfl) ?_; refine o_nil (r_then (r_seq ?_)); refine r_condd rfl (fun hc8 => ?_) (fun hc8 => ?_)
  ·
   refine r_skip (r_then ?_); refine r_seq (r_block ?_); refine r_seq (r_region ?_); refine q_mv rfl rfl rfl rfl rfl ?_; refine q_as rfl rfl rfl rfl rfl ?_; refine o_nil (r_then (r_seq (r_region ?_))); refine q_mv rfl rfl rfl rfl rfl ?_; refine o_q _ rfl rfl rfl (v_add rfl rfl rfl (by omega)) ?_; refine q_as rfl rfl rfl rfl rfl ?_; refine o_nil (r_then ?_); refine r_block ?_; refine r_loop (ι := Nat) (fun k2 => k1 < k2 ∧ k2 ≤ max n (k1 + 1)) (fun k2 => [(0, .func (.yield l) #[] #[]), (1, pt cb 0), (6, i64 n), (7, i64 k1), (3, i64 k1), (4, i64 k2)]) (fun k2 => [J (wholeB n k1 k2).length]) (fun k2 => [boxF cb 3 [i64 n]] ++ Rf) (fun k2 => n - k2) (k1 + 1) ?_ ?_ ?_
   ·
    rw [wholeB_0]; exact r_here (by repeat (first | exact FSub.nil | refine FSub.cons rfl ?_)) SelMC.sel SubRC.sub
   ·
    omega
   ·
    rintro k2 hI1; refine r_seq ?_; refine r_seq (r_region ?_); refine q_mv rfl rfl rfl rfl rfl ?_; refine o_q _ rfl rfl rfl (v_lf1 rfl Tryz.underlying3 rfl rfl rfl) ?_; refine o_q _ rfl rfl rfl (v_lss rfl rfl rfl) ?_; refine o_nil (r_then ?_); refine r_condd rfl (fun hc14 => ?_) (fun hc14 => ?_)
    ·
     refine r_skip (r_then ?_); refine r_seq (r_block ?_); refine r_seq (r_region ?_); refine q_mv rfl rfl rfl rfl rfl ?_; refine o_q _ rfl rfl rfl (v_add rfl rfl rfl (by omega)) ?_; refine q_as rfl rfl rfl rfl rfl ?_; refine o_nil (r_then ?_); refine r_block ?_; refine r_loop (ι := Nat) (fun k3 => k2 < k3 ∧ k3 ≤ max n (k2 + 1)) (fun k3 => [(0, .func (.yield l) #[] #[]), (1, pt cb 0), (6, i64 n), (7, i64 k1), (3, i64 k1), (4, i64 k2), (5, i64 k3)]) (fun k3 => [J (wholeC n k1 k2 k3).length]) (fun k3 => [boxF cb 3 [i64 n]] ++ Rf) (fun k3 => n - k3) (k2 + 1) ?_ ?_ ?_
     ·
      rw [wholeC_0]; exact r_here (by repeat (first | exact FSub.nil | refine FSub.cons rfl ?_)) SelMC.sel SubRC.sub
     ·
      omega
     ·
      rintro k3 hI2; refine r_seq ?_; refine r_seq (r_region ?_); refine q_mv rfl rfl rfl rfl rfl ?_; refine o_q _ rfl rfl rfl (v_lf1 rfl Tryz.underlying3 rfl rfl rfl) ?_; refine o_q _ rfl rfl rfl (v_lss rfl rfl rfl) ?_; refine o_nil (r_then ?_); refine r_condd rfl (fun hc21 => ?_) (fun hc21 => ?_)
      ·
       refine r_skip (r_then ?_); refine r_seq (r_block ?_); refine r_seq ?_; have hat := whole_at (n := n) (a := k1) (b := k2) (c := k3) (by omega) (by omega) (by omega); have hlt := whole_lt (n := n) (a := k1) (b := k2) (c := k3) (by omega) (by omega) (by omega); refine r_region_in ?_; refine oi_lift wideF rfl (fun _ _ h => by obtain ⟨⟨v, hv⟩, _⟩ := h; cases hv) ?_; refine q_mv rfl rfl rfl rfl rfl ?_; refine o_nil (r_then ?_); refine oi_lift wideF rfl (fun _ _ h => by obtain ⟨⟨v, hv⟩, _⟩ := h; cases hv) ?_; refine q_mv rfl rfl rfl rfl rfl ?_; refine o_nil (r_then ?_); refine oi_lift wideF rfl (fun _ _ h => by obtain ⟨⟨v, hv⟩, _⟩ := h; cases hv) ?_; refine q_mv rfl rfl rfl rfl rfl ?_; refine o_nil (r_then ?_); refine oi_lift wideF rfl (fun _ _ h => by obtain ⟨⟨v, hv⟩, _⟩ := h; cases hv) ?_; refine q_mv rfl rfl rfl rfl rfl ?_; refine o_nil (r_then ?_); refine oi_lift wideF rfl (fun _ _ h => by obtain ⟨⟨v, hv⟩, _⟩ := h; cases hv) ?_; refine o_q _ rfl rfl rfl (v_bA rfl Tryz.underlying273 inf273 inf3 rfl rfl rfl (by repeat (first | exact trivial | refine ⟨rfl, ?_⟩)) (by rfl)) ?_; refine o_nil (r_then ?_); refine oi_yields (Ri := [boxF cb 3 [i64 n]]) hY hat rfl rfl rfl rfl rfl rfl rfl ?_ ?_
       all_goals
        refine oi_lift wideF rfl (fun _ _ h => by obtain ⟨⟨v, hv⟩, _⟩ := h; cases hv) ?_; refine o_q _ rfl rfl rfl (v_not rfl rfl) ?_; refine o_nil (r_then ?_); refine oi_nil ?_; refine r_then ?_; refine r_cond rfl (fun hc30 => ?_) (fun hc30 => ?_)
        ·
         first
         | (exfalso; revert hc30; decide)
         |
          skip
          refine r_exit ?_
          (with_reducible (refine r_in_past (by decide) ?_); refine r_then_exit ?_; refine r_then_exit ?_; (refine r_in_past (by decide) ?_); (refine r_in_past (by decide) ?_); refine r_then_exit ?_; refine r_then_exit ?_; (refine r_in_past (by decide) ?_); (refine r_in_past (by decide) ?_); refine r_then_exit ?_; refine r_then_exit ?_; refine r_in_here ?_; refine r_sc_normal ?_)
          exact r_retseqx (Rd.none rfl) ⟨hlt, by omega⟩ SelMC.sel SubRC.sub
        ·
         first
         | (exfalso; revert hc30; decide)
         |
          skip
          refine r_skip ?_; refine r_in_normal ?_; refine r_then ?_; refine r_region ?_; refine q_mv rfl rfl rfl rfl rfl ?_; refine o_q _ rfl rfl rfl (v_add rfl rfl rfl (by omega)) ?_; refine q_as rfl rfl rfl rfl rfl ?_; refine o_nil (r_then ?_); refine r_next (k3 + 1) ?_ ?_ ?_
          ·
           rw [wholeC_len1 (by omega)]; exact r_here (by repeat (first | exact FSub.nil | refine FSub.cons rfl ?_)) SelMC.sel SubRC.sub
          ·
           omega
          ·
           omega
      ·
       refine r_exit ?_; refine r_then_exit ?_; refine r_then_exit ?_; refine r_in_here ?_; refine r_in_normal ?_; refine r_then ?_; refine r_region ?_; refine q_mv rfl rfl rfl rfl rfl ?_; refine o_q _ rfl rfl rfl (v_add rfl rfl rfl (by omega)) ?_; refine q_as rfl rfl rfl rfl rfl ?_; refine o_nil (r_then ?_); refine r_next (k2 + 1) ?_ ?_ ?_
       ·
        have hk3 : k3 = max n (k2 + 1) := by omega
        subst hk3; rw [wholeB_step (by omega)]; exact r_here (by repeat (first | exact FSub.nil | refine FSub.cons rfl ?_)) SelMC.sel SubRC.sub
       ·
        omega
       ·
        omega
    ·
     refine r_exit ?_; refine r_then_exit ?_; refine r_then_exit ?_; refine r_in_here ?_; refine r_in_normal ?_; refine r_then ?_; refine r_region ?_; refine o_q _ rfl rfl rfl (v_add rfl rfl rfl (by omega)) ?_; refine q_mv rfl rfl rfl rfl rfl ?_; refine o_nil (r_then ?_); refine r_next (k1 + 1) ?_ ?_ ?_
     ·
      have hk2 : k2 = max n (k1 + 1) := by omega
      subst hk2; rw [wholeA_step]; exact r_here (by repeat (first | exact FSub.nil | refine FSub.cons rfl ?_)) SelMC.sel SubRC.sub
     ·
      omega
     ·
      omega
  ·
   refine r_exit ?_; refine r_then_exit ?_; refine r_then_exit ?_; refine r_in_here ?_; refine r_sc_normal ?_; exact r_retseq2 (wholeA n k1).length (by rw [show k1 = n from by omega]; rfl) (Rd.none rfl) SelMC.sel SubRC.sub
set_option maxHeartbeats 4000000 in
theorem sure_fr (t : Tr Tryz.prog "bogworks/foot.of") (F : Work) (ro ho : Option Addr) (rc hc : Nat) (fb : Nat) (heap : Int) (h0 : 0 ≤ heap) (h1 : heap < F.heaps.length) (hb : Bnd F) : FnR Tryz.prog 181 [pt fb 0, i64 heap, t.i] [boxF fb 309 (cellsF F ro rc ho hc), rowD ro 2 encS F.rain, rowD ho 3 encH F.heaps] (isSl (sureF t.sel F heap.toNat).length) (fun v => [rowD (adr v) 3 encT (sureF t.sel F heap.toNat)]) := by
 refine FnR.introM Tryz.call181 Tryz.func181 rfl Tryz.ntmps181 rfl ?_; intro W M Rf; refine r_seq (r_region ?_); refine o_box1 rfl rfl rfl rfl rfl rfl (fun b3 => ?_); refine o_box1 rfl rfl rfl rfl rfl rfl (fun b4 => ?_); refine o_box1 rfl rfl rfl rfl rfl rfl (fun b5 => ?_); refine o_alloc rfl inf200 rfl rfl rfl rfl rfl (fun b6 => ?_); refine o_nil (r_then (r_seq ?_)); refine r_seq ?_; refine Imp.sealB b3 ?_; refine Imp.sealB b4 ?_; refine Imp.sealB b5 ?_; refine Imp.nilL 273 3 encT ?_; refine r_region ?_; refine o_q _ rfl rfl rfl (v_lf1 rfl Tryz.underlying265 rfl rfl rfl) ?_; refine o_fn (whole_fr F ro ho rc hc fb) rfl rfl rfl rfl rfl SubRC.sub (fun v9 hv9 => ?_)
 (obtain ⟨cb, hcb⟩ : ∃ cb, capB v9 = cb := ⟨_, rfl⟩); rw [hcb] at hv9 ⊢; clear hcb; subst hv9
 all_goals
  refine o_nil (r_then ?_); refine r_block ?_; refine r_range (whole1_s F.rain.length cb hb.len) rfl SubRC.sub (fun _ => rfl) rfl (fun i => exR fun v => [bx b6 200 [v], ownL v 273 3 encT (sureT t.sel F heap.toNat (i))]) (fun _ _ => noR) (M0 := M) (M1 := bx b6 200 (Value.slice none 0 0).cells.toList :: ownL (.slice none 0 0) 273 3 encT ([] : List T3) :: M) SelMC.sel (fun w h => St.pk (.slice none 0 0) h) ?_ ?_ ?_
  ·
   intro l i x hx Mi Ri rdy bsy hbg; refine Imp.unpk2 (fun v => ?_); refine Imp.own_is v (fun hs => ?_); obtain ⟨oav, cpv, rfl⟩ := hs; refine ri_region ?_; refine oi_lift wideR rfl (fun _ _ h => h) ?_; refine o_alloc rfl inf273 rfl rfl rfl rfl rfl (fun b7 => ?_); refine o_nil (r_then ?_); refine oi_lift wideR rfl (fun _ _ h => h) ?_; refine o_st rfl inf273 rfl rfl rfl rfl rfl rfl rfl rfl ?_; refine o_nil (r_then ?_); refine oi_nil ?_; refine r_then ?_; refine r_begin hbg ?_; refine ri_block ?_; refine ri_seq ?_; have hle := sureT_le (sel := t.sel) (F := F) (heap := heap.toNat) (i := i) hb.len; refine ri_region ?_; refine oi_lift wideR rfl (fun _ _ h => h) ?_; refine o_q _ rfl rfl rfl (v_lf1 rfl Tryz.underlying265 rfl rfl rfl) ?_; refine o_nil (r_then ?_); refine oi_lift wideR rfl (fun _ _ h => h) ?_; refine o_q _ rfl rfl rfl (v_lf1 rfl Tryz.underlying3 rfl rfl rfl) ?_; refine o_nil (r_then ?_); refine oi_lift wideR rfl (fun _ _ h => h) ?_; refine o_q _ rfl rfl rfl (v_ldW rfl Tryz.underlying273 rfl inf273 rfl rfl) ?_; refine o_nil (r_then ?_); refine oi_lift wideR rfl (fun _ _ h => h) ?_; refine o_q _ rfl rfl rfl (v_lf1 rfl Tryz.underlying337 rfl rfl rfl) ?_; refine o_nil (r_then ?_); refine oi_lift wideR rfl (fun _ _ h => h) ?_; refine o_q _ rfl rfl rfl (OpQ.fn (kept_fv t F ro ho rc hc fb _ _ _ _ h0 h1 hb (fun k hk => (whole_days (List.mem_of_getElem? hx) k hk).2)) rfl rfl SubRC.sub) ?_; refine o_nil (r_then ?_); refine oi_nil ?_; refine r_then ?_; refine ri_condd rfl (fun hc15 => ?_) (fun hc15 => ?_)
   ·
    refine ri_region ?_; refine oi_lift wideR rfl (fun _ _ h => h) ?_; refine o_q _ rfl rfl rfl (v_ld1 rfl Tryz.underlying200 rfl rfl rfl) ?_; refine o_nil (r_then ?_); refine oi_lift wideR rfl (fun _ _ h => h) ?_; refine o_q _ rfl rfl rfl (v_ldW rfl Tryz.underlying273 rfl inf273 rfl rfl) ?_; refine o_nil (r_then ?_); refine oi_lift wideR rfl (fun _ _ h => h) ?_; refine o_lit rfl Tryz.underlying200 inf273 rfl rfl rfl rfl rfl rfl rfl rfl (by repeat (first | exact trivial | refine ⟨rfl, ?_⟩)) (by rfl) (fun b18 => ?_); refine o_nil (r_then ?_); refine oi_lift wideR rfl (fun _ _ h => h) ?_; refine o_app1 (x) rfl Tryz.underlying200 inf273 rfl (by rfl) (by rfl) rfl rfl rfl rfl rfl (by rfl) (by rfl) (by rfl) (by first | omega | (constructor <;> first | omega | decide)) (fun v19 => ?_); refine o_nil (r_then ?_); refine Imp.own_is v19 (fun hs => ?_); obtain ⟨oa19, cp19, rfl⟩ := hs; refine oi_lift wideR rfl (fun _ _ h => h) ?_; refine o_st rfl inf200 rfl rfl rfl rfl rfl rfl rfl rfl ?_; refine o_nil (r_then ?_); refine oi_nil ?_; (with_reducible refine r_in_normal ?_)
    (refine Imp.own_to (.slice oa19 (sureT t.sel F heap.toNat (i) ++ [x]).length cp19) (sureT t.sel F heap.toNat (i + 1)) (sureT_yes hx (by assumption)) ?_; refine Imp.box_to b6 [.slice oa19 (sureT t.sel F heap.toNat (i) ++ [x]).length cp19] rfl ?_; exact r_round2 (.slice oa19 (sureT t.sel F heap.toNat (i) ++ [x]).length cp19) SelMC.sel SubRC.sub)
   ·
    refine ri_skip ?_; (with_reducible refine r_in_normal ?_)
    (refine Imp.own_to (.slice oav (sureT t.sel F heap.toNat (i)).length cpv) (sureT t.sel F heap.toNat (i + 1)) (sureT_no hx (by assumption)) ?_; exact r_round2 (.slice oav (sureT t.sel F heap.toNat (i)).length cpv) SelMC.sel SubRC.sub)
  ·
   intro db; refine Imp.unpk2 (fun v => ?_); refine Imp.own_is v (fun hs => ?_); obtain ⟨oav, cpv, rfl⟩ := hs; refine r_in_normal ?_; refine r_then (r_seq (r_region ?_)); refine o_q _ rfl rfl rfl (v_ld1 rfl Tryz.underlying200 rfl rfl rfl) ?_; refine o_st rfl inf200 rfl rfl rfl rfl rfl rfl rfl rfl ?_; refine o_nil (r_then ?_); refine r_ret ?_; refine Imp.own_to (.slice oav (sureT t.sel F heap.toNat ((whole F.rain.length).length)).length cpv) (sureF t.sel F heap.toNat) sureT_all ?_; refine Imp.settleL (.slice oav (sureT t.sel F heap.toNat ((whole F.rain.length).length)).length cpv) encT_len (fun hsl => ?_); exact m_retr (Rd.one rfl (RdI.cell1 Tryz.underlying200 rfl rfl rfl)) hsl SelMC.sel SubRC.sub
  ·
   intro db i c _; exact Imp.noR
end Go.Proofs.YtpndeonmmcaikaaGreat.FootW

namespace Go.Proofs.YtpndeonmmcaikaaGreat.FootW
open Go.G Foot4
set_option maxRecDepth 1000000
attribute [local irreducible] G.ParO G.Fin
theorem hm90 : HasM Tryz.prog 314 "bogworks/foot.of" 233 := HasM.mk' inf314 (by kernel_rfl) Tryz.underlying314 rfl
abbrev wetT : Tr Tryz.prog "bogworks/foot.of" := ⟨314, .agg #[], 233, selW, hm90, fun lo hi h1 h2 h3 h4 => wet0_v lo hi ⟨h1, h2⟩ ⟨h3, h4⟩, fun _ _ => .inr rfl⟩
end Go.Proofs.YtpndeonmmcaikaaGreat.FootW

namespace Go.Proofs.YtpndeonmmcaikaaGreat.FootW
open Go.G Foot4
set_option maxRecDepth 1000000
attribute [local irreducible] G.ParO G.Fin
end Go.Proofs.YtpndeonmmcaikaaGreat.FootW

namespace Go.Proofs.YtpndeonmmcaikaaGreat.FootW
open Go.G Foot4
set_option maxRecDepth 1000000
attribute [local irreducible] G.ParO G.Fin
end Go.Proofs.YtpndeonmmcaikaaGreat.FootW

namespace Go.Proofs.YtpndeonmmcaikaaGreat.FootW
open Go.G Foot4
set_option maxRecDepth 1000000
attribute [local irreducible] G.ParO G.Fin
end Go.Proofs.YtpndeonmmcaikaaGreat.FootW

namespace Go.Proofs.YtpndeonmmcaikaaGreat.FootW
open Go.G Foot4
set_option maxRecDepth 1000000
attribute [local irreducible] G.ParO G.Fin
theorem t3_atv {a b c : Int} {k : Nat} (h1 : k < 3) : [i64 a, i64 b, i64 c][k * 1]? = some (i64 (T3.at ⟨a, b, c⟩ k)) := by
  obtain rfl | rfl | rfl : k = 0 ∨ k = 1 ∨ k = 2 := by omega
  all_goals rfl
theorem ble1 {xs : List Value} {m : Nat} (h : m < xs.length) : Nat.ble (0 + m * 1 + 1) xs.length = true := Nat.ble_eq_true_of_le (by omega)
set_option maxHeartbeats 4000000 in
theorem with_v (B : List Int) (a b c : Int) (hB : B.length = 8) (hs : Small B 1000) (hd : ∀ k, k < 3 → (⟨a, b, c⟩ : T3).at k ≤ 7) : FnV Tryz.prog 158 [.agg ((B).map iv).toArray, .agg #[i64 a, i64 b, i64 c]] [] (.agg ((with_ B ⟨a, b, c⟩).map iv).toArray) := by
 refine FnV.intro Tryz.call158 Tryz.func158 rfl Tryz.ntmps158 rfl ?_; intro W M Rf; refine r_seq (r_region ?_); refine o_boxA rfl rfl rfl rfl rfl (fun b2 => ?_); refine o_boxA rfl rfl rfl rfl rfl (fun b3 => ?_); refine o_alloc rfl inf270 rfl rfl rfl rfl rfl (fun b4 => ?_); refine o_nil (r_then (r_seq ?_)); refine r_seq (r_region ?_); refine o_q _ rfl rfl rfl (v_ldW rfl Tryz.underlying273 rfl inf273 rfl rfl) ?_; refine q_mv rfl rfl rfl rfl rfl ?_; refine o_nil (r_then ?_); refine r_block ?_; refine r_loop (ι := Nat) (fun k => k ≤ 3) (fun k => [(2, pt b2 0), (4, pt b4 0), (7, .agg #[i64 a, i64 b, i64 c]), (8, i64 k)]) (fun k => bx b2 270 ((withTo B ⟨a, b, c⟩ k).map iv) :: bx b4 270 [iv 0, iv 0, iv 0, iv 0, iv 0, iv 0, iv 0, iv 0] :: M) (fun k => [] ++ Rf) (fun k => 3 - k) 0 ?_ ?_ ?_
 ·
  refine Imp.box_to b4 [iv 0, iv 0, iv 0, iv 0, iv 0, iv 0, iv 0, iv 0] rfl ?_; refine Imp.box_to b2 ((withTo B ⟨a, b, c⟩ 0).map iv) rfl ?_; exact r_here (by repeat (first | exact FSub.nil | refine FSub.cons rfl ?_)) SelMC.sel SubRC.sub
 ·
  omega
 ·
  rintro k hI0; refine r_seq (r_region ?_); refine o_q _ rfl rfl rfl (v_lss rfl rfl rfl) ?_; refine o_nil (r_then (r_seq ?_)); refine r_condd rfl (fun hc9 => ?_) (fun hc9 => ?_)
  ·
   refine r_skip (r_then ?_); refine r_seq (r_block ?_); refine r_seq (r_region ?_); refine o_q _ rfl rfl rfl (v_indexV rfl Tryz.underlying273 inf3 Tryz.underlying3 rfl rfl rfl (by omega) (by first | rfl | exact t3_atv (by omega))) ?_; refine q_as rfl rfl rfl rfl rfl ?_; refine o_nil (r_then (r_seq (r_region ?_))); refine q_mv rfl rfl rfl rfl rfl ?_; refine o_q _ rfl rfl rfl (v_geq rfl rfl rfl) ?_; refine o_nil (r_then ?_); refine r_condd rfl (fun hc12 => ?_) (fun hc12 => ?_)
   ·
    refine r_region ?_; refine q_mv rfl rfl rfl rfl rfl ?_; refine o_q _ rfl rfl rfl (v_indexAddrA rfl Tryz.underlying270 inf3 rfl rfl ⟨by assumption, by have := hd k (by omega); omega⟩) ?_; refine o_q _ rfl rfl rfl (v_ld1 rfl Tryz.underlying3 rfl rfl (map_at (by rw [withTo_len, hB]; have := hd k (by omega); omega))) ?_; refine o_q _ rfl rfl rfl (v_add rfl rfl rfl (by have := withTo_small (by omega) hs ⟨a, b, c⟩ k ((⟨a, b, c⟩ : T3).at k).toNat; omega)) ?_; refine o_q _ rfl rfl rfl (v_indexAddrA rfl Tryz.underlying270 inf3 rfl rfl ⟨by assumption, by have := hd k (by omega); omega⟩) ?_; refine o_st (B := 270) (vs := ((withTo B ⟨a, b, c⟩ k).map iv)) rfl inf3 rfl rfl rfl rfl rfl rfl rfl (ble1 (by rw [List.length_map, withTo_len, hB]; have := hd k (by omega); omega)) ?_; refine o_nil ?_; refine r_in_normal ?_; refine r_then ?_; refine r_region ?_; refine o_q _ rfl rfl rfl (v_add rfl rfl rfl (by omega)) ?_; refine q_mv rfl rfl rfl rfl rfl ?_; refine o_nil (r_then ?_); refine r_next (k + 1) ?_ ?_ ?_
    ·
     (refine Imp.box_to b2 ((withTo B ⟨a, b, c⟩ (k + 1)).map iv) (withTo_yes (by assumption)) ?_; exact r_here (by repeat (first | exact FSub.nil | refine FSub.cons rfl ?_)) SelMC.sel SubRC.sub)
    ·
     omega
    ·
     omega
   ·
    refine r_skip ?_; refine r_in_normal ?_; refine r_then ?_; refine r_region ?_; refine o_q _ rfl rfl rfl (v_add rfl rfl rfl (by omega)) ?_; refine q_mv rfl rfl rfl rfl rfl ?_; refine o_nil (r_then ?_); refine r_next (k + 1) ?_ ?_ ?_
    ·
     (refine Imp.box_to b2 ((withTo B ⟨a, b, c⟩ (k + 1)).map iv) (withTo_no (by assumption)) ?_; exact r_here (by repeat (first | exact FSub.nil | refine FSub.cons rfl ?_)) SelMC.sel SubRC.sub)
    ·
     omega
    ·
     omega
  ·
   refine r_exit ?_; refine r_then_exit ?_; refine r_then_exit ?_; refine r_in_here ?_; refine r_then (r_seq ?_); have hk : k = 3 := by omega
   subst hk; refine r_region ?_; refine o_q _ rfl rfl rfl (v_ldW rfl Tryz.underlying270 rfl inf270 rfl (by rw [List.length_map, withTo_len, hB]; rfl)) ?_; refine o_st (us := ((withTo B ⟨a, b, c⟩ 3).map iv)) rfl inf270 rfl rfl rfl rfl rfl (by rw [List.length_map, withTo_len, hB]; rfl) (oneCells_map _) (by rw [List.length_map, withTo_len, hB]; rfl) ?_; refine o_nil (r_then ?_); refine r_ret ?_; refine Imp.box_to b4 ((withTo B ⟨a, b, c⟩ 3).map iv) (splice_all (by rw [List.length_map, withTo_len, hB]; rfl)) ?_; exact r_retv2 (Rd.one rfl (RdI.cellW Tryz.underlying270 rfl inf270 rfl (by rw [List.length_map, withTo_len, hB]; rfl))) rfl SelMC.sel SubRC.sub
end Go.Proofs.YtpndeonmmcaikaaGreat.FootW

namespace Go.Proofs.YtpndeonmmcaikaaGreat.FootW
open Go.G Foot4
set_option maxRecDepth 1000000
attribute [local irreducible] G.ParO G.Fin
end Go.Proofs.YtpndeonmmcaikaaGreat.FootW

namespace Go.Proofs.YtpndeonmmcaikaaGreat.FootW
open Go.G Foot4
set_option maxRecDepth 1000000
attribute [local irreducible] G.ParO G.Fin
set_option maxHeartbeats 4000000 in
theorem total_v (xs : List Int) (oa : Option Addr) (c : Nat) (hl : xs.length ≤ 100) (hb : ∀ k, -10000 ≤ xs.getD k 0 ∧ xs.getD k 0 ≤ 10000) : FnV Tryz.prog 185 [.slice oa xs.length c] [rowD oa 1 (fun x : Int => [i64 x]) xs] (i64 (sumTo xs xs.length)) := by
 refine FnV.intro Tryz.call185 Tryz.func185 rfl Tryz.ntmps185 rfl ?_; intro W M Rf; refine r_seq (r_region ?_); refine q_as rfl rfl rfl rfl rfl ?_; refine o_nil (r_then (r_seq ?_)); refine r_seq (r_region ?_); refine q_mv rfl rfl rfl rfl rfl ?_; refine o_q _ rfl rfl rfl (v_len rfl rfl Tryz.underlying39 rfl) ?_; refine q_mv rfl rfl rfl rfl rfl ?_; refine o_nil (r_then ?_); refine r_block ?_; refine r_loop (ι := Nat) (fun k => k ≤ xs.length) (fun k => [(2, i64 (sumTo xs k)), (5, .slice oa xs.length c), (6, i64 xs.length), (7, i64 k)]) (fun k => M) (fun k => [rowD oa 1 (fun x : Int => [i64 x]) xs] ++ Rf) (fun k => xs.length - k) 0 ?_ ?_ ?_
 ·
  exact r_here (by repeat (first | exact FSub.nil | refine FSub.cons rfl ?_)) SelMC.sel SubRC.sub
 ·
  omega
 ·
  rintro k hI0; have hbk := sumTo_bd hb k; have hbe := hb k; refine r_seq (r_region ?_); refine o_q _ rfl rfl rfl (v_lss rfl rfl rfl) ?_; refine o_nil (r_then (r_seq ?_)); refine r_condd rfl (fun hc8 => ?_) (fun hc8 => ?_)
  ·
   refine r_skip (r_then ?_); refine r_seq (r_block ?_); refine r_seq (r_region ?_); refine o_q _ rfl rfl rfl (v_indexAddrSn rfl Tryz.underlying39 inf3 rfl rfl rfl (by omega) rfl) ?_; refine o_q _ rfl rfl rfl (v_loadE1 rfl Tryz.underlying3 rfl rfl (by omega) rfl rfl) ?_; refine q_as rfl rfl rfl rfl rfl ?_; refine o_nil (r_then ?_); refine r_region ?_; refine q_mv rfl rfl rfl rfl rfl ?_; refine q_mv rfl rfl rfl rfl rfl ?_; refine o_q _ rfl rfl rfl (v_add rfl rfl rfl (by have e : (xs.getD k default) = xs.getD k 0 := rfl; omega)) ?_; refine q_as rfl rfl rfl rfl rfl ?_; refine o_nil ?_; refine r_in_normal ?_; refine r_then ?_; refine r_region ?_; refine o_q _ rfl rfl rfl (v_add rfl rfl rfl (by omega)) ?_; refine q_mv rfl rfl rfl rfl rfl ?_; refine o_nil (r_then ?_); refine r_next (k + 1) ?_ ?_ ?_
   ·
    exact r_here (by repeat (first | exact FSub.nil | refine FSub.cons rfl ?_ | refine FSub.cons2 rfl (congrArg (Value.int .i64) (by first | omega | rfl)) ?_)) SelMC.sel SubRC.sub
   ·
    omega
   ·
    omega
  ·
   refine r_exit ?_; refine r_then_exit ?_; refine r_then_exit ?_; refine r_in_here ?_; refine r_then (r_seq (r_region ?_)); refine q_mv rfl rfl rfl rfl rfl ?_; refine q_as rfl rfl rfl rfl rfl ?_; refine o_nil (r_then ?_); refine r_ret ?_; have hk : k = xs.length := by omega
   subst hk; exact r_retv2 (Rd.tmp rfl rfl) rfl SelMC.sel SubRC.sub
set_option maxHeartbeats 4000000 in
theorem busyAt_v (B : List Int) (hp men d : Int) (lb mb : Nat) (hB : B.length = 8) (hd : 0 ≤ d ∧ d ≤ 7) : FnV Tryz.prog 184 [i64 d, pt lb 0, pt mb 0] [boxF lb 272 (i64 hp :: B.map iv), boxF mb 3 [i64 men]] (.bool (decide (men ≤ B.getD d.toNat 0))) := by
 refine FnV.intro Tryz.call184 Tryz.func184 rfl Tryz.ntmps184 rfl ?_; intro W M Rf; refine r_seq (r_region ?_); refine q_as rfl rfl rfl rfl rfl ?_; refine o_nil (r_then (r_seq ?_)); refine r_region_q mixed (by kernel_rfl) ?_; refine q_q _ rfl rfl rfl (v_move rfl rfl) ?_; refine q_q _ rfl rfl rfl (v_fieldAddr rfl Tryz.underlying272 inf270 rfl rfl rfl rfl) ?_; refine q_q _ rfl rfl rfl (v_indexAddrA rfl Tryz.underlying270 inf3 rfl rfl (by omega)) ?_; refine q_q _ rfl rfl rfl (v_lf1 rfl Tryz.underlying3 rfl rfl (left_at (by omega))) ?_; refine q_q _ rfl rfl rfl (v_lf1 rfl Tryz.underlying3 rfl rfl rfl) ?_; refine q_q _ rfl rfl rfl (v_geq rfl rfl rfl) ?_; refine q_q _ rfl rfl rfl (v_assign rfl rfl) ?_; refine q_nil ?_; refine r_then ?_; refine r_ret ?_; exact r_retv2 (Rd.tmp rfl rfl) rfl SelMC.sel SubRC.sub
set_option maxHeartbeats 4000000 in
theorem more_v (a b c d e f p q : Int) : FnV Tryz.prog 187 [.agg #[i64 a, i64 b, i64 c, i64 d], .agg #[i64 e, i64 f, i64 p, i64 q]] [] (.bool (decide (e < a))) := by
 refine FnV.intro Tryz.call187 Tryz.func187 rfl Tryz.ntmps187 rfl ?_; intro W M Rf; refine r_seq (r_region ?_); refine o_boxA rfl rfl rfl rfl rfl (fun b2 => ?_); refine o_boxA rfl rfl rfl rfl rfl (fun b3 => ?_); refine q_as rfl rfl rfl rfl rfl ?_; refine o_nil (r_then (r_seq (r_region ?_))); refine o_q _ rfl rfl rfl (v_fieldAddr rfl Tryz.underlying275 inf3 rfl rfl rfl rfl) ?_; refine o_q _ rfl rfl rfl (v_ld1 rfl Tryz.underlying3 rfl rfl rfl) ?_; refine o_q _ rfl rfl rfl (v_fieldAddr rfl Tryz.underlying275 inf3 rfl rfl rfl rfl) ?_; refine o_q _ rfl rfl rfl (v_ld1 rfl Tryz.underlying3 rfl rfl rfl) ?_; refine o_q _ rfl rfl rfl (v_gtr rfl rfl rfl) ?_; refine q_as rfl rfl rfl rfl rfl ?_; refine o_nil (r_then ?_); refine r_ret ?_; exact r_retv2 (Rd.tmp rfl rfl) rfl SelMC.sel SubRC.sub
set_option maxHeartbeats 4000000 in
theorem chosenW_v (xs : List Foot4.Way) (oa : Option Addr) (c : Nat) (hl : xs.length ≤ 1001) : FnV Tryz.prog 186 [.slice oa xs.length c, .agg #[.func (.func 187) #[] #[]]] [rowD oa 4 encW xs] (.tuple #[.agg #[i64 (wayL xs).sods, i64 (wayL xs).plan.a, i64 (wayL xs).plan.b, i64 (wayL xs).plan.c], .bool (decide (0 < (xs.length : Int)))]) := by
 refine FnV.intro Tryz.call186 Tryz.func186 rfl Tryz.ntmps186 rfl ?_; intro W M Rf; refine r_seq (r_region ?_); refine o_boxA rfl rfl rfl rfl rfl (fun b3 => ?_); refine o_alloc rfl inf275 rfl rfl rfl rfl rfl (fun b4 => ?_); refine q_as rfl rfl rfl rfl rfl ?_; refine o_nil (r_then (r_seq ?_)); refine r_seq (r_region ?_); refine q_mv rfl rfl rfl rfl rfl ?_; refine o_q _ rfl rfl rfl (v_len rfl rfl Tryz.underlying317 rfl) ?_; refine q_mv rfl rfl rfl rfl rfl ?_; refine o_nil (r_then ?_); refine r_block ?_; refine r_loop (ι := Nat) (fun k => k ≤ xs.length) (fun k => [(0, .slice oa xs.length c), (3, pt b3 0), (4, pt b4 0), (8, .slice oa xs.length c), (9, i64 xs.length), (10, i64 k)]) (fun k => bx b4 275 (encW (best1 more default xs k)) :: bx b3 322 [.func (.func 187) #[] #[]] :: M) (fun k => [rowD oa 4 encW xs] ++ Rf) (fun k => xs.length - k) 0 ?_ ?_ ?_
 ·
  refine Imp.box_to b4 (encW (best1 more default xs 0)) rfl ?_; exact r_here (by repeat (first | exact FSub.nil | refine FSub.cons rfl ?_)) SelMC.sel SubRC.sub
 ·
  omega
 ·
  rintro k hI0; refine r_seq (r_region ?_); refine o_q _ rfl rfl rfl (v_lss rfl rfl rfl) ?_; refine o_nil (r_then (r_seq ?_)); refine r_condd rfl (fun hc11 => ?_) (fun hc11 => ?_)
  ·
   refine r_skip (r_then ?_); refine r_seq (r_block ?_); refine r_seq (r_region ?_); refine q_mv rfl rfl rfl rfl rfl ?_; refine o_q _ rfl rfl rfl (v_indexAddrSn rfl Tryz.underlying317 inf275 rfl rfl rfl (by omega) rfl) ?_; refine o_q _ rfl rfl rfl (v_loadEN rfl Tryz.underlying275 rfl inf275 rfl (by omega) rfl rfl rfl) ?_; refine o_alloc rfl inf275 rfl rfl rfl rfl rfl (fun b7 => ?_); refine q_as rfl rfl rfl rfl rfl ?_; refine o_st rfl inf275 rfl rfl rfl rfl rfl rfl rfl rfl ?_; refine o_nil (r_then (r_seq (r_region ?_))); refine q_mv rfl rfl rfl rfl rfl ?_; refine o_test rfl rfl rfl (v_eql rfl rfl rfl) (fun h16 => ?_) (fun h16 => ?_)
   all_goals
    refine q_mv rfl rfl rfl rfl rfl ?_
    first | refine o_gn rfl rfl rfl rfl ?_ | refine o_g _ rfl rfl rfl rfl (v_fieldAddr rfl Tryz.underlying322 inf320 rfl rfl rfl rfl) ?_
    first | refine o_gn rfl rfl rfl rfl ?_ | refine o_g _ rfl rfl rfl rfl (v_ld1 rfl Tryz.underlying320 rfl rfl rfl) ?_
    first | refine o_gn rfl rfl rfl rfl ?_ | refine o_g _ rfl rfl rfl rfl (v_ldW rfl Tryz.underlying275 rfl inf275 rfl rfl) ?_
    first | refine o_gn rfl rfl rfl rfl ?_ | refine o_g _ rfl rfl rfl rfl (v_ldW rfl Tryz.underlying275 rfl inf275 rfl rfl) ?_
    first | refine o_gn rfl rfl rfl rfl ?_ | refine o_gtest rfl rfl rfl rfl (OpQ.call (more_v _ _ _ _ _ _ _ _) rfl [] [] rfl rfl rfl SubRC.sub) (fun h22 => ?_) (fun h22 => ?_)
    all_goals
     first | refine o_q _ rfl rfl rfl (v_pick_t rfl rfl rfl) ?_ | refine o_q _ rfl rfl rfl (v_pick_f rfl rfl rfl) ?_
     refine o_nil (r_then ?_); refine r_cond rfl (fun hc23 => ?_) (fun hc23 => ?_)
     ·
      first
      | (exfalso; revert hc23; decide)
      |
       skip
       refine r_region ?_; refine o_q _ rfl rfl rfl (v_ldW rfl Tryz.underlying275 rfl inf275 rfl rfl) ?_; refine o_st rfl inf275 rfl rfl rfl rfl rfl rfl rfl rfl ?_; refine o_nil ?_; refine r_in_normal ?_; refine r_then ?_; refine r_region ?_; refine o_q _ rfl rfl rfl (v_add rfl rfl rfl (by omega)) ?_; refine q_mv rfl rfl rfl rfl rfl ?_; refine o_nil (r_then ?_); refine r_next (k + 1) ?_ ?_ ?_
       ·
        (refine Imp.box_to b4 (encW (best1 more default xs (k + 1))) (by rw [best1_yes (by first | (left; omega) | (right; exact decide_eq_true (by assumption)))]; rfl) ?_; exact r_here (by repeat (first | exact FSub.nil | refine FSub.cons rfl ?_)) SelMC.sel SubRC.sub)
       ·
        omega
       ·
        omega
     ·
      first
      | (exfalso; revert hc23; decide)
      |
       skip
       refine r_skip ?_; refine r_in_normal ?_; refine r_then ?_; refine r_region ?_; refine o_q _ rfl rfl rfl (v_add rfl rfl rfl (by omega)) ?_; refine q_mv rfl rfl rfl rfl rfl ?_; refine o_nil (r_then ?_); refine r_next (k + 1) ?_ ?_ ?_
       ·
        (refine Imp.box_to b4 (encW (best1 more default xs (k + 1))) (by rw [best1_no (by omega) (more_no (by assumption))]) ?_; exact r_here (by repeat (first | exact FSub.nil | refine FSub.cons rfl ?_)) SelMC.sel SubRC.sub)
       ·
        omega
       ·
        omega
  ·
   refine r_exit ?_; refine r_then_exit ?_; refine r_then_exit ?_; refine r_in_here ?_; refine r_then (r_seq (r_region ?_)); refine o_q _ rfl rfl rfl (v_ldW rfl Tryz.underlying275 rfl inf275 rfl rfl) ?_; refine q_mv rfl rfl rfl rfl rfl ?_; refine o_q _ rfl rfl rfl (v_len rfl rfl Tryz.underlying317 rfl) ?_; refine o_q _ rfl rfl rfl (v_gtr rfl rfl rfl) ?_; refine o_st rfl inf275 rfl rfl rfl rfl rfl rfl rfl rfl ?_; refine q_as rfl rfl rfl rfl rfl ?_; refine o_nil (r_then ?_); refine r_ret ?_; have hk : k = xs.length := by omega
   subst hk; exact r_retv2 (Rd.two rfl (RdI.cellW Tryz.underlying275 rfl inf275 rfl rfl) (RdI.tmp rfl)) rfl SelMC.sel SubRC.sub
end Go.Proofs.YtpndeonmmcaikaaGreat.FootW

namespace Go.Proofs.YtpndeonmmcaikaaGreat.FootW
open Go.G Foot4
set_option maxRecDepth 1000000
theorem laid0 : laidOutB Tryz.prog = true := by kernel_rfl
theorem keyLaw115 : WideMaps.KeyLaw Tryz.prog 272 := deep_law_gate laid0 (by decide +kernel) (by decide +kernel) (by kernel_rfl) (by kernel_rfl)
theorem kl3 (d : Nat) {x : Int} (h : 0 ≤ x ∧ x ≤ 1000) : Tryz.prog.keyLits (d + 1) 3 [i64 x] = some [.int .i64 x] := by
  have hw : (Lit.int .i64 x).wf = true := by
    have m1 : IntKind.i64.min = -9223372036854775808 := rfl
    have m2 : IntKind.i64.max = 9223372036854775807 := rfl
    simp only [Lit.wf]
    simp
    omega
  unfold Program.keyLits
  rw [Tryz.underlying3]
  simp [hw]
theorem key_of (hp : Nat) (B : List Int) (hp1 : hp ≤ 3) (hB : B.length = 8) (hs : Small B 1000) : ∃ l, keyOf Tryz.prog 272 (keyL hp B) = some l := by
  match B, hB with
  | [a, b, c, d, e, f, g, h], _ =>
    have h1 := Tryz.underlying272
    unfold keyOf
    rw [h1]
    have h2 : Tryz.prog.keyType 272 = true := by kernel_rfl
    have h3 : (keyL hp [a, b, c, d, e, f, g, h]).formed Tryz.prog 272 = true := by kernel_rfl
    have c115 : Tryz.prog.cellsOf 272 = 9 := by kernel_rfl
    have c107 : Tryz.prog.cellsOf 270 = 8 := by kernel_rfl
    have c3 : Tryz.prog.cellsOf 3 = 1 := by kernel_rfl
    have ha := hs 0; have hb := hs 1; have hc := hs 2; have hd := hs 3; have he := hs 4; have hf := hs 5; have hg := hs 6; have hh := hs 7
    simp only [List.getD_cons_zero, List.getD_cons_succ] at ha hb hc hd he hf hg hh
    have e107 : ∀ m, Tryz.prog.keyLits (m + 2) 270 [i64 a, i64 b, i64 c, i64 d, i64 e, i64 f, i64 g, i64 h] = some [.int .i64 a, .int .i64 b, .int .i64 c, .int .i64 d, .int .i64 e, .int .i64 f, .int .i64 g, .int .i64 h] := by
      intro m
      unfold Program.keyLits
      rw [Tryz.underlying270]
      simp [c107, c3, List.range, List.range.loop, kl3, ha, hb, hc, hd, he, hf, hg, hh]
    have e115 : Tryz.prog.keyLits (Tryz.prog.types.size + 1) 272 (keyL hp [a, b, c, d, e, f, g, h]).cells.toList = some [.int .i64 hp, .int .i64 a, .int .i64 b, .int .i64 c, .int .i64 d, .int .i64 e, .int .i64 f, .int .i64 g, .int .i64 h] := by
      have hsz : Tryz.prog.types.size + 1 = 379 + 3 := by kernel_rfl
      rw [hsz]
      unfold Program.keyLits
      rw [Tryz.underlying272]
      simp [c115, c107, c3, Value.cells, kl3 (x := (hp : Int)) _ (by omega), e107, iv]
    rw [e115, h2, h3]
    exact ⟨_, rfl⟩
end Go.Proofs.YtpndeonmmcaikaaGreat.FootW
