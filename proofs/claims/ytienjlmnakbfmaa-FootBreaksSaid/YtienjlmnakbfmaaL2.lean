/- Part 2 of 5 of what the proofs of this seat stand on: a small logic for walks, what the functions come to, and the walks themselves. No condition of its own. -/
import Derived.Test.YtienjlmnakbfmaaL1
import Derived.Laws.AppendOwn
import Derived.Scope
import Derived.Defers
import Derived.Recover
import Derived.RangeFuncSeq
namespace Go.Proofs.Ytienjlmnakbfmaa
open Go.G Foot4
set_option maxRecDepth 1000000
set_option maxHeartbeats 4000000 in
theorem surely_v (F : Work) (ro ho : Option Addr) (rc hc : Nat) (heap : Int) (a b c : Int) (k : Nat) (h0 : 0 ≤ heap) (h1 : heap < F.heaps.length) (hk : k < 3) (hb : Bnd F) (hd : Days F.rain.length ⟨a, b, c⟩) : FnV Try.prog 87 [valF F ro rc ho hc, i64 heap, .agg #[i64 a, i64 b, i64 c], i64 k] [rowD ro 2 encS F.rain, rowD ho 3 encH F.heaps] (.bool (decide (okStep F worstTo heap.toNat ⟨a, b, c⟩ k))) := by
  have hdk := hd k hk
  refine FnV.intro Try.call87 Try.func87 rfl Try.ntmps87 rfl ?_
  intro W M Rf
  refine r_seq ?_
  refine r_region ?_
  refine o_boxA rfl rfl rfl rfl rfl (fun b4 => ?_)
  refine o_boxA rfl rfl rfl rfl rfl (fun b6 => ?_)
  refine o_q _ rfl rfl rfl (v_assign rfl rfl) ?_
  refine o_nil ?_
  repeat (first | with_reducible refine r_then ?_ | with_reducible refine r_in_normal ?_)
  refine r_seq ?_
  refine r_region_q mixed (by kernel_rfl) ?_
  refine q_q _ rfl rfl rfl (v_move rfl rfl) ?_
  first | refine q_q _ rfl rfl rfl (v_indexAddrAn rfl Try.underlying27 inf3 rfl rfl (by omega)) ?_ | refine q_q _ rfl rfl rfl (v_indexAddrA rfl Try.underlying27 inf3 rfl rfl (by omega)) ?_ | refine q_q _ rfl rfl rfl (v_indexAddrE rfl Try.underlying27 inf3 rfl rfl (by omega)) ?_
  refine q_q _ rfl rfl rfl (v_ld1 rfl Try.underlying3 rfl rfl (t3_atn (by omega))) ?_
  first | refine q_q _ rfl rfl rfl (v_true (v_lss rfl rfl rfl) (by omega)) ?_ | refine q_q _ rfl rfl rfl (v_false (v_lss rfl rfl rfl) (by omega)) ?_ | refine q_test rfl rfl rfl (v_lss rfl rfl rfl) (fun h12 => ?_) (fun h12 => ?_)
  all_goals
    refine q_q _ rfl rfl rfl (v_move rfl rfl) ?_
    first | refine q_gn rfl rfl rfl rfl ?_ | refine q_g _ rfl rfl rfl rfl (v_ldW rfl Try.underlying26 rfl inf26 rfl rfl) ?_ | refine q_g _ rfl rfl rfl rfl (v_ldN rfl Try.underlying26 rfl inf26 rfl rfl rfl) ?_ | refine q_g _ rfl rfl rfl rfl (v_loadEN rfl Try.underlying26 rfl inf26 rfl (by omega) rfl rfl rfl) ?_
    first | refine q_gn rfl rfl rfl rfl ?_ | refine q_g _ rfl rfl rfl rfl (v_move rfl rfl) ?_
    first | refine q_gn rfl rfl rfl rfl ?_ | refine q_g _ rfl rfl rfl rfl (v_ldW rfl Try.underlying27 rfl inf27 rfl rfl) ?_ | refine q_g _ rfl rfl rfl rfl (v_ldN rfl Try.underlying27 rfl inf27 rfl rfl rfl) ?_ | refine q_g _ rfl rfl rfl rfl (v_loadEN rfl Try.underlying27 rfl inf27 rfl (by omega) rfl rfl rfl) ?_
    first | refine q_gn rfl rfl rfl rfl ?_ | refine q_g _ rfl rfl rfl rfl (v_move rfl rfl) ?_
    first | refine q_gn rfl rfl rfl rfl ?_ | refine q_g _ rfl rfl rfl rfl (v_indexAddrAn rfl Try.underlying27 inf3 rfl rfl (by omega)) ?_ | refine q_g _ rfl rfl rfl rfl (v_indexAddrA rfl Try.underlying27 inf3 rfl rfl (by omega)) ?_ | refine q_g _ rfl rfl rfl rfl (v_indexAddrE rfl Try.underlying27 inf3 rfl rfl (by omega)) ?_
    first | refine q_gn rfl rfl rfl rfl ?_ | refine q_g _ rfl rfl rfl rfl (v_ld1 rfl Try.underlying3 rfl rfl (t3_atn (by omega))) ?_
    first | refine q_gn rfl rfl rfl rfl ?_ | refine q_g _ rfl rfl rfl rfl (OpQ.fn (worst_vi F ro ho rc hc _ _ _ _ _ (by omega) (by omega) (by omega) (by omega) hb) rfl rfl SubRC.sub) ?_
    first | refine q_gn rfl rfl rfl rfl ?_ | refine q_g _ rfl rfl rfl rfl (v_move rfl rfl) ?_
    first | refine q_gn rfl rfl rfl rfl ?_ | refine q_g _ rfl rfl rfl rfl (v_fieldAddr rfl Try.underlying26 inf23 rfl rfl rfl rfl) ?_ | refine q_g _ rfl rfl rfl rfl (v_fieldAddrE rfl Try.underlying26 inf23 rfl rfl rfl rfl) ?_
    first | refine q_gn rfl rfl rfl rfl ?_ | refine q_g _ rfl rfl rfl rfl (v_indexAddrAn rfl Try.underlying23 inf3 rfl rfl (by omega)) ?_ | refine q_g _ rfl rfl rfl rfl (v_indexAddrA rfl Try.underlying23 inf3 rfl rfl (by omega)) ?_ | refine q_g _ rfl rfl rfl rfl (v_indexAddrE rfl Try.underlying23 inf3 rfl rfl (by omega)) ?_
    first | refine q_gn rfl rfl rfl rfl ?_ | refine q_g _ rfl rfl rfl rfl (v_ld1 rfl Try.underlying3 rfl rfl (F_limn (by omega))) ?_
    first | refine q_gn rfl rfl rfl rfl ?_ | refine q_g _ rfl rfl rfl rfl (v_true (v_leq rfl rfl rfl) (by omega)) ?_ | refine q_g _ rfl rfl rfl rfl (v_false (v_leq rfl rfl rfl) (by omega)) ?_ | refine q_gtest rfl rfl rfl rfl (v_leq rfl rfl rfl) (fun h25 => ?_) (fun h25 => ?_)
    all_goals
      first | refine q_q _ rfl rfl rfl (v_pick_t rfl rfl rfl) ?_ | refine q_q _ rfl rfl rfl (v_pick_f rfl rfl rfl) ?_
      refine q_q _ rfl rfl rfl (v_assign rfl rfl) ?_
      refine q_nil ?_
      repeat (first | with_reducible refine r_then ?_ | with_reducible refine r_in_normal ?_)
      refine r_ret ?_
      repeat (first | with_reducible refine r_then_ret ?_ | with_reducible refine r_in_ret ?_)
      first | exact r_retv2 (Rd.tmp rfl rfl) rfl SelMC.sel SubRC.sub | exact r_retv2 (Rd.tmp rfl rfl) (congrArg Value.bool (decide_eq_true (by unfold okStep; omega)).symm) SelMC.sel SubRC.sub | exact r_retv2 (Rd.tmp rfl rfl) (congrArg Value.bool (decide_eq_false (by unfold okStep; omega)).symm) SelMC.sel SubRC.sub
set_option maxHeartbeats 4000000 in
theorem perhaps_v (F : Work) (ro ho : Option Addr) (rc hc : Nat) (heap : Int) (a b c : Int) (k : Nat) (h0 : 0 ≤ heap) (h1 : heap < F.heaps.length) (hk : k < 3) (hb : Bnd F) (hd : Days F.rain.length ⟨a, b, c⟩) : FnV Try.prog 88 [valF F ro rc ho hc, i64 heap, .agg #[i64 a, i64 b, i64 c], i64 k] [rowD ro 2 encS F.rain, rowD ho 3 encH F.heaps] (.bool (decide (okStep F bestTo heap.toNat ⟨a, b, c⟩ k))) := by
  have hdk := hd k hk
  refine FnV.intro Try.call88 Try.func88 rfl Try.ntmps88 rfl ?_
  intro W M Rf
  refine r_seq ?_
  refine r_region ?_
  refine o_boxA rfl rfl rfl rfl rfl (fun b4 => ?_)
  refine o_boxA rfl rfl rfl rfl rfl (fun b6 => ?_)
  refine o_q _ rfl rfl rfl (v_assign rfl rfl) ?_
  refine o_nil ?_
  repeat (first | with_reducible refine r_then ?_ | with_reducible refine r_in_normal ?_)
  refine r_seq ?_
  refine r_region_q mixed (by kernel_rfl) ?_
  refine q_q _ rfl rfl rfl (v_move rfl rfl) ?_
  first | refine q_q _ rfl rfl rfl (v_indexAddrAn rfl Try.underlying27 inf3 rfl rfl (by omega)) ?_ | refine q_q _ rfl rfl rfl (v_indexAddrA rfl Try.underlying27 inf3 rfl rfl (by omega)) ?_ | refine q_q _ rfl rfl rfl (v_indexAddrE rfl Try.underlying27 inf3 rfl rfl (by omega)) ?_
  refine q_q _ rfl rfl rfl (v_ld1 rfl Try.underlying3 rfl rfl (t3_atn (by omega))) ?_
  first | refine q_q _ rfl rfl rfl (v_true (v_lss rfl rfl rfl) (by omega)) ?_ | refine q_q _ rfl rfl rfl (v_false (v_lss rfl rfl rfl) (by omega)) ?_ | refine q_test rfl rfl rfl (v_lss rfl rfl rfl) (fun h12 => ?_) (fun h12 => ?_)
  all_goals
    refine q_q _ rfl rfl rfl (v_move rfl rfl) ?_
    first | refine q_gn rfl rfl rfl rfl ?_ | refine q_g _ rfl rfl rfl rfl (v_ldW rfl Try.underlying26 rfl inf26 rfl rfl) ?_ | refine q_g _ rfl rfl rfl rfl (v_ldN rfl Try.underlying26 rfl inf26 rfl rfl rfl) ?_ | refine q_g _ rfl rfl rfl rfl (v_loadEN rfl Try.underlying26 rfl inf26 rfl (by omega) rfl rfl rfl) ?_
    first | refine q_gn rfl rfl rfl rfl ?_ | refine q_g _ rfl rfl rfl rfl (v_move rfl rfl) ?_
    first | refine q_gn rfl rfl rfl rfl ?_ | refine q_g _ rfl rfl rfl rfl (v_ldW rfl Try.underlying27 rfl inf27 rfl rfl) ?_ | refine q_g _ rfl rfl rfl rfl (v_ldN rfl Try.underlying27 rfl inf27 rfl rfl rfl) ?_ | refine q_g _ rfl rfl rfl rfl (v_loadEN rfl Try.underlying27 rfl inf27 rfl (by omega) rfl rfl rfl) ?_
    first | refine q_gn rfl rfl rfl rfl ?_ | refine q_g _ rfl rfl rfl rfl (v_move rfl rfl) ?_
    first | refine q_gn rfl rfl rfl rfl ?_ | refine q_g _ rfl rfl rfl rfl (v_indexAddrAn rfl Try.underlying27 inf3 rfl rfl (by omega)) ?_ | refine q_g _ rfl rfl rfl rfl (v_indexAddrA rfl Try.underlying27 inf3 rfl rfl (by omega)) ?_ | refine q_g _ rfl rfl rfl rfl (v_indexAddrE rfl Try.underlying27 inf3 rfl rfl (by omega)) ?_
    first | refine q_gn rfl rfl rfl rfl ?_ | refine q_g _ rfl rfl rfl rfl (v_ld1 rfl Try.underlying3 rfl rfl (t3_atn (by omega))) ?_
    first | refine q_gn rfl rfl rfl rfl ?_ | refine q_g _ rfl rfl rfl rfl (OpQ.fn (best_vi F ro ho rc hc _ _ _ _ _ (by omega) (by omega) (by omega) (by omega) hb) rfl rfl SubRC.sub) ?_
    first | refine q_gn rfl rfl rfl rfl ?_ | refine q_g _ rfl rfl rfl rfl (v_move rfl rfl) ?_
    first | refine q_gn rfl rfl rfl rfl ?_ | refine q_g _ rfl rfl rfl rfl (v_fieldAddr rfl Try.underlying26 inf23 rfl rfl rfl rfl) ?_ | refine q_g _ rfl rfl rfl rfl (v_fieldAddrE rfl Try.underlying26 inf23 rfl rfl rfl rfl) ?_
    first | refine q_gn rfl rfl rfl rfl ?_ | refine q_g _ rfl rfl rfl rfl (v_indexAddrAn rfl Try.underlying23 inf3 rfl rfl (by omega)) ?_ | refine q_g _ rfl rfl rfl rfl (v_indexAddrA rfl Try.underlying23 inf3 rfl rfl (by omega)) ?_ | refine q_g _ rfl rfl rfl rfl (v_indexAddrE rfl Try.underlying23 inf3 rfl rfl (by omega)) ?_
    first | refine q_gn rfl rfl rfl rfl ?_ | refine q_g _ rfl rfl rfl rfl (v_ld1 rfl Try.underlying3 rfl rfl (F_limn (by omega))) ?_
    first | refine q_gn rfl rfl rfl rfl ?_ | refine q_g _ rfl rfl rfl rfl (v_true (v_leq rfl rfl rfl) (by omega)) ?_ | refine q_g _ rfl rfl rfl rfl (v_false (v_leq rfl rfl rfl) (by omega)) ?_ | refine q_gtest rfl rfl rfl rfl (v_leq rfl rfl rfl) (fun h25 => ?_) (fun h25 => ?_)
    all_goals
      first | refine q_q _ rfl rfl rfl (v_pick_t rfl rfl rfl) ?_ | refine q_q _ rfl rfl rfl (v_pick_f rfl rfl rfl) ?_
      refine q_q _ rfl rfl rfl (v_assign rfl rfl) ?_
      refine q_nil ?_
      repeat (first | with_reducible refine r_then ?_ | with_reducible refine r_in_normal ?_)
      refine r_ret ?_
      repeat (first | with_reducible refine r_then_ret ?_ | with_reducible refine r_in_ret ?_)
      first | exact r_retv2 (Rd.tmp rfl rfl) rfl SelMC.sel SubRC.sub | exact r_retv2 (Rd.tmp rfl rfl) (congrArg Value.bool (decide_eq_true (by unfold okStep; omega)).symm) SelMC.sel SubRC.sub | exact r_retv2 (Rd.tmp rfl rfl) (congrArg Value.bool (decide_eq_false (by unfold okStep; omega)).symm) SelMC.sel SubRC.sub
set_option maxHeartbeats 4000000 in
theorem kept_v (F : Work) (ro ho : Option Addr) (rc hc : Nat) (heap : Int) (a b c : Int) (h0 : 0 ≤ heap) (h1 : heap < F.heaps.length) (hb : Bnd F) (hd : Days F.rain.length ⟨a, b, c⟩) : FnV Try.prog 58 [valF F ro rc ho hc, i64 heap, .agg #[i64 a, i64 b, i64 c]] [rowD ro 2 encS F.rain, rowD ho 3 encH F.heaps] (i64 (keptR F heap.toNat ⟨a, b, c⟩)) := by
  refine FnV.intro Try.call58 Try.func58 rfl Try.ntmps58 rfl ?_
  intro W M Rf
  refine r_seq ?_
  refine r_region ?_
  refine o_boxA rfl rfl rfl rfl rfl (fun b3 => ?_)
  refine o_boxA rfl rfl rfl rfl rfl (fun b5 => ?_)
  refine o_q _ rfl rfl rfl (v_assign rfl rfl) ?_
  refine o_nil ?_
  repeat (first | with_reducible refine r_then ?_ | with_reducible refine r_in_normal ?_)
  refine r_seq ?_
  refine r_seq ?_
  refine r_region ?_
  first | refine o_q _ rfl rfl rfl (v_ldW rfl Try.underlying26 rfl inf26 rfl rfl) ?_ | refine o_q _ rfl rfl rfl (v_ldN rfl Try.underlying26 rfl inf26 rfl rfl rfl) ?_ | refine o_q _ rfl rfl rfl (v_loadEN rfl Try.underlying26 rfl inf26 rfl (by omega) rfl rfl rfl) ?_
  refine o_q _ rfl rfl rfl (v_move rfl rfl) ?_
  first | refine o_q _ rfl rfl rfl (v_ldW rfl Try.underlying27 rfl inf27 rfl rfl) ?_ | refine o_q _ rfl rfl rfl (v_ldN rfl Try.underlying27 rfl inf27 rfl rfl rfl) ?_ | refine o_q _ rfl rfl rfl (v_loadEN rfl Try.underlying27 rfl inf27 rfl (by omega) rfl rfl rfl) ?_
  first | refine o_q _ rfl rfl rfl (v_true (OpQ.fn (surely_v F ro ho rc hc _ _ _ _ 0 h0 h1 (by omega) hb hd) rfl rfl SubRC.sub) (by omega)) ?_ | refine o_q _ rfl rfl rfl (v_false (OpQ.fn (surely_v F ro ho rc hc _ _ _ _ 0 h0 h1 (by omega) hb hd) rfl rfl SubRC.sub) (by omega)) ?_ | refine o_test rfl rfl rfl (OpQ.fn (surely_v F ro ho rc hc _ _ _ _ 0 h0 h1 (by omega) hb hd) rfl rfl SubRC.sub) (fun h10 => ?_) (fun h10 => ?_) | refine o_q _ rfl rfl rfl (v_true (OpQ.fn (surely_v F ro ho rc hc _ _ _ _ 1 h0 h1 (by omega) hb hd) rfl rfl SubRC.sub) (by omega)) ?_ | refine o_q _ rfl rfl rfl (v_false (OpQ.fn (surely_v F ro ho rc hc _ _ _ _ 1 h0 h1 (by omega) hb hd) rfl rfl SubRC.sub) (by omega)) ?_ | refine o_test rfl rfl rfl (OpQ.fn (surely_v F ro ho rc hc _ _ _ _ 1 h0 h1 (by omega) hb hd) rfl rfl SubRC.sub) (fun h10 => ?_) (fun h10 => ?_) | refine o_q _ rfl rfl rfl (v_true (OpQ.fn (surely_v F ro ho rc hc _ _ _ _ 2 h0 h1 (by omega) hb hd) rfl rfl SubRC.sub) (by omega)) ?_ | refine o_q _ rfl rfl rfl (v_false (OpQ.fn (surely_v F ro ho rc hc _ _ _ _ 2 h0 h1 (by omega) hb hd) rfl rfl SubRC.sub) (by omega)) ?_ | refine o_test rfl rfl rfl (OpQ.fn (surely_v F ro ho rc hc _ _ _ _ 2 h0 h1 (by omega) hb hd) rfl rfl SubRC.sub) (fun h10 => ?_) (fun h10 => ?_)
  all_goals
    refine o_q _ rfl rfl rfl (v_move rfl rfl) ?_
    first | refine o_gn rfl rfl rfl rfl ?_ | refine o_g _ rfl rfl rfl rfl (v_ldW rfl Try.underlying26 rfl inf26 rfl rfl) ?_ | refine o_g _ rfl rfl rfl rfl (v_ldN rfl Try.underlying26 rfl inf26 rfl rfl rfl) ?_ | refine o_g _ rfl rfl rfl rfl (v_loadEN rfl Try.underlying26 rfl inf26 rfl (by omega) rfl rfl rfl) ?_
    first | refine o_gn rfl rfl rfl rfl ?_ | refine o_g _ rfl rfl rfl rfl (v_move rfl rfl) ?_
    first | refine o_gn rfl rfl rfl rfl ?_ | refine o_g _ rfl rfl rfl rfl (v_ldW rfl Try.underlying27 rfl inf27 rfl rfl) ?_ | refine o_g _ rfl rfl rfl rfl (v_ldN rfl Try.underlying27 rfl inf27 rfl rfl rfl) ?_ | refine o_g _ rfl rfl rfl rfl (v_loadEN rfl Try.underlying27 rfl inf27 rfl (by omega) rfl rfl rfl) ?_
    first | refine o_gn rfl rfl rfl rfl ?_ | refine o_g _ rfl rfl rfl rfl (v_true (OpQ.fn (surely_v F ro ho rc hc _ _ _ _ 0 h0 h1 (by omega) hb hd) rfl rfl SubRC.sub) (by omega)) ?_ | refine o_g _ rfl rfl rfl rfl (v_false (OpQ.fn (surely_v F ro ho rc hc _ _ _ _ 0 h0 h1 (by omega) hb hd) rfl rfl SubRC.sub) (by omega)) ?_ | refine o_gtest rfl rfl rfl rfl (OpQ.fn (surely_v F ro ho rc hc _ _ _ _ 0 h0 h1 (by omega) hb hd) rfl rfl SubRC.sub) (fun h15 => ?_) (fun h15 => ?_) | refine o_g _ rfl rfl rfl rfl (v_true (OpQ.fn (surely_v F ro ho rc hc _ _ _ _ 1 h0 h1 (by omega) hb hd) rfl rfl SubRC.sub) (by omega)) ?_ | refine o_g _ rfl rfl rfl rfl (v_false (OpQ.fn (surely_v F ro ho rc hc _ _ _ _ 1 h0 h1 (by omega) hb hd) rfl rfl SubRC.sub) (by omega)) ?_ | refine o_gtest rfl rfl rfl rfl (OpQ.fn (surely_v F ro ho rc hc _ _ _ _ 1 h0 h1 (by omega) hb hd) rfl rfl SubRC.sub) (fun h15 => ?_) (fun h15 => ?_) | refine o_g _ rfl rfl rfl rfl (v_true (OpQ.fn (surely_v F ro ho rc hc _ _ _ _ 2 h0 h1 (by omega) hb hd) rfl rfl SubRC.sub) (by omega)) ?_ | refine o_g _ rfl rfl rfl rfl (v_false (OpQ.fn (surely_v F ro ho rc hc _ _ _ _ 2 h0 h1 (by omega) hb hd) rfl rfl SubRC.sub) (by omega)) ?_ | refine o_gtest rfl rfl rfl rfl (OpQ.fn (surely_v F ro ho rc hc _ _ _ _ 2 h0 h1 (by omega) hb hd) rfl rfl SubRC.sub) (fun h15 => ?_) (fun h15 => ?_)
    all_goals
      first | refine o_q _ rfl rfl rfl (v_pick_t rfl rfl rfl) ?_ | refine o_q _ rfl rfl rfl (v_pick_f rfl rfl rfl) ?_
      refine o_q _ rfl rfl rfl (v_move rfl rfl) ?_
      first | refine o_gn rfl rfl rfl rfl ?_ | refine o_g _ rfl rfl rfl rfl (v_ldW rfl Try.underlying26 rfl inf26 rfl rfl) ?_ | refine o_g _ rfl rfl rfl rfl (v_ldN rfl Try.underlying26 rfl inf26 rfl rfl rfl) ?_ | refine o_g _ rfl rfl rfl rfl (v_loadEN rfl Try.underlying26 rfl inf26 rfl (by omega) rfl rfl rfl) ?_
      first | refine o_gn rfl rfl rfl rfl ?_ | refine o_g _ rfl rfl rfl rfl (v_move rfl rfl) ?_
      first | refine o_gn rfl rfl rfl rfl ?_ | refine o_g _ rfl rfl rfl rfl (v_ldW rfl Try.underlying27 rfl inf27 rfl rfl) ?_ | refine o_g _ rfl rfl rfl rfl (v_ldN rfl Try.underlying27 rfl inf27 rfl rfl rfl) ?_ | refine o_g _ rfl rfl rfl rfl (v_loadEN rfl Try.underlying27 rfl inf27 rfl (by omega) rfl rfl rfl) ?_
      first | refine o_gn rfl rfl rfl rfl ?_ | refine o_g _ rfl rfl rfl rfl (v_true (OpQ.fn (surely_v F ro ho rc hc _ _ _ _ 0 h0 h1 (by omega) hb hd) rfl rfl SubRC.sub) (by omega)) ?_ | refine o_g _ rfl rfl rfl rfl (v_false (OpQ.fn (surely_v F ro ho rc hc _ _ _ _ 0 h0 h1 (by omega) hb hd) rfl rfl SubRC.sub) (by omega)) ?_ | refine o_gtest rfl rfl rfl rfl (OpQ.fn (surely_v F ro ho rc hc _ _ _ _ 0 h0 h1 (by omega) hb hd) rfl rfl SubRC.sub) (fun h21 => ?_) (fun h21 => ?_) | refine o_g _ rfl rfl rfl rfl (v_true (OpQ.fn (surely_v F ro ho rc hc _ _ _ _ 1 h0 h1 (by omega) hb hd) rfl rfl SubRC.sub) (by omega)) ?_ | refine o_g _ rfl rfl rfl rfl (v_false (OpQ.fn (surely_v F ro ho rc hc _ _ _ _ 1 h0 h1 (by omega) hb hd) rfl rfl SubRC.sub) (by omega)) ?_ | refine o_gtest rfl rfl rfl rfl (OpQ.fn (surely_v F ro ho rc hc _ _ _ _ 1 h0 h1 (by omega) hb hd) rfl rfl SubRC.sub) (fun h21 => ?_) (fun h21 => ?_) | refine o_g _ rfl rfl rfl rfl (v_true (OpQ.fn (surely_v F ro ho rc hc _ _ _ _ 2 h0 h1 (by omega) hb hd) rfl rfl SubRC.sub) (by omega)) ?_ | refine o_g _ rfl rfl rfl rfl (v_false (OpQ.fn (surely_v F ro ho rc hc _ _ _ _ 2 h0 h1 (by omega) hb hd) rfl rfl SubRC.sub) (by omega)) ?_ | refine o_gtest rfl rfl rfl rfl (OpQ.fn (surely_v F ro ho rc hc _ _ _ _ 2 h0 h1 (by omega) hb hd) rfl rfl SubRC.sub) (fun h21 => ?_) (fun h21 => ?_)
      all_goals
        first | refine o_q _ rfl rfl rfl (v_pick_t rfl rfl rfl) ?_ | refine o_q _ rfl rfl rfl (v_pick_f rfl rfl rfl) ?_
        refine o_nil ?_
        repeat (first | with_reducible refine r_then ?_ | with_reducible refine r_in_normal ?_)
        first | refine r_condd rfl (fun hc22 => ?_) (fun hc22 => ?_) | refine r_cond rfl (fun hc22 => ?_) (fun hc22 => ?_)
        ·
          first
          | (exfalso; revert hc22; decide)
          | (exfalso; omega)
          | skip
            refine r_seq ?_
            refine r_region ?_
            refine o_q _ rfl rfl rfl (v_assign rfl rfl) ?_
            refine o_nil ?_
            repeat (first | with_reducible refine r_then ?_ | with_reducible refine r_in_normal ?_)
            refine r_ret ?_
            repeat (first | with_reducible refine r_then_ret ?_ | with_reducible refine r_in_ret ?_)
            exact r_retv2 (Rd.tmp rfl rfl) (congrArg (Value.int .i64) (by simp [keptR, *])) SelMC.sel SubRC.sub
        ·
          first
          | (exfalso; revert hc22; decide)
          | (exfalso; omega)
          | skip
            refine r_skip ?_
            repeat (first | with_reducible refine r_then ?_ | with_reducible refine r_in_normal ?_)
            refine r_seq ?_
            refine r_seq ?_
            refine r_region ?_
            first | refine o_q _ rfl rfl rfl (v_ldW rfl Try.underlying26 rfl inf26 rfl rfl) ?_ | refine o_q _ rfl rfl rfl (v_ldN rfl Try.underlying26 rfl inf26 rfl rfl rfl) ?_ | refine o_q _ rfl rfl rfl (v_loadEN rfl Try.underlying26 rfl inf26 rfl (by omega) rfl rfl rfl) ?_
            refine o_q _ rfl rfl rfl (v_move rfl rfl) ?_
            first | refine o_q _ rfl rfl rfl (v_ldW rfl Try.underlying27 rfl inf27 rfl rfl) ?_ | refine o_q _ rfl rfl rfl (v_ldN rfl Try.underlying27 rfl inf27 rfl rfl rfl) ?_ | refine o_q _ rfl rfl rfl (v_loadEN rfl Try.underlying27 rfl inf27 rfl (by omega) rfl rfl rfl) ?_
            first | refine o_q _ rfl rfl rfl (v_true (OpQ.fn (perhaps_v F ro ho rc hc _ _ _ _ 0 h0 h1 (by omega) hb hd) rfl rfl SubRC.sub) (by omega)) ?_ | refine o_q _ rfl rfl rfl (v_false (OpQ.fn (perhaps_v F ro ho rc hc _ _ _ _ 0 h0 h1 (by omega) hb hd) rfl rfl SubRC.sub) (by omega)) ?_ | refine o_test rfl rfl rfl (OpQ.fn (perhaps_v F ro ho rc hc _ _ _ _ 0 h0 h1 (by omega) hb hd) rfl rfl SubRC.sub) (fun h26 => ?_) (fun h26 => ?_) | refine o_q _ rfl rfl rfl (v_true (OpQ.fn (perhaps_v F ro ho rc hc _ _ _ _ 1 h0 h1 (by omega) hb hd) rfl rfl SubRC.sub) (by omega)) ?_ | refine o_q _ rfl rfl rfl (v_false (OpQ.fn (perhaps_v F ro ho rc hc _ _ _ _ 1 h0 h1 (by omega) hb hd) rfl rfl SubRC.sub) (by omega)) ?_ | refine o_test rfl rfl rfl (OpQ.fn (perhaps_v F ro ho rc hc _ _ _ _ 1 h0 h1 (by omega) hb hd) rfl rfl SubRC.sub) (fun h26 => ?_) (fun h26 => ?_) | refine o_q _ rfl rfl rfl (v_true (OpQ.fn (perhaps_v F ro ho rc hc _ _ _ _ 2 h0 h1 (by omega) hb hd) rfl rfl SubRC.sub) (by omega)) ?_ | refine o_q _ rfl rfl rfl (v_false (OpQ.fn (perhaps_v F ro ho rc hc _ _ _ _ 2 h0 h1 (by omega) hb hd) rfl rfl SubRC.sub) (by omega)) ?_ | refine o_test rfl rfl rfl (OpQ.fn (perhaps_v F ro ho rc hc _ _ _ _ 2 h0 h1 (by omega) hb hd) rfl rfl SubRC.sub) (fun h26 => ?_) (fun h26 => ?_)
            all_goals
              refine o_q _ rfl rfl rfl (v_move rfl rfl) ?_
              first | refine o_gn rfl rfl rfl rfl ?_ | refine o_g _ rfl rfl rfl rfl (v_ldW rfl Try.underlying26 rfl inf26 rfl rfl) ?_ | refine o_g _ rfl rfl rfl rfl (v_ldN rfl Try.underlying26 rfl inf26 rfl rfl rfl) ?_ | refine o_g _ rfl rfl rfl rfl (v_loadEN rfl Try.underlying26 rfl inf26 rfl (by omega) rfl rfl rfl) ?_
              first | refine o_gn rfl rfl rfl rfl ?_ | refine o_g _ rfl rfl rfl rfl (v_move rfl rfl) ?_
              first | refine o_gn rfl rfl rfl rfl ?_ | refine o_g _ rfl rfl rfl rfl (v_ldW rfl Try.underlying27 rfl inf27 rfl rfl) ?_ | refine o_g _ rfl rfl rfl rfl (v_ldN rfl Try.underlying27 rfl inf27 rfl rfl rfl) ?_ | refine o_g _ rfl rfl rfl rfl (v_loadEN rfl Try.underlying27 rfl inf27 rfl (by omega) rfl rfl rfl) ?_
              first | refine o_gn rfl rfl rfl rfl ?_ | refine o_g _ rfl rfl rfl rfl (v_true (OpQ.fn (perhaps_v F ro ho rc hc _ _ _ _ 0 h0 h1 (by omega) hb hd) rfl rfl SubRC.sub) (by omega)) ?_ | refine o_g _ rfl rfl rfl rfl (v_false (OpQ.fn (perhaps_v F ro ho rc hc _ _ _ _ 0 h0 h1 (by omega) hb hd) rfl rfl SubRC.sub) (by omega)) ?_ | refine o_gtest rfl rfl rfl rfl (OpQ.fn (perhaps_v F ro ho rc hc _ _ _ _ 0 h0 h1 (by omega) hb hd) rfl rfl SubRC.sub) (fun h31 => ?_) (fun h31 => ?_) | refine o_g _ rfl rfl rfl rfl (v_true (OpQ.fn (perhaps_v F ro ho rc hc _ _ _ _ 1 h0 h1 (by omega) hb hd) rfl rfl SubRC.sub) (by omega)) ?_ | refine o_g _ rfl rfl rfl rfl (v_false (OpQ.fn (perhaps_v F ro ho rc hc _ _ _ _ 1 h0 h1 (by omega) hb hd) rfl rfl SubRC.sub) (by omega)) ?_ | refine o_gtest rfl rfl rfl rfl (OpQ.fn (perhaps_v F ro ho rc hc _ _ _ _ 1 h0 h1 (by omega) hb hd) rfl rfl SubRC.sub) (fun h31 => ?_) (fun h31 => ?_) | refine o_g _ rfl rfl rfl rfl (v_true (OpQ.fn (perhaps_v F ro ho rc hc _ _ _ _ 2 h0 h1 (by omega) hb hd) rfl rfl SubRC.sub) (by omega)) ?_ | refine o_g _ rfl rfl rfl rfl (v_false (OpQ.fn (perhaps_v F ro ho rc hc _ _ _ _ 2 h0 h1 (by omega) hb hd) rfl rfl SubRC.sub) (by omega)) ?_ | refine o_gtest rfl rfl rfl rfl (OpQ.fn (perhaps_v F ro ho rc hc _ _ _ _ 2 h0 h1 (by omega) hb hd) rfl rfl SubRC.sub) (fun h31 => ?_) (fun h31 => ?_)
              all_goals
                first | refine o_q _ rfl rfl rfl (v_pick_t rfl rfl rfl) ?_ | refine o_q _ rfl rfl rfl (v_pick_f rfl rfl rfl) ?_
                refine o_q _ rfl rfl rfl (v_move rfl rfl) ?_
                first | refine o_gn rfl rfl rfl rfl ?_ | refine o_g _ rfl rfl rfl rfl (v_ldW rfl Try.underlying26 rfl inf26 rfl rfl) ?_ | refine o_g _ rfl rfl rfl rfl (v_ldN rfl Try.underlying26 rfl inf26 rfl rfl rfl) ?_ | refine o_g _ rfl rfl rfl rfl (v_loadEN rfl Try.underlying26 rfl inf26 rfl (by omega) rfl rfl rfl) ?_
                first | refine o_gn rfl rfl rfl rfl ?_ | refine o_g _ rfl rfl rfl rfl (v_move rfl rfl) ?_
                first | refine o_gn rfl rfl rfl rfl ?_ | refine o_g _ rfl rfl rfl rfl (v_ldW rfl Try.underlying27 rfl inf27 rfl rfl) ?_ | refine o_g _ rfl rfl rfl rfl (v_ldN rfl Try.underlying27 rfl inf27 rfl rfl rfl) ?_ | refine o_g _ rfl rfl rfl rfl (v_loadEN rfl Try.underlying27 rfl inf27 rfl (by omega) rfl rfl rfl) ?_
                first | refine o_gn rfl rfl rfl rfl ?_ | refine o_g _ rfl rfl rfl rfl (v_true (OpQ.fn (perhaps_v F ro ho rc hc _ _ _ _ 0 h0 h1 (by omega) hb hd) rfl rfl SubRC.sub) (by omega)) ?_ | refine o_g _ rfl rfl rfl rfl (v_false (OpQ.fn (perhaps_v F ro ho rc hc _ _ _ _ 0 h0 h1 (by omega) hb hd) rfl rfl SubRC.sub) (by omega)) ?_ | refine o_gtest rfl rfl rfl rfl (OpQ.fn (perhaps_v F ro ho rc hc _ _ _ _ 0 h0 h1 (by omega) hb hd) rfl rfl SubRC.sub) (fun h37 => ?_) (fun h37 => ?_) | refine o_g _ rfl rfl rfl rfl (v_true (OpQ.fn (perhaps_v F ro ho rc hc _ _ _ _ 1 h0 h1 (by omega) hb hd) rfl rfl SubRC.sub) (by omega)) ?_ | refine o_g _ rfl rfl rfl rfl (v_false (OpQ.fn (perhaps_v F ro ho rc hc _ _ _ _ 1 h0 h1 (by omega) hb hd) rfl rfl SubRC.sub) (by omega)) ?_ | refine o_gtest rfl rfl rfl rfl (OpQ.fn (perhaps_v F ro ho rc hc _ _ _ _ 1 h0 h1 (by omega) hb hd) rfl rfl SubRC.sub) (fun h37 => ?_) (fun h37 => ?_) | refine o_g _ rfl rfl rfl rfl (v_true (OpQ.fn (perhaps_v F ro ho rc hc _ _ _ _ 2 h0 h1 (by omega) hb hd) rfl rfl SubRC.sub) (by omega)) ?_ | refine o_g _ rfl rfl rfl rfl (v_false (OpQ.fn (perhaps_v F ro ho rc hc _ _ _ _ 2 h0 h1 (by omega) hb hd) rfl rfl SubRC.sub) (by omega)) ?_ | refine o_gtest rfl rfl rfl rfl (OpQ.fn (perhaps_v F ro ho rc hc _ _ _ _ 2 h0 h1 (by omega) hb hd) rfl rfl SubRC.sub) (fun h37 => ?_) (fun h37 => ?_)
                all_goals
                  first | refine o_q _ rfl rfl rfl (v_pick_t rfl rfl rfl) ?_ | refine o_q _ rfl rfl rfl (v_pick_f rfl rfl rfl) ?_
                  refine o_nil ?_
                  repeat (first | with_reducible refine r_then ?_ | with_reducible refine r_in_normal ?_)
                  first | refine r_condd rfl (fun hc38 => ?_) (fun hc38 => ?_) | refine r_cond rfl (fun hc38 => ?_) (fun hc38 => ?_)
                  ·
                    first
                    | (exfalso; revert hc38; decide)
                    | (exfalso; omega)
                    | skip
                      refine r_seq ?_
                      refine r_region ?_
                      refine o_q _ rfl rfl rfl (v_assign rfl rfl) ?_
                      refine o_nil ?_
                      repeat (first | with_reducible refine r_then ?_ | with_reducible refine r_in_normal ?_)
                      refine r_ret ?_
                      repeat (first | with_reducible refine r_then_ret ?_ | with_reducible refine r_in_ret ?_)
                      exact r_retv2 (Rd.tmp rfl rfl) (congrArg (Value.int .i64) (by simp [keptR, *])) SelMC.sel SubRC.sub
                  ·
                    first
                    | (exfalso; revert hc38; decide)
                    | (exfalso; omega)
                    | skip
                      refine r_skip ?_
                      repeat (first | with_reducible refine r_then ?_ | with_reducible refine r_in_normal ?_)
                      refine r_seq ?_
                      refine r_region ?_
                      refine o_q _ rfl rfl rfl (v_assign rfl rfl) ?_
                      refine o_nil ?_
                      repeat (first | with_reducible refine r_then ?_ | with_reducible refine r_in_normal ?_)
                      refine r_ret ?_
                      repeat (first | with_reducible refine r_then_ret ?_ | with_reducible refine r_in_ret ?_)
                      exact r_retv2 (Rd.tmp rfl rfl) (congrArg (Value.int .i64) (by simp [keptR, *])) SelMC.sel SubRC.sub
set_option maxHeartbeats 4000000 in
theorem WetR_v (F : Work) (ro ho : Option Addr) (rc hc : Nat) (x : Int) (a b c : Int) (y : Int) (hr : F.rain.length ≤ 40) (hh : F.heaps.length ≤ 40) : FnV Try.prog 16 [valF F ro rc ho hc, i64 x, .agg #[i64 a, i64 b, i64 c], i64 y] [rowD ro 2 encS F.rain, rowD ho 3 encH F.heaps] (.tuple #[.agg #[i64 (wetR F x ⟨a, b, c⟩ y).1.lo, i64 (wetR F x ⟨a, b, c⟩ y).1.hi], i64 (wetR F x ⟨a, b, c⟩ y).2]) := by
  have hcf := chk_false F
  refine FnV.intro Try.call16 Try.func16 rfl Try.ntmps16 rfl ?_
  intro W M Rf
  refine r_seq ?_
  refine r_region ?_
  refine o_boxA rfl rfl rfl rfl rfl (fun b4 => ?_)
  refine o_boxA rfl rfl rfl rfl rfl (fun b6 => ?_)
  refine o_alloc rfl inf31 rfl rfl rfl rfl rfl (fun b8 => ?_)
  refine o_q _ rfl rfl rfl (v_assign rfl rfl) ?_
  refine o_nil ?_
  repeat (first | with_reducible refine r_then ?_ | with_reducible refine r_in_normal ?_)
  refine r_seq ?_
  refine r_region_q mixed (by kernel_rfl) ?_
  first | refine q_q _ rfl rfl rfl (v_ldW rfl Try.underlying26 rfl inf26 rfl rfl) ?_ | refine q_q _ rfl rfl rfl (v_ldN rfl Try.underlying26 rfl inf26 rfl rfl rfl) ?_ | refine q_q _ rfl rfl rfl (v_loadEN rfl Try.underlying26 rfl inf26 rfl (by omega) rfl rfl rfl) ?_
  first | refine q_q _ rfl rfl rfl (v_ldW rfl Try.underlying26 rfl inf26 rfl rfl) ?_ | refine q_q _ rfl rfl rfl (v_ldN rfl Try.underlying26 rfl inf26 rfl rfl rfl) ?_ | refine q_q _ rfl rfl rfl (v_loadEN rfl Try.underlying26 rfl inf26 rfl (by omega) rfl rfl rfl) ?_
  refine q_q _ rfl rfl rfl (v_move rfl rfl) ?_
  first | refine q_q _ rfl rfl rfl (v_true (OpQ.fn (Heap_v F ro ho rc hc _ hr hh) rfl rfl SubRC.sub) (by omega)) ?_ | refine q_q _ rfl rfl rfl (v_false (OpQ.fn (Heap_v F ro ho rc hc _ hr hh) rfl rfl SubRC.sub) (by omega)) ?_ | refine q_test rfl rfl rfl (OpQ.fn (Heap_v F ro ho rc hc _ hr hh) rfl rfl SubRC.sub) (fun h14 => ?_) (fun h14 => ?_)
  all_goals
    refine q_q _ rfl rfl rfl (v_move rfl rfl) ?_
    first | refine q_gn rfl rfl rfl rfl ?_ | refine q_g _ rfl rfl rfl rfl (v_ldW rfl Try.underlying26 rfl inf26 rfl rfl) ?_ | refine q_g _ rfl rfl rfl rfl (v_ldN rfl Try.underlying26 rfl inf26 rfl rfl rfl) ?_ | refine q_g _ rfl rfl rfl rfl (v_loadEN rfl Try.underlying26 rfl inf26 rfl (by omega) rfl rfl rfl) ?_
    first | refine q_gn rfl rfl rfl rfl ?_ | refine q_g _ rfl rfl rfl rfl (v_ldW rfl Try.underlying27 rfl inf27 rfl rfl) ?_ | refine q_g _ rfl rfl rfl rfl (v_ldN rfl Try.underlying27 rfl inf27 rfl rfl rfl) ?_ | refine q_g _ rfl rfl rfl rfl (v_loadEN rfl Try.underlying27 rfl inf27 rfl (by omega) rfl rfl rfl) ?_
    first | refine q_gn rfl rfl rfl rfl ?_ | refine q_g _ rfl rfl rfl rfl (v_true (OpQ.fn (Plan_v F ro ho rc hc _ _ _ hr hh) rfl rfl SubRC.sub) (by omega)) ?_ | refine q_g _ rfl rfl rfl rfl (v_false (OpQ.fn (Plan_v F ro ho rc hc _ _ _ hr hh) rfl rfl SubRC.sub) (by omega)) ?_ | refine q_gtest rfl rfl rfl rfl (OpQ.fn (Plan_v F ro ho rc hc _ _ _ hr hh) rfl rfl SubRC.sub) (fun h18 => ?_) (fun h18 => ?_)
    all_goals
      first | refine q_q _ rfl rfl rfl (v_pick_t rfl rfl rfl) ?_ | refine q_q _ rfl rfl rfl (v_pick_f rfl rfl rfl) ?_
      refine q_q _ rfl rfl rfl (v_move rfl rfl) ?_
      first | refine q_gn rfl rfl rfl rfl ?_ | refine q_g _ rfl rfl rfl rfl (v_ldW rfl Try.underlying26 rfl inf26 rfl rfl) ?_ | refine q_g _ rfl rfl rfl rfl (v_ldN rfl Try.underlying26 rfl inf26 rfl rfl rfl) ?_ | refine q_g _ rfl rfl rfl rfl (v_loadEN rfl Try.underlying26 rfl inf26 rfl (by omega) rfl rfl rfl) ?_
      first | refine q_gn rfl rfl rfl rfl ?_ | refine q_g _ rfl rfl rfl rfl (v_move rfl rfl) ?_
      first | refine q_gn rfl rfl rfl rfl ?_ | refine q_g _ rfl rfl rfl rfl (v_true (OpQ.fn (Day_v F ro ho rc hc _ hr hh) rfl rfl SubRC.sub) (by omega)) ?_ | refine q_g _ rfl rfl rfl rfl (v_false (OpQ.fn (Day_v F ro ho rc hc _ hr hh) rfl rfl SubRC.sub) (by omega)) ?_ | refine q_gtest rfl rfl rfl rfl (OpQ.fn (Day_v F ro ho rc hc _ hr hh) rfl rfl SubRC.sub) (fun h23 => ?_) (fun h23 => ?_)
      all_goals
        first | refine q_q _ rfl rfl rfl (v_pick_t rfl rfl rfl) ?_ | refine q_q _ rfl rfl rfl (v_pick_f rfl rfl rfl) ?_
        refine q_q _ rfl rfl rfl (OpQ.fn (check_v F ro ho rc hc _ hr hh) rfl rfl SubRC.sub) ?_
        refine q_q _ rfl rfl rfl (v_assign rfl rfl) ?_
        refine q_nil ?_
        repeat (first | with_reducible refine r_then ?_ | with_reducible refine r_in_normal ?_)
        refine r_seq ?_
        refine r_seq ?_
        refine r_region ?_
        refine o_q _ rfl rfl rfl (v_move rfl rfl) ?_
        refine o_q _ rfl rfl rfl (v_neq rfl rfl rfl) ?_
        refine o_nil ?_
        repeat (first | with_reducible refine r_then ?_ | with_reducible refine r_in_normal ?_)
        first | refine r_condd rfl (fun hc27 => ?_) (fun hc27 => ?_) | refine r_cond rfl (fun hc27 => ?_) (fun hc27 => ?_)
        ·
          first
          | (exfalso; revert hc27; decide)
          | (exfalso; omega)
          | skip
            refine r_seq ?_
            refine r_region ?_
            refine o_q _ rfl rfl rfl (v_bS0 rfl Try.underlying31 inf31 plt31 rfl rfl) ?_
            refine o_q _ rfl rfl rfl (v_move rfl rfl) ?_
            refine o_st rfl inf31 rfl rfl rfl rfl rfl rfl rfl rfl ?_
            refine o_q _ rfl rfl rfl (v_assign rfl rfl) ?_
            refine o_nil ?_
            repeat (first | with_reducible refine r_then ?_ | with_reducible refine r_in_normal ?_)
            refine r_ret ?_
            repeat (first | with_reducible refine r_then_ret ?_ | with_reducible refine r_in_ret ?_)
            first
            | (rw [wetR_ok hgd (by simp [*])]; exact r_retv2 (Rd.two rfl (RdI.cellW Try.underlying31 rfl inf31 rfl rfl) (RdI.tmp rfl)) rfl SelMC.sel SubRC.sub)
            | (rw [wetR_of true (by simp [*]) hc27]; exact r_retv2 (Rd.two rfl (RdI.cellW Try.underlying31 rfl inf31 rfl rfl) (RdI.tmp rfl)) rfl SelMC.sel SubRC.sub)
            | (rw [wetR_of false (by simp [*]) hc27]; exact r_retv2 (Rd.two rfl (RdI.cellW Try.underlying31 rfl inf31 rfl rfl) (RdI.tmp rfl)) rfl SelMC.sel SubRC.sub)
        ·
          first
          | (exfalso; revert hc27; decide)
          | (exfalso; omega)
          | skip
            refine r_skip ?_
            repeat (first | with_reducible refine r_then ?_ | with_reducible refine r_in_normal ?_)
            refine r_seq ?_
            obtain ⟨hgd, hb⟩ := chk_zero hc27
            refine r_par' 9 mixed (by kernel_rfl) (by rfl) ?_
            first | refine p_q _ rfl rfl rfl (fun _ _ => v_ldW rfl Try.underlying26 rfl inf26 rfl rfl) ?_ | refine p_q _ rfl rfl rfl (fun _ _ => v_ldN rfl Try.underlying26 rfl inf26 rfl rfl rfl) ?_ | refine p_q _ rfl rfl rfl (fun _ _ => v_loadEN rfl Try.underlying26 rfl inf26 rfl (by omega) rfl rfl rfl) ?_
            refine p_q _ rfl rfl rfl (fun _ _ => v_move rfl rfl) ?_
            first | refine p_q _ rfl rfl rfl (fun _ _ => v_ldW rfl Try.underlying27 rfl inf27 rfl rfl) ?_ | refine p_q _ rfl rfl rfl (fun _ _ => v_ldN rfl Try.underlying27 rfl inf27 rfl rfl rfl) ?_ | refine p_q _ rfl rfl rfl (fun _ _ => v_loadEN rfl Try.underlying27 rfl inf27 rfl (by omega) rfl rfl rfl) ?_
            refine p_q _ rfl rfl rfl (fun _ _ => v_move rfl rfl) ?_
            refine p_q _ rfl rfl rfl (fun _ _ => OpQ.fn (best_vi F ro ho rc hc _ _ _ _ _ (by omega) (by omega) (by omega) (by omega) hb) rfl rfl SubRC.sub) ?_
            first | refine p_q _ rfl rfl rfl (fun _ _ => v_ldW rfl Try.underlying26 rfl inf26 rfl rfl) ?_ | refine p_q _ rfl rfl rfl (fun _ _ => v_ldN rfl Try.underlying26 rfl inf26 rfl rfl rfl) ?_ | refine p_q _ rfl rfl rfl (fun _ _ => v_loadEN rfl Try.underlying26 rfl inf26 rfl (by omega) rfl rfl rfl) ?_
            refine p_q _ rfl rfl rfl (fun _ _ => v_move rfl rfl) ?_
            first | refine p_q _ rfl rfl rfl (fun _ _ => v_ldW rfl Try.underlying27 rfl inf27 rfl rfl) ?_ | refine p_q _ rfl rfl rfl (fun _ _ => v_ldN rfl Try.underlying27 rfl inf27 rfl rfl rfl) ?_ | refine p_q _ rfl rfl rfl (fun _ _ => v_loadEN rfl Try.underlying27 rfl inf27 rfl (by omega) rfl rfl rfl) ?_
            refine p_q _ rfl rfl rfl (fun _ _ => v_move rfl rfl) ?_
            refine p_nil ?_
            refine f_q rfl ?_
            refine f_q rfl ?_
            refine f_q rfl ?_
            refine f_q rfl ?_
            refine f_q rfl ?_
            refine f_q rfl ?_
            refine f_q rfl ?_
            refine f_q rfl ?_
            refine f_q rfl ?_
            refine f_nil ?_
            refine o_q _ rfl rfl rfl (OpQ.fn (worst_vi F ro ho rc hc _ _ _ _ _ (by omega) (by omega) (by omega) (by omega) hb) rfl rfl SubRC.sub) ?_
            refine o_q _ rfl rfl rfl (v_bS rfl Try.underlying31 inf31 plt31 rfl rfl rfl (by repeat (first | exact trivial | refine ⟨rfl, ?_⟩)) (by rfl)) ?_
            refine o_st rfl inf31 rfl rfl rfl rfl rfl rfl rfl rfl ?_
            refine o_q _ rfl rfl rfl (v_assign rfl rfl) ?_
            refine o_nil ?_
            repeat (first | with_reducible refine r_then ?_ | with_reducible refine r_in_normal ?_)
            refine r_ret ?_
            repeat (first | with_reducible refine r_then_ret ?_ | with_reducible refine r_in_ret ?_)
            first
            | (rw [wetR_ok hgd (by simp [*])]; exact r_retv2 (Rd.two rfl (RdI.cellW Try.underlying31 rfl inf31 rfl rfl) (RdI.tmp rfl)) rfl SelMC.sel SubRC.sub)
            | (rw [wetR_of true (by simp [*]) hc27]; exact r_retv2 (Rd.two rfl (RdI.cellW Try.underlying31 rfl inf31 rfl rfl) (RdI.tmp rfl)) rfl SelMC.sel SubRC.sub)
            | (rw [wetR_of false (by simp [*]) hc27]; exact r_retv2 (Rd.two rfl (RdI.cellW Try.underlying31 rfl inf31 rfl rfl) (RdI.tmp rfl)) rfl SelMC.sel SubRC.sub)
set_option maxHeartbeats 4000000 in
theorem CanR_v (F : Work) (ro ho : Option Addr) (rc hc : Nat) (x : Int) (a b c : Int) (hr : F.rain.length ≤ 40) (hh : F.heaps.length ≤ 40) : FnV Try.prog 18 [valF F ro rc ho hc, i64 x, .agg #[i64 a, i64 b, i64 c]] [rowD ro 2 encS F.rain, rowD ho 3 encH F.heaps] (.tuple #[i64 (canR F x ⟨a, b, c⟩).1, i64 (canR F x ⟨a, b, c⟩).2]) := by
  have hcf := chk_false F
  refine FnV.intro Try.call18 Try.func18 rfl Try.ntmps18 rfl ?_
  intro W M Rf
  refine r_seq ?_
  refine r_region ?_
  refine o_boxA rfl rfl rfl rfl rfl (fun b3 => ?_)
  refine o_boxA rfl rfl rfl rfl rfl (fun b5 => ?_)
  refine o_q _ rfl rfl rfl (v_assign rfl rfl) ?_
  refine o_q _ rfl rfl rfl (v_assign rfl rfl) ?_
  refine o_nil ?_
  repeat (first | with_reducible refine r_then ?_ | with_reducible refine r_in_normal ?_)
  refine r_seq ?_
  refine r_region_q mixed (by kernel_rfl) ?_
  first | refine q_q _ rfl rfl rfl (v_ldW rfl Try.underlying26 rfl inf26 rfl rfl) ?_ | refine q_q _ rfl rfl rfl (v_ldN rfl Try.underlying26 rfl inf26 rfl rfl rfl) ?_ | refine q_q _ rfl rfl rfl (v_loadEN rfl Try.underlying26 rfl inf26 rfl (by omega) rfl rfl rfl) ?_
  first | refine q_q _ rfl rfl rfl (v_ldW rfl Try.underlying26 rfl inf26 rfl rfl) ?_ | refine q_q _ rfl rfl rfl (v_ldN rfl Try.underlying26 rfl inf26 rfl rfl rfl) ?_ | refine q_q _ rfl rfl rfl (v_loadEN rfl Try.underlying26 rfl inf26 rfl (by omega) rfl rfl rfl) ?_
  refine q_q _ rfl rfl rfl (v_move rfl rfl) ?_
  first | refine q_q _ rfl rfl rfl (v_true (OpQ.fn (Heap_v F ro ho rc hc _ hr hh) rfl rfl SubRC.sub) (by omega)) ?_ | refine q_q _ rfl rfl rfl (v_false (OpQ.fn (Heap_v F ro ho rc hc _ hr hh) rfl rfl SubRC.sub) (by omega)) ?_ | refine q_test rfl rfl rfl (OpQ.fn (Heap_v F ro ho rc hc _ hr hh) rfl rfl SubRC.sub) (fun h12 => ?_) (fun h12 => ?_)
  all_goals
    refine q_q _ rfl rfl rfl (v_move rfl rfl) ?_
    first | refine q_gn rfl rfl rfl rfl ?_ | refine q_g _ rfl rfl rfl rfl (v_ldW rfl Try.underlying26 rfl inf26 rfl rfl) ?_ | refine q_g _ rfl rfl rfl rfl (v_ldN rfl Try.underlying26 rfl inf26 rfl rfl rfl) ?_ | refine q_g _ rfl rfl rfl rfl (v_loadEN rfl Try.underlying26 rfl inf26 rfl (by omega) rfl rfl rfl) ?_
    first | refine q_gn rfl rfl rfl rfl ?_ | refine q_g _ rfl rfl rfl rfl (v_ldW rfl Try.underlying27 rfl inf27 rfl rfl) ?_ | refine q_g _ rfl rfl rfl rfl (v_ldN rfl Try.underlying27 rfl inf27 rfl rfl rfl) ?_ | refine q_g _ rfl rfl rfl rfl (v_loadEN rfl Try.underlying27 rfl inf27 rfl (by omega) rfl rfl rfl) ?_
    first | refine q_gn rfl rfl rfl rfl ?_ | refine q_g _ rfl rfl rfl rfl (v_true (OpQ.fn (Plan_v F ro ho rc hc _ _ _ hr hh) rfl rfl SubRC.sub) (by omega)) ?_ | refine q_g _ rfl rfl rfl rfl (v_false (OpQ.fn (Plan_v F ro ho rc hc _ _ _ hr hh) rfl rfl SubRC.sub) (by omega)) ?_ | refine q_gtest rfl rfl rfl rfl (OpQ.fn (Plan_v F ro ho rc hc _ _ _ hr hh) rfl rfl SubRC.sub) (fun h16 => ?_) (fun h16 => ?_)
    all_goals
      first | refine q_q _ rfl rfl rfl (v_pick_t rfl rfl rfl) ?_ | refine q_q _ rfl rfl rfl (v_pick_f rfl rfl rfl) ?_
      refine q_q _ rfl rfl rfl (OpQ.fn (check_v F ro ho rc hc _ hr hh) rfl rfl SubRC.sub) ?_
      refine q_q _ rfl rfl rfl (v_assign rfl rfl) ?_
      refine q_nil ?_
      repeat (first | with_reducible refine r_then ?_ | with_reducible refine r_in_normal ?_)
      refine r_seq ?_
      refine r_seq ?_
      refine r_region ?_
      refine o_q _ rfl rfl rfl (v_move rfl rfl) ?_
      refine o_q _ rfl rfl rfl (v_neq rfl rfl rfl) ?_
      refine o_nil ?_
      repeat (first | with_reducible refine r_then ?_ | with_reducible refine r_in_normal ?_)
      first | refine r_condd rfl (fun hc20 => ?_) (fun hc20 => ?_) | refine r_cond rfl (fun hc20 => ?_) (fun hc20 => ?_)
      ·
        first
        | (exfalso; revert hc20; decide)
        | (exfalso; omega)
        | skip
          refine r_seq ?_
          refine r_region ?_
          refine o_q _ rfl rfl rfl (v_move rfl rfl) ?_
          refine o_q _ rfl rfl rfl (v_assign rfl rfl) ?_
          refine o_q _ rfl rfl rfl (v_assign rfl rfl) ?_
          refine o_nil ?_
          repeat (first | with_reducible refine r_then ?_ | with_reducible refine r_in_normal ?_)
          refine r_ret ?_
          repeat (first | with_reducible refine r_then_ret ?_ | with_reducible refine r_in_ret ?_)
          first
          | (rw [canR_ok hgd (by simp [*])]; exact r_retv2 (Rd.two rfl (RdI.tmp rfl) (RdI.tmp rfl)) rfl SelMC.sel SubRC.sub)
          | (rw [canR_of true (by simp [*]) hc20]; exact r_retv2 (Rd.two rfl (RdI.tmp rfl) (RdI.tmp rfl)) rfl SelMC.sel SubRC.sub)
          | (rw [canR_of false (by simp [*]) hc20]; exact r_retv2 (Rd.two rfl (RdI.tmp rfl) (RdI.tmp rfl)) rfl SelMC.sel SubRC.sub)
      ·
        first
        | (exfalso; revert hc20; decide)
        | (exfalso; omega)
        | skip
          refine r_skip ?_
          repeat (first | with_reducible refine r_then ?_ | with_reducible refine r_in_normal ?_)
          refine r_seq ?_
          obtain ⟨hgd, hb⟩ := chk_zero hc20
          refine r_region ?_
          first | refine o_q _ rfl rfl rfl (v_ldW rfl Try.underlying26 rfl inf26 rfl rfl) ?_ | refine o_q _ rfl rfl rfl (v_ldN rfl Try.underlying26 rfl inf26 rfl rfl rfl) ?_ | refine o_q _ rfl rfl rfl (v_loadEN rfl Try.underlying26 rfl inf26 rfl (by omega) rfl rfl rfl) ?_
          refine o_q _ rfl rfl rfl (v_move rfl rfl) ?_
          first | refine o_q _ rfl rfl rfl (v_ldW rfl Try.underlying27 rfl inf27 rfl rfl) ?_ | refine o_q _ rfl rfl rfl (v_ldN rfl Try.underlying27 rfl inf27 rfl rfl rfl) ?_ | refine o_q _ rfl rfl rfl (v_loadEN rfl Try.underlying27 rfl inf27 rfl (by omega) rfl rfl rfl) ?_
          refine o_q _ rfl rfl rfl (OpQ.fn (kept_v F ro ho rc hc _ _ _ _ (by omega) (by omega) hb (by exact h16.1)) rfl rfl SubRC.sub) ?_
          refine o_q _ rfl rfl rfl (v_assign rfl rfl) ?_
          refine o_q _ rfl rfl rfl (v_assign rfl rfl) ?_
          refine o_nil ?_
          repeat (first | with_reducible refine r_then ?_ | with_reducible refine r_in_normal ?_)
          refine r_ret ?_
          repeat (first | with_reducible refine r_then_ret ?_ | with_reducible refine r_in_ret ?_)
          first
          | (rw [canR_ok hgd (by simp [*])]; exact r_retv2 (Rd.two rfl (RdI.tmp rfl) (RdI.tmp rfl)) rfl SelMC.sel SubRC.sub)
          | (rw [canR_of true (by simp [*]) hc20]; exact r_retv2 (Rd.two rfl (RdI.tmp rfl) (RdI.tmp rfl)) rfl SelMC.sel SubRC.sub)
          | (rw [canR_of false (by simp [*]) hc20]; exact r_retv2 (Rd.two rfl (RdI.tmp rfl) (RdI.tmp rfl)) rfl SelMC.sel SubRC.sub)
end Go.Proofs.Ytienjlmnakbfmaa

namespace Go.G
variable {P : Program} {W : World} {n : Nat} {D : List Deferred} {L : Tm} {M : List Res} {R : List Fact} {Q : Exit → Act → World → Prop} {o : Oper}

/-- v is a slice of m elements (sz cells each) that nobody else holds; cs are their cells. -/
def own (v : Value) (T : TypeId) (sz m : Nat) (cs : List Value) : Res := fun s => cs.length = m * sz ∧
  ((v = .slice none 0 0 ∧ m = 0 ∧ s = []) ∨ ∃ b cap C, v = .slice (some ⟨b, 0, none⟩) m cap ∧ m ≤ cap ∧ cap ≤ maxLen ∧ C.size = cap * sz ∧ C.toList.take (m * sz) = cs ∧ s = [(b, .cells C T (0, 0))])

theorem St.nilOwn {w : World} (h : St W M R w) (T : TypeId) (sz : Nat) : St W (own (.slice none 0 0) T sz 0 [] :: M) R w := by
  obtain ⟨s, hS, hO, hR⟩ := h.mem
  exact ⟨h.os, h.tape, h.output, s, ⟨[], s, rfl, ⟨by simp, .inl ⟨rfl, rfl, rfl⟩⟩, hS⟩, hO, hR⟩
theorem Imp.nilOwn {X : Act → World → Prop} (T : TypeId) (sz : Nat) (h : Imp W n D L (own (.slice none 0 0) T sz 0 [] :: M) R X) : Imp W n D L M R X :=
  fun a w h1 h2 h3 => h a w h1 h2 (h3.nilOwn T sz)

theorem Owns.cell {w : World} {b : Nat} {C : Array Value} {T : TypeId} {fr : Nat × Nat} (h : w.heap[b]? = some (.cells C T fr)) (j : Nat) : w.cell? ((⟨b, 0, none⟩ : Addr).add j) = C[j]? := by
  rw [add_at, Nat.zero_add, cell_of_row w b j C T fr h]

theorem run_append {w : World} {t ty e : TypeId} {i : TypeInfo} {z : Value} {sz m k c : Nat} {v : Value} {cs news : List Value} {a : Addr} {M' : List Res} (h : St W M R w) (ht : P.underlying t = some (.slice e)) (hi : P.info? e = some i) (hz : i.zero = some z) (hsz : i.size = sz) (hzs : z.cells.size = sz)
    (hnews : ∀ j u, news[j]? = some u → w.cell? (a.add j) = some u) (hl : news.length = k * sz) (h1 : ∀ u ∈ news, u.oneCell' = true) (h63 : m + k ≤ maxLen) (hby : (m + k) * i.bytes ≤ 140737488355328) (hM : Del M (own v e sz m cs) M') :
    ∃ v' w', (Builtin.append_ #[t, t] ty #[v, .slice (some a) k c]).run P w = .ok v' w' ∧ St W (own v' e sz (m + k) (cs ++ news) :: M') R w' := by
  subst hsz
  have hsmall : m + k ≤ 9223372036854775807 := by simp only [maxLen] at h63; omega
  have h0 : St W (own v e i.size m cs :: M') R w := h.perm hM.perm
  obtain ⟨s, ho, hO⟩ := h0.res (Upd.of_mem (List.mem_cons_self ..))
  obtain ⟨hlen, hcase⟩ := ho
  have hlen2 : (cs ++ news).length = (m + k) * i.size := by rw [List.length_append, hlen, hl, Nat.add_mul]
  -- a new block
  have grown : ∀ (old : Nat), old < m + k → St W (own (.slice (some ⟨w.heap.size, 0, none⟩) (m + k) (grownCap w (m + k) old e)) e i.size (m + k) (cs ++ news) :: M') R
      (w.drew.alloc (.cells (cs.toArray ++ news.toArray ++ Builtin.zeroCells z.cells (grownCap w (m + k) old e - (m + k))) e)) := by
    intro old hold
    have hge := grownCap_ge w (m + k) old e
    have hcm := grownCap_le_maxLen w (m + k) old e h63
    have hd : St W M' R w.drew := h0.drop.heap rfl rfl rfl rfl
    have hp := hd.push (.cells (cs.toArray ++ news.toArray ++ Builtin.zeroCells z.cells (grownCap w (m + k) old e - (m + k))) e)
    refine hp.replace Upd.here rfl rfl rfl ?_
    intro s' hs' hO'
    refine ⟨s', ⟨hlen2, .inr ⟨w.heap.size, grownCap w (m + k) old e, _, rfl, hge, hcm, ?_, ?_, hs'⟩⟩, hO', fun b hb => .inl hb, fun _ _ _ => rfl⟩
    · simp only [Array.size_append, List.size_toArray, size_zeroCells, hzs, hlen, hl, ← Nat.add_mul]
      congr 1; omega
    · simp only [Array.toList_append, List.append_assoc]
      rw [← List.append_assoc, ← hlen2]
      exact List.take_left
  rcases hcase with ⟨rfl, rfl, rfl⟩ | ⟨b, cap, C, rfl, hmc, hcm, hC, htake, rfl⟩
  · have hx : cs = [] := List.eq_nil_of_length_eq_zero (by simpa using hlen)
    subst hx
    by_cases hk : k = 0
    · subst hk
      have hn : news = [] := List.eq_nil_of_length_eq_zero (by simpa using hl)
      subst hn
      refine ⟨.slice none 0 0, w, ?_, by simpa using h0⟩
      simp [Builtin.append_, run_underlying ht, sizeOf, typeInfo, hi, Builtin.lenOf, Builtin.firstCells, loadCells, loadCellsFrom]
    · have hr := Go.run_append_nil (P := P) w t ty e i z ht hi hz a k c news hl hnews (by omega) (by omega) (by have hb := hby; simp only [Nat.zero_add] at hb; omega)
      have hgr := grown 0 (by omega)
      simp only [Nat.zero_add, List.nil_append, Array.empty_append] at hgr ⊢
      exact ⟨_, _, hr, hgr⟩
  · have hb : w.heap[b]? = some (.cells C e (0, 0)) := hO.at_ (b, _) (by simp)
    by_cases hroom : m + k ≤ cap
    · have hfit : m * i.size + news.length ≤ C.size := by rw [hl, hC, ← Nat.add_mul]; exact Nat.mul_le_mul_right _ hroom
      have hr := run_append_room (P := P) w t ty e i ht hi b m cap C hb a k c news hl hnews h1 hroom hfit
      refine ⟨_, _, hr, ?_⟩
      refine h0.replace Upd.here rfl rfl rfl ?_
      rintro s' ⟨_, hc'⟩ hO'
      have hs' : s' = [(b, .cells C e (0, 0))] := by
        rcases hc' with ⟨hv, _⟩ | ⟨b', cap', C', hv, _, _, _, _, hs''⟩
        · cases hv
        · simp only [Value.slice.injEq, Option.some.injEq, Addr.mk.injEq] at hv
          obtain ⟨⟨rfl, _, _⟩, _, rfl⟩ := hv
          subst hs''
          have := hO'.at_ (b, .cells C' e (0, 0)) (by simp)
          simp only at this
          rw [hb] at this
          simp only [Option.some.injEq, Obj.cells.injEq] at this
          rw [this.1]
      subst hs'
      refine ⟨[(b, .cells (C.toList.take (m * i.size) ++ news ++ C.toList.drop (m * i.size + news.length)).toArray e (0, 0))], ⟨hlen2, .inr ⟨b, cap, _, rfl, hroom, hcm, ?_, ?_, rfl⟩⟩, ⟨by simp [keys], ?_⟩, ?_, ?_⟩
      · simp only [List.size_toArray, List.length_append, List.length_take, List.length_drop, Array.length_toList]
        omega
      · rw [htake, ← hlen2]
        exact List.take_left
      · intro p hp
        simp only [List.mem_singleton] at hp
        subst hp
        exact setRow_heap w b C _ e _ hb
      · intro x hx; exact .inl (by simpa [keys] using hx)
      · intro x _ hx
        exact setRow_other w b x _ (by simpa [keys] using hx)
    · have holds : ∀ j u, cs[j]? = some u → w.cell? ((⟨b, 0, none⟩ : Addr).add j) = some u := by
        intro j u hu
        rw [Owns.cell hb]
        rw [← htake, List.getElem?_take] at hu
        split at hu
        · simpa using hu
        · cases hu
      have hr := run_append_grow (P := P) w t ty e i z ht hi hz ⟨b, 0, none⟩ m cap cs hlen holds a k c news hl hnews (by omega) (by omega) (growslice_fits (by omega) hby)
      exact ⟨_, _, hr, grown cap (by omega)⟩

/-- 'append(s, literal)'. -/
theorem o_append {ops : Array Oper} {rest : List Oper} {s x : Operand} {t e B : TypeId} {i : TypeInfo} {z : Value} {sz m k c d b : Nat} {v : Value} {cs news : List Value} {M' : List Res} (ho : o.op = .call { callee := .builtin .append, args := #[s, x], argTypes := #[t, t] })
    (ht : P.underlying t = some (.slice e)) (hi : P.info? e = some i) (hz : i.zero = some z) (hsz : i.size = sz) (hzs : z.cells.size = sz) (hg : o.guard = none) (hdst : o.dst = some d) (hd : Nat.blt d n = true)
    (hs : ev L s = some v) (hx : ev L x = some (.slice (some ⟨b, 0, none⟩) k c)) [hm : HasBox b M B news] [hM : DelC M (own v e sz m cs) M'] (hl : news.length = k * sz) (h1 : oneCells news = true) (h63 : m + k ≤ maxLen) (hby : (m + k) * i.bytes ≤ 140737488355328)
    (h : ∀ v', Imp W n D ((d, v') :: L) (own v' e sz (m + k) (cs ++ news) :: M') R (wpList P ops Q rest)) : Imp W n D L M R (wpList P ops Q (o :: rest)) := by
  intro a w g1 g2 g3
  refine wpList_plain hg fun K hK => ?_
  unfold Oper.wp
  obtain ⟨v', w', hr, hw'⟩ := run_append (P := P) (ty := o.type) (c := c) g3 ht hi hz hsz hzs (fun j u hu => by rw [add_at, g3.cell hm.mem, Nat.zero_add]; exact hu) hl (oneCells_mem h1) h63 hby hM.del
  have hrun : (execOp a.eval o).run P w = .ok (.value v') w' := by
    unfold execOp
    simp only [ho, resolve, invoke, builtin, Sem.run_bind, Sem.run_pure, Result.andThen_ok, List.map_toArray, List.map_cons, List.map_nil, g1.ev hs, g1.ev hx, hr]
  rw [hrun, Oper.upon_value, hdst]
  exact hK _ _ (h v' _ w' (g1.put (by simpa using hd) v') (by rw [put_defers]; exact g2) hw')

/-- A literal's array. -/
theorem o_lit {ops : Array Oper} {rest : List Oper} {t e : TypeId} {ps : List (Nat × Operand)} {vs : List Value} {len : Nat} {i : TypeInfo} {z : Value} {cs : List Value} {d : Nat} (ho : o.op = .buildSlice t len ps.toArray) (ht : P.underlying t = some (.slice e)) (hi : P.info? e = some i) (hz : i.zero = some z)
    (hbig : Nat.ble (len * i.size) 16777216 = true) (hpos : Nat.beq (len * i.size) 0 = false) (hg : o.guard = none) (hdst : o.dst = some d) (hd : Nat.blt d n = true)
    (hx : evs L (ps.map (·.2)) = some vs) (hk : ps.map (·.1) = List.range ps.length) (hp : PlaceOK (fun k => some (k * i.size, i.size)) 0 0 vs) [hc : CatC vs cs] (hl : cs.length = len * i.size)
    (h : ∀ b, Imp W n D ((d, .slice (some ⟨b, 0, none⟩) len len) :: L) (bx b e cs :: M) R (wpList P ops Q rest)) : Imp W n D L M R (wpList P ops Q (o :: rest)) := by
  intro a w g1 g2 g3
  refine wpList_plain hg fun K hK => ?_
  unfold Oper.wp
  have hu := parts_eq g1 hx hk
  have hb1 : ¬ (2 ^ 24 < len * i.size) := by have : len * i.size ≤ 16777216 := by simpa using hbig
                                             omega
  have hb2 : ¬ (len * i.size = 0) := fun e => by rw [e] at hpos; cases hpos
  have hf := fill_all (cells := (Array.range (len * i.size)).map (fun k => z.cells[k % z.cells.size]!)) hp hc.cat (by simpa using hl)
  have hrun : (execOp a.eval o).run P w = .ok (.value (.slice (some ⟨w.heap.size, 0, none⟩) len len)) (w.alloc (.cells cs.toArray e)) := by
    simp only [execOp, ho, Instr.buildSlice, Sem.run_bind, run_underlying ht, run_sizeOf' hi, Result.andThen_ok, gt_iff_lt, hb1, hb2, if_false, run_zeroValue' hi hz, Sem.run_pure, List.map_toArray, hu, hf]
    simp [newRow, newObj, Sem.run]
  rw [hrun, Oper.upon_value, hdst]
  exact hK _ _ (h w.heap.size _ _ (g1.put (by simpa using hd) _) (by rw [put_defers]; exact g2) (g3.push _))

/-! ### known for good -/
def adr : Value → Option Addr
  | .slice a _ _ => a
  | _ => none
def isSl (m : Nat) (v : Value) : Prop := ∃ oa cap, v = .slice oa m cap
theorem own_isSl {v : Value} {T : TypeId} {sz m : Nat} {cs : List Value} {s : Sub} (h : own v T sz m cs s) : isSl m v := by
  obtain ⟨_, ⟨rfl, rfl, _⟩ | ⟨b, cap, C, rfl, _⟩⟩ := h
  · exact ⟨_, _, rfl⟩
  · exact ⟨_, _, rfl⟩
theorem flat_at {α : Type} {enc : α → List Value} {sz : Nat} (henc : ∀ x, (enc x).length = sz) : ∀ (xs : List α) (i j : Nat) (h : i < xs.length), j < sz → (xs.flatMap enc)[i * sz + j]? = (enc xs[i])[j]?
  | [], i, j, h, _ => by simp at h
  | x :: r, 0, j, _, hj => by
    simp only [List.flatMap_cons, Nat.zero_mul, Nat.zero_add, List.getElem_cons_zero]
    rw [List.getElem?_append_left (by rw [henc]; exact hj)]
  | x :: r, i + 1, j, h, hj => by
    simp only [List.flatMap_cons, List.getElem_cons_succ]
    rw [List.getElem?_append_right (by rw [henc, Nat.add_mul]; omega), henc, show (i + 1) * sz + j - sz = i * sz + j from by rw [Nat.add_mul]; omega]
    exact flat_at henc r i j (by simpa using h) hj
theorem sealed_row {α : Type} {enc : α → List Value} {sz : Nat} (henc : ∀ x, (enc x).length = sz) {v : Value} {T : TypeId} {m : Nat} {xs : List α} {V : View} (h : sealed (own v T sz m (xs.flatMap enc)) V) (hm : m = xs.length) : rowD (adr v) sz enc xs V := by
  obtain ⟨s, ⟨_, hcase⟩, hs⟩ := h
  rcases hcase with ⟨rfl, h0, _⟩ | ⟨b, cap, C, rfl, hmc, _, hC, htake, rfl⟩
  · left
    exact List.eq_nil_of_length_eq_zero (by omega)
  · right
    refine ⟨b, 0, C, T, (0, 0), rfl, hs (b, _) (by simp), fun i j hi hj => ?_⟩
    rw [← flat_at henc xs i j hi hj, ← htake, List.getElem?_take, if_pos]
    · simp
    · have : (i + 1) * sz ≤ m * sz := Nat.mul_le_mul_right _ (by omega)
      rw [Nat.add_mul] at this; omega
/-- An owned slice is handed over for good. -/
theorem Imp.settle {α : Type} {enc : α → List Value} {sz : Nat} {v : Value} {T : TypeId} {m : Nat} {cs : List Value} {M' : List Res} {X : Act → World → Prop} (xs : List α) (henc : ∀ x, (enc x).length = sz) (hcs : cs = xs.flatMap enc) (hm : m = xs.length) [hd : DelC M (own v T sz m cs) M']
    (h : isSl m v → Imp W n D L M' (rowD (adr v) sz enc xs :: R) X) : Imp W n D L M R X := by
  subst hcs
  intro a w h1 h2 h3
  have h4 : St W (own v T sz m (xs.flatMap enc) :: M') R w := h3.perm hd.del.perm
  obtain ⟨s, hs, _⟩ := h4.res (Upd.of_mem (List.mem_cons_self ..))
  refine h (own_isSl hs) a w h1 h2 ?_
  refine (h4.seal_.derive (ψ := rowD (adr v) sz enc xs) fun V hV => sealed_row henc (hV (sealed (own v T sz m (xs.flatMap enc))) (by simp)) hm).weak ?_
  intro φ hφ
  rcases List.mem_cons.1 hφ with rfl | hφ
  · simp
  · simp [hφ]

/-! ### owned slices, as lists -/
def ownL {α : Type} (v : Value) (T : TypeId) (sz : Nat) (enc : α → List Value) (xs : List α) : Res := own v T sz xs.length (xs.flatMap enc)
class HasOwn {α : outParam Type} (v : Value) (M : List Res) (T : outParam TypeId) (sz : outParam Nat) (enc : outParam (α → List Value)) (xs : outParam (List α)) (M' : outParam (List Res)) : Prop where
  del : Del M (ownL v T sz enc xs) M'
instance HasOwn.head {α : Type} {v : Value} {M : List Res} {T : TypeId} {sz : Nat} {enc : α → List Value} {xs : List α} : HasOwn v (ownL v T sz enc xs :: M) T sz enc xs M := ⟨Del.here⟩
instance HasOwn.tail {α : Type} {v : Value} {r : Res} {M M' : List Res} {T : TypeId} {sz : Nat} {enc : α → List Value} {xs : List α} [h : HasOwn v M T sz enc xs M'] : HasOwn v (r :: M) T sz enc xs (r :: M') := ⟨Del.there h.del⟩
section
variable {α : Type} {enc : α → List Value} {sz : Nat} {T : TypeId} {v : Value} {xs : List α} {M' : List Res}
theorem Imp.nilL {X : Act → World → Prop} (T : TypeId) (sz : Nat) (enc : α → List Value) (h : Imp W n D L (ownL (.slice none 0 0) T sz enc [] :: M) R X) : Imp W n D L M R X := Imp.nilOwn T sz h
theorem Imp.own_to {X : Act → World → Prop} (v : Value) [hd : HasOwn v M T sz enc xs M'] (ys : List α) (e : xs = ys) (h : Imp W n D L (ownL v T sz enc ys :: M') R X) : Imp W n D L M R X := by
  subst e
  exact fun a w h1 h2 h3 => h a w h1 h2 (h3.perm hd.del.perm)
/-- An owned slice is a slice of its length. -/
theorem Imp.own_is {X : Act → World → Prop} (v : Value) [hd : HasOwn v M T sz enc xs M'] (h : isSl xs.length v → Imp W n D L M R X) : Imp W n D L M R X := by
  intro a w h1 h2 h3
  have h4 : St W (ownL v T sz enc xs :: M') R w := h3.perm hd.del.perm
  obtain ⟨s, hs, _⟩ := h4.res (Upd.of_mem (List.mem_cons_self ..))
  exact h (own_isSl hs) a w h1 h2 h3
theorem Imp.settleL {X : Act → World → Prop} (v : Value) [hd : HasOwn v M T sz enc xs M'] (henc : ∀ x, (enc x).length = sz) (h : isSl xs.length v → Imp W n D L M' (rowD (adr v) sz enc xs :: R) X) : Imp W n D L M R X := by
  intro a w h1 h2 h3
  have h4 : St W (own v T sz xs.length (xs.flatMap enc) :: M') R w := h3.perm hd.del.perm
  obtain ⟨s, hs, _⟩ := h4.res (Upd.of_mem (List.mem_cons_self ..))
  refine h (own_isSl hs) a w h1 h2 ?_
  refine (h4.seal_.derive (ψ := rowD (adr v) sz enc xs) fun V hV => sealed_row henc (hV (sealed (own v T sz xs.length (xs.flatMap enc))) (by simp)) rfl).weak ?_
  intro φ hφ
  rcases List.mem_cons.1 hφ with rfl | hφ
  · simp
  · simp [hφ]
/-- 'append(s, x)'. -/
theorem o_app1 {ops : Array Oper} {rest : List Oper} {s x : Operand} {t e B : TypeId} {i : TypeInfo} {z : Value} {c d b : Nat} {news : List Value} [hM : HasOwn v M e sz enc xs M'] [hm : HasBox b M B news] (y : α) (ho : o.op = .call { callee := .builtin .append, args := #[s, x], argTypes := #[t, t] })
    (ht : P.underlying t = some (.slice e)) (hi : P.info? e = some i) (hz : i.zero = some z) (hsz : i.size = sz) (hzs : z.cells.size = sz) (hg : o.guard = none) (hdst : o.dst = some d) (hd : Nat.blt d n = true)
    (hs : ev L s = some v) (hx : ev L x = some (.slice (some ⟨b, 0, none⟩) 1 c)) (hy : news = enc y) (hl : news.length = sz) (h1 : oneCells news = true) (hbd : xs.length ≤ 1000000 ∧ i.bytes ≤ 1000000)
    (h : ∀ v', Imp W n D ((d, v') :: L) (ownL v' e sz enc (xs ++ [y]) :: M') R (wpList P ops Q rest)) : Imp W n D L M R (wpList P ops Q (o :: rest)) := by
  subst hy
  haveI : DelC M (own v e sz xs.length (xs.flatMap enc)) M' := ⟨hM.del⟩
  refine o_append (k := 1) (m := xs.length) (cs := xs.flatMap enc) (news := enc y) (M' := M') ho ht hi hz hsz hzs hg hdst hd hs hx (by simpa using hl) h1 (by simp only [maxLen]; omega) ?_ ?_
  · have : (xs.length + 1) * i.bytes ≤ 1000001 * 1000000 := Nat.mul_le_mul (by omega) hbd.2
    omega
  · intro v'
    have := h v'
    unfold ownL at this
    simpa using this
end
end Go.G

namespace Go.Proofs.Ytienjlmnakbfmaa
open Go.G Foot4
set_option maxRecDepth 1000000
set_option maxHeartbeats 4000000 in
theorem whole_r (F : Work) (ro ho : Option Addr) (rc hc : Nat) (hr : F.rain.length ≤ 8) : FnR Try.prog 64 [valF F ro rc ho hc] [rowD ro 2 encS F.rain, rowD ho 3 encH F.heaps] (isSl (whole F.rain.length).length) (fun v => [rowD (adr v) 3 encT (whole F.rain.length)]) := by
  refine FnR.intro Try.call64 Try.func64 rfl Try.ntmps64 rfl ?_
  intro W M Rf
  refine r_seq ?_
  refine r_region ?_
  refine o_boxA rfl rfl rfl rfl rfl (fun b1 => ?_)
  refine o_q _ rfl rfl rfl (v_assign rfl rfl) ?_
  refine o_nil ?_
  repeat (first | with_reducible refine r_then ?_ | with_reducible refine r_in_normal ?_)
  refine r_seq ?_
  refine r_region ?_
  refine o_q _ rfl rfl rfl (v_assign rfl rfl) ?_
  refine o_nil ?_
  repeat (first | with_reducible refine r_then ?_ | with_reducible refine r_in_normal ?_)
  refine r_seq ?_
  refine r_seq ?_
  refine Imp.nilL 27 3 encT ?_
  refine r_region ?_
  refine o_q _ rfl rfl rfl (v_assign rfl rfl) ?_
  refine o_nil ?_
  repeat (first | with_reducible refine r_then ?_ | with_reducible refine r_in_normal ?_)
  refine r_block ?_
  refine r_loop (ι := Nat × Value) (fun gh => gh.1 ≤ F.rain.length) (fun gh => [(1, pt b1 0), (3, gh.2), (4, i64 gh.1)]) (fun gh => ownL gh.2 27 3 encT (wholeA F.rain.length gh.1) :: bx b1 26 (cellsF F ro rc ho hc) :: M) (fun gh => [rowD ro 2 encS F.rain, rowD ho 3 encH F.heaps] ++ Rf) (fun gh => F.rain.length - gh.1) (0, .slice none 0 0) ?_ ?_ ?_
  ·
    refine Imp.own_to (.slice none 0 0) (wholeA F.rain.length 0) (by rfl) ?_
    exact r_here (by repeat (first | exact FSub.nil | refine FSub.cons rfl ?_)) SelMC.sel SubRC.sub
  ·
    exact Nat.zero_le _
  ·
    rintro ⟨k1, v⟩ hI0
    dsimp only at hI0
    dsimp only
    refine r_seq ?_
    refine r_seq ?_
    refine r_region ?_
    refine o_q _ rfl rfl rfl (v_move rfl rfl) ?_
    first | refine o_q _ rfl rfl rfl (v_fieldAddr rfl Try.underlying26 inf22 rfl rfl rfl rfl) ?_ | refine o_q _ rfl rfl rfl (v_fieldAddrE rfl Try.underlying26 inf22 rfl rfl rfl rfl) ?_
    first | refine o_q _ rfl rfl rfl (v_ld1 rfl Try.underlying22 rfl rfl rfl) ?_ | refine o_q _ rfl rfl rfl (v_loadE1 rfl Try.underlying22 rfl rfl (by omega) rfl rfl) ?_
    refine o_q _ rfl rfl rfl (v_len rfl rfl Try.underlying22 rfl) ?_
    refine o_q _ rfl rfl rfl (v_lss rfl rfl rfl) ?_
    refine o_nil ?_
    repeat (first | with_reducible refine r_then ?_ | with_reducible refine r_in_normal ?_)
    first | refine r_condd rfl (fun hc11 => ?_) (fun hc11 => ?_) | refine r_cond rfl (fun hc11 => ?_) (fun hc11 => ?_)
    ·
      first
      | (exfalso; revert hc11; decide)
      | (exfalso; omega)
      | skip
        refine r_skip ?_
        repeat (first | with_reducible refine r_then ?_ | with_reducible refine r_in_normal ?_)
        refine r_seq ?_
        refine r_block ?_
        refine r_seq ?_
        refine r_region ?_
        refine o_q _ rfl rfl rfl (v_move rfl rfl) ?_
        refine o_q _ rfl rfl rfl (v_add rfl rfl rfl (by omega)) ?_
        refine o_q _ rfl rfl rfl (v_assign rfl rfl) ?_
        refine o_nil ?_
        repeat (first | with_reducible refine r_then ?_ | with_reducible refine r_in_normal ?_)
        refine r_block ?_
        refine r_loop (ι := Nat × Value) (fun gh => k1 < gh.1 ∧ gh.1 ≤ max F.rain.length (k1 + 1)) (fun gh => [(1, pt b1 0), (3, gh.2), (4, i64 k1), (5, i64 gh.1)]) (fun gh => ownL gh.2 27 3 encT (wholeB F.rain.length k1 gh.1) :: bx b1 26 (cellsF F ro rc ho hc) :: M) (fun gh => [rowD ro 2 encS F.rain, rowD ho 3 encH F.heaps] ++ Rf) (fun gh => F.rain.length - gh.1) (k1 + 1, v) ?_ ?_ ?_
        ·
          refine Imp.own_to v (wholeB F.rain.length k1 (k1 + 1)) (by exact wholeB_0) ?_
          exact r_here (by repeat (first | exact FSub.nil | refine FSub.cons rfl ?_)) SelMC.sel SubRC.sub
        ·
          show k1 < k1 + 1 ∧ k1 + 1 ≤ _; omega
        ·
          rintro ⟨k2, v2⟩ hI1
          dsimp only at hI1
          dsimp only
          refine r_seq ?_
          refine r_seq ?_
          refine r_region ?_
          refine o_q _ rfl rfl rfl (v_move rfl rfl) ?_
          first | refine o_q _ rfl rfl rfl (v_fieldAddr rfl Try.underlying26 inf22 rfl rfl rfl rfl) ?_ | refine o_q _ rfl rfl rfl (v_fieldAddrE rfl Try.underlying26 inf22 rfl rfl rfl rfl) ?_
          first | refine o_q _ rfl rfl rfl (v_ld1 rfl Try.underlying22 rfl rfl rfl) ?_ | refine o_q _ rfl rfl rfl (v_loadE1 rfl Try.underlying22 rfl rfl (by omega) rfl rfl) ?_
          refine o_q _ rfl rfl rfl (v_len rfl rfl Try.underlying22 rfl) ?_
          refine o_q _ rfl rfl rfl (v_lss rfl rfl rfl) ?_
          refine o_nil ?_
          repeat (first | with_reducible refine r_then ?_ | with_reducible refine r_in_normal ?_)
          first | refine r_condd rfl (fun hc20 => ?_) (fun hc20 => ?_) | refine r_cond rfl (fun hc20 => ?_) (fun hc20 => ?_)
          ·
            first
            | (exfalso; revert hc20; decide)
            | (exfalso; omega)
            | skip
              refine r_skip ?_
              repeat (first | with_reducible refine r_then ?_ | with_reducible refine r_in_normal ?_)
              refine r_seq ?_
              refine r_block ?_
              refine r_seq ?_
              refine r_region ?_
              refine o_q _ rfl rfl rfl (v_move rfl rfl) ?_
              refine o_q _ rfl rfl rfl (v_add rfl rfl rfl (by omega)) ?_
              refine o_q _ rfl rfl rfl (v_assign rfl rfl) ?_
              refine o_nil ?_
              repeat (first | with_reducible refine r_then ?_ | with_reducible refine r_in_normal ?_)
              refine r_block ?_
              refine r_loop (ι := Nat × Value) (fun gh => k2 < gh.1 ∧ gh.1 ≤ max F.rain.length (k2 + 1)) (fun gh => [(1, pt b1 0), (3, gh.2), (4, i64 k1), (5, i64 k2), (6, i64 gh.1)]) (fun gh => ownL gh.2 27 3 encT (wholeC F.rain.length k1 k2 gh.1) :: bx b1 26 (cellsF F ro rc ho hc) :: M) (fun gh => [rowD ro 2 encS F.rain, rowD ho 3 encH F.heaps] ++ Rf) (fun gh => F.rain.length - gh.1) (k2 + 1, v2) ?_ ?_ ?_
              ·
                refine Imp.own_to v2 (wholeC F.rain.length k1 k2 (k2 + 1)) (by exact wholeC_0) ?_
                exact r_here (by repeat (first | exact FSub.nil | refine FSub.cons rfl ?_)) SelMC.sel SubRC.sub
              ·
                show k2 < k2 + 1 ∧ k2 + 1 ≤ _; omega
              ·
                rintro ⟨k3, v3⟩ hI2
                dsimp only at hI2
                dsimp only
                have hwl := wholeC_len (n := F.rain.length) (a := k1) (b := k2) (c := k3) (by omega) (by omega) (by omega) (by omega)
                refine r_seq ?_
                refine r_seq ?_
                refine r_region ?_
                refine o_q _ rfl rfl rfl (v_move rfl rfl) ?_
                first | refine o_q _ rfl rfl rfl (v_fieldAddr rfl Try.underlying26 inf22 rfl rfl rfl rfl) ?_ | refine o_q _ rfl rfl rfl (v_fieldAddrE rfl Try.underlying26 inf22 rfl rfl rfl rfl) ?_
                first | refine o_q _ rfl rfl rfl (v_ld1 rfl Try.underlying22 rfl rfl rfl) ?_ | refine o_q _ rfl rfl rfl (v_loadE1 rfl Try.underlying22 rfl rfl (by omega) rfl rfl) ?_
                refine o_q _ rfl rfl rfl (v_len rfl rfl Try.underlying22 rfl) ?_
                refine o_q _ rfl rfl rfl (v_lss rfl rfl rfl) ?_
                refine o_nil ?_
                repeat (first | with_reducible refine r_then ?_ | with_reducible refine r_in_normal ?_)
                first | refine r_condd rfl (fun hc29 => ?_) (fun hc29 => ?_) | refine r_cond rfl (fun hc29 => ?_) (fun hc29 => ?_)
                ·
                  first
                  | (exfalso; revert hc29; decide)
                  | (exfalso; omega)
                  | skip
                    refine r_skip ?_
                    repeat (first | with_reducible refine r_then ?_ | with_reducible refine r_in_normal ?_)
                    refine r_seq ?_
                    refine r_block ?_
                    refine r_region ?_
                    refine o_q _ rfl rfl rfl (v_move rfl rfl) ?_
                    refine o_q _ rfl rfl rfl (v_move rfl rfl) ?_
                    refine o_q _ rfl rfl rfl (v_move rfl rfl) ?_
                    refine o_q _ rfl rfl rfl (v_move rfl rfl) ?_
                    refine o_q _ rfl rfl rfl (v_bA rfl Try.underlying27 inf27 inf3 rfl rfl rfl (by repeat (first | exact trivial | refine ⟨rfl, ?_⟩)) (by rfl)) ?_
                    refine o_lit rfl Try.underlying40 inf27 rfl rfl rfl rfl rfl rfl rfl rfl (by repeat (first | exact trivial | refine ⟨rfl, ?_⟩)) (by rfl) (fun b37 => ?_)
                    refine o_app1 (⟨k1, k2, k3⟩) rfl Try.underlying40 inf27 rfl (by rfl) (by rfl) rfl rfl rfl rfl rfl (by rfl) (by rfl) (by rfl) (by first | omega | (constructor <;> first | omega | decide)) (fun v38 => ?_)
                    refine o_q _ rfl rfl rfl (v_assign rfl rfl) ?_
                    refine o_nil ?_
                    repeat (first | with_reducible refine r_then ?_ | with_reducible refine r_in_normal ?_)
                    refine r_region ?_
                    refine o_q _ rfl rfl rfl (v_move rfl rfl) ?_
                    refine o_q _ rfl rfl rfl (v_add rfl rfl rfl (by omega)) ?_
                    refine o_q _ rfl rfl rfl (v_assign rfl rfl) ?_
                    refine o_nil ?_
                    repeat (first | with_reducible refine r_then ?_ | with_reducible refine r_in_normal ?_)
                    refine r_next (k3 + 1, v38) ?_ ?_ ?_
                    ·
                      refine Imp.own_to v38 (wholeC F.rain.length k1 k2 (k3 + 1)) (by exact (wholeC_step (by omega)).symm) ?_
                      exact r_here (by repeat (first | exact FSub.nil | refine FSub.cons rfl ?_)) SelMC.sel SubRC.sub
                    ·
                      show k2 < k3 + 1 ∧ k3 + 1 ≤ _; omega
                    ·
                      show F.rain.length - (k3 + 1) < F.rain.length - k3; omega
                ·
                  first
                  | (exfalso; revert hc29; decide)
                  | (exfalso; omega)
                  | skip
                    refine r_exit ?_
                    repeat (first | with_reducible refine r_then_exit ?_ | with_reducible refine r_in_here ?_ | (with_reducible refine r_in_past (by decide) ?_) | with_reducible refine r_then ?_ | with_reducible refine r_in_normal ?_)
                    refine r_region ?_
                    refine o_q _ rfl rfl rfl (v_move rfl rfl) ?_
                    refine o_q _ rfl rfl rfl (v_add rfl rfl rfl (by omega)) ?_
                    refine o_q _ rfl rfl rfl (v_assign rfl rfl) ?_
                    refine o_nil ?_
                    repeat (first | with_reducible refine r_then ?_ | with_reducible refine r_in_normal ?_)
                    refine r_next (k2 + 1, v3) ?_ ?_ ?_
                    ·
                      refine Imp.own_to v3 (wholeB F.rain.length k1 (k2 + 1)) (by rw [← wholeB_step (by omega)]; congr 1; omega) ?_
                      exact r_here (by repeat (first | exact FSub.nil | refine FSub.cons rfl ?_)) SelMC.sel SubRC.sub
                    ·
                      show k1 < k2 + 1 ∧ k2 + 1 ≤ _; omega
                    ·
                      show F.rain.length - (k2 + 1) < F.rain.length - k2; omega
          ·
            first
            | (exfalso; revert hc20; decide)
            | (exfalso; omega)
            | skip
              refine r_exit ?_
              repeat (first | with_reducible refine r_then_exit ?_ | with_reducible refine r_in_here ?_ | (with_reducible refine r_in_past (by decide) ?_) | with_reducible refine r_then ?_ | with_reducible refine r_in_normal ?_)
              refine r_region ?_
              refine o_q _ rfl rfl rfl (v_move rfl rfl) ?_
              refine o_q _ rfl rfl rfl (v_add rfl rfl rfl (by omega)) ?_
              refine o_q _ rfl rfl rfl (v_assign rfl rfl) ?_
              refine o_nil ?_
              repeat (first | with_reducible refine r_then ?_ | with_reducible refine r_in_normal ?_)
              refine r_next (k1 + 1, v2) ?_ ?_ ?_
              ·
                refine Imp.own_to v2 (wholeA F.rain.length (k1 + 1)) (by rw [← wholeA_step]; congr 1; omega) ?_
                exact r_here (by repeat (first | exact FSub.nil | refine FSub.cons rfl ?_)) SelMC.sel SubRC.sub
              ·
                show k1 + 1 ≤ _; omega
              ·
                show F.rain.length - (k1 + 1) < F.rain.length - k1; omega
    ·
      first
      | (exfalso; revert hc11; decide)
      | (exfalso; omega)
      | skip
        refine r_exit ?_
        repeat (first | with_reducible refine r_then_exit ?_ | with_reducible refine r_in_here ?_ | (with_reducible refine r_in_past (by decide) ?_) | with_reducible refine r_then ?_ | with_reducible refine r_in_normal ?_)
        refine r_seq ?_
        refine r_region ?_
        refine o_q _ rfl rfl rfl (v_move rfl rfl) ?_
        refine o_q _ rfl rfl rfl (v_assign rfl rfl) ?_
        refine o_nil ?_
        repeat (first | with_reducible refine r_then ?_ | with_reducible refine r_in_normal ?_)
        refine r_ret ?_
        repeat (first | with_reducible refine r_then_ret ?_ | with_reducible refine r_in_ret ?_)
        refine Imp.own_to v (whole F.rain.length) (by unfold whole wholeA; congr 2; omega) ?_
        refine Imp.settleL v encT_len (fun hsl => ?_)
        exact r_retr (Rd.tmp rfl rfl) hsl SelMC.sel SubRC.sub
end Go.Proofs.Ytienjlmnakbfmaa

namespace Go.G
variable {P : Program} {W : World} {n : Nat} {D : List Deferred} {L : Tm} {M : List Res} {R : List Fact} {Q : Exit → Act → World → Prop} {o : Oper}

theorem r_scope {c : Code} (h : Imp W n D L M R (c.wp P (Exit.noGoto Q))) : Imp W n D L M R ((Code.scope c).wp P Q) := h.mono fun _ _ => wp_scope_straight
theorem r_sc_normal (h : Imp W n D L M R (Q .normal)) : Imp W n D L M R (Exit.noGoto Q .normal) := h
theorem r_sc_exit {id : Nat} (h : Imp W n D L M R (Q (.exit id))) : Imp W n D L M R (Exit.noGoto Q (.exit id)) := h
theorem r_sc_ret (h : Imp W n D L M R (Q .ret)) : Imp W n D L M R (Exit.noGoto Q .ret) := h
theorem r_sc_panic {c : List PanicEntry} (h : Imp W n D L M R (Q (.panic c))) : Imp W n D L M R (Exit.noGoto Q (.panic c)) := h

/-! ### interfaces' methods -/
def ptrD (d : TypeDesc) : Bool := match d with | .pointer _ => true | _ => false
/-- The dynamic type has the method, its own, on values. -/
structure HasM (P : Program) (t : TypeId) (name : String) (f : FuncId) : Prop where
  ok : ∃ (i : TypeInfo) (m : Method) (d : TypeDesc), P.info? t = some i ∧ i.methods.find? (·.name == name) = some m ∧ m.path.toList = [] ∧ m.func = some (f, false) ∧ P.underlying t = some d ∧ ptrD d = false
def hasM (i : TypeInfo) (name : String) (f : FuncId) : Bool :=
  match i.methods.find? (·.name == name) with
  | some m => m.path.toList.isEmpty && m.func == some (f, false)
  | none => false
theorem HasM.mk' {t : TypeId} {name : String} {f : FuncId} {i : TypeInfo} {d : TypeDesc} (h1 : P.info? t = some i) (h2 : hasM i name f = true) (h5 : P.underlying t = some d) (h6 : ptrD d = false) : HasM P t name f := by
  unfold hasM at h2
  split at h2
  · rename_i m hm
    simp only [Bool.and_eq_true, beq_iff_eq, List.isEmpty_iff] at h2
    exact ⟨⟨i, m, d, h1, hm, h2.1, h2.2, h5, h6⟩⟩
  · cases h2
theorem run_method_direct {t : TypeId} {name : String} {f : FuncId} (h : HasM P t name f) (k : Nat) (v : Value) (w : World) : (method (k + 1) t v name).run P w = .ok (f, v) w := by
  obtain ⟨i, m, d, h1, h2, h3, h4, h5, h6⟩ := h.ok
  unfold method
  have hti := run_typeInfo (P := P) (w := w) h1
  simp only [Sem.run_bind, hti, Result.andThen_ok, h2, h3, follow, Sem.run_pure, h4, receiverAt, run_underlying h5]
  cases d <;> first | (simp [ptrD] at h6; done) | (show ((Sem.run P (pure v) w).andThen _) = _; simp [Sem.run_pure, Result.andThen_ok])
theorem run_nilAhead_direct {t : TypeId} {name : String} {f : FuncId} (h : HasM P t name f) (k : Nat) (v : Value) (w : World) : (nilAhead (k + 1) t v name).run P w = .ok (some false) w := by
  obtain ⟨i, m, d, h1, h2, h3, h4, h5, h6⟩ := h.ok
  unfold nilAhead
  have hti := run_typeInfo (P := P) (w := w) h1
  simp only [Sem.run_bind, hti, Result.andThen_ok, h2, h3, followBlind, Sem.run_pure, h4, run_underlying h5]
  cases d <;> first | (simp [ptrD] at h6; done) | (show (Sem.run P (pure (some false)) w) = _; simp [Sem.run_pure])
theorem run_program (w : World) : Sem.run P program w = .ok P w := rfl
theorem v_nilCheckM {x : Operand} {t : TypeId} {v : Value} {name : String} {f : FuncId} {cs : Array Value} (hm : HasM P t name f) (ho : o.op = .nilCheck x) (hx : ev L x = some (.func (.method name) #[.iface t v] cs)) : OpQ P W n L M R o (.func (.method name) #[.iface t v] cs) :=
  OpQ.of_value fun g w h1 _ => by
    have e := h1.ev hx
    unfold execOp
    simp only [ho, e]
    have : ∀ k, Sem.run P (nilAhead (k + Made.depth) t v name) w = .ok (some false) w := fun k => by
      obtain ⟨m, hmm⟩ : ∃ m, k + Made.depth = m + 1 := ⟨k + Made.depth - 1, by simp [Made.depth]⟩
      rw [hmm]; exact run_nilAhead_direct hm m v w
    simp [Sem.run_bind, run_program, this, Result.andThen_ok, Sem.run_pure]
theorem exec_invoke {a : Act} {w : World} {x : Operand} {xs : List Operand} {ts : Array TypeId} {vs : List Value} {t : TypeId} {v : Value} {name : String} {k : FuncId} (hm : HasM P t name k)
    (ho : o.op = .call { callee := .invoke x name, args := xs.toArray, argTypes := ts }) (hr : a.eval x = .iface t v) (hx : xs.map a.eval = vs)
    (he : ∀ (ag : Array Value) (w : World), (callFunc k ag).run P w = .ok (.enter k ag) w) : (execOp a.eval o).run P w = .ok (.enter k (v :: vs).toArray) w := by
  unfold execOp
  have : ∀ j, Sem.run P (method (j + Made.depth) t v name) w = .ok (k, v) w := fun j => by
    obtain ⟨m, hmm⟩ : ∃ m, j + Made.depth = m + 1 := ⟨j + Made.depth - 1, by simp [Made.depth]⟩
    rw [hmm]; exact run_method_direct hm m v w
  have hargs : (#[Value.iface t v] ++ vs.toArray).extract 1 (#[Value.iface t v] ++ vs.toArray).size = vs.toArray := by simp
  simp only [ho, resolve, hr, List.map_toArray, hx, Sem.run_bind, Sem.run_pure, Result.andThen_ok, invoke]
  simp [callMethod, Sem.run_bind, run_program, this, Result.andThen_ok, he]
theorem OpQ.invoke {k : FuncId} {args : List Value} {R0 : List Fact} {u v : Value} {x : Operand} {xs : List Operand} {ts : Array TypeId} {t : TypeId} {name : String} {vs : List Value}
    (h : FnV P k args R0 u) (hm : HasM P t name k) (ho : o.op = .call { callee := .invoke x name, args := xs.toArray, argTypes := ts }) (hr : ev L x = some (.iface t v))
    (hx : evs L xs = some vs) (ha : v :: vs = args) (hs : SubR R R0) : OpQ P W n L M R o u := by
  intro a w h1 h2
  unfold Oper.quietAt
  rw [exec_invoke hm ho (h1.ev hr) (h1.evs hx) h.enter, ha]
  exact ⟨rfl, h.use hs h2⟩

/-! ### panics -/
/-- It panics with this. -/
structure FnX (P : Program) (k : FuncId) (args : List Value) (R0 : List Fact) (pv : Value) : Prop where
  enter : ∀ (ag : Array Value) (w : World), (callFunc k ag).run P w = .ok (.enter k ag) w
  calls : ∀ W M Rf w, St W M (R0 ++ Rf) w → Calls P k args.toArray w fun e w' => e = .panicked [{ v := pv, recovered := false }] ∧ St W M (R0 ++ Rf) w'
def RetX (W : World) (M : List Res) (R : List Fact) (pv : Value) (e : Ending) (w' : World) : Prop := e = .panicked [{ v := pv, recovered := false }] ∧ St W M R w'
theorem FnX.intro {k : FuncId} {args : List Value} {R0 : List Fact} {v : Value} {fn : Func} {c : Code} (he : ∀ (ag : Array Value) (w : World), (callFunc k ag).run P w = .ok (.enter k ag) w)
    (hf : P.funcs[k]? = some fn) (hb : fn.body = some c) (hn : fn.ntmps = n) (ha : Nat.ble args.length n = true)
    (h : ∀ W M Rf, Imp W n [] (argsL args 0) M (R0 ++ Rf) (c.wp P (bodyPost P fn (RetX W M (R0 ++ Rf) v)))) : FnX P k args R0 v := by
  refine ⟨he, fun W M Rf w hw => calls_of_wp hf hb ?_⟩
  rw [hn]
  exact h W M Rf _ w (FSat.entry (Nat.le_of_ble_eq_true ha)) rfl hw
theorem r_retx {fn : Func} {M0 : List Res} {R0 : List Fact} {v : Value} (hM : SelM M M0) (hR : SubR R R0) : Imp W n [] L M R (bodyPost P fn (RetX W M0 R0 v) (.panic [{ v, recovered := false }])) :=
  fun _ _ _ h2 h3 => ⟨h2, rfl, (h3.sel hM).weak hR⟩
theorem o_fnx {ops : Array Oper} {rest : List Oper} {k : FuncId} {args : List Value} {R0 : List Fact} {pv : Value} {xs : List Operand} {ts : Array TypeId}
    (h : FnX P k args R0 pv) (ho : o.op = .call { callee := .value (.func k), args := xs.toArray, argTypes := ts })
    (hx : evs L xs = some args) (hg : o.guard = none) (hs : SubR R R0)
    (hpan : Imp W n D L M R (Q (.panic [{ v := pv, recovered := false }]))) : Imp W n D L M R (wpList P ops Q (o :: rest)) := by
  intro a w h1 h2 h3
  refine wpList_plain hg fun K hK => ?_
  unfold Oper.wp
  rw [exec_call [] [] ho rfl (h1.evs hx) h.enter]
  simp only [List.nil_append, List.append_nil]
  refine (h.calls W M R w (h3.both hs)).mono ?_
  rintro e w' ⟨rfl, hw'⟩
  exact hpan a w' h1 h2 (hw'.weak (fun _ hφ => List.mem_append_right _ hφ))
/-- The panic itself. -/
theorem o_panic {ops : Array Oper} {rest : List Oper} {x : Operand} {t : TypeId} {v : Value}
    (ho : o.op = .panic x) (hx : ev L x = some (.iface t v)) (hg : o.guard = none)
    (hpan : Imp W n D L M R (Q (.panic [{ v := .iface t v, recovered := false }]))) : Imp W n D L M R (wpList P ops Q (o :: rest)) := by
  intro a w h1 h2 h3
  refine wpList_plain hg fun K hK => ?_
  unfold Oper.wp
  have e := h1.ev hx
  have hrun : ∀ ρ : Operand → Value, ρ x = .iface t v → (execOp ρ o).run P w = .halt (.panic (.iface t v)) w := by
    intro ρ e
    unfold execOp
    simp [ho, e, Instr.panic, go_sem]
  rw [hrun _ e]
  exact hpan a w h1 h2 h3

/-! ### deferred calls -/
theorem o_defer {ops : Array Oper} {rest : List Oper} {k : FuncId} {xs : List Operand} {ts : Array TypeId} {vs : List Value}
    (ho : o.op = .defer { callee := .value (.func k), args := xs.toArray, argTypes := ts }) (hx : evs L xs = some vs) (hg : o.guard = none) (hdst : o.dst = none)
    (h : Imp W n ({ target := .fn (.func k) #[], args := vs.toArray } :: D) L M R (wpList P ops Q rest)) : Imp W n D L M R (wpList P ops Q (o :: rest)) := by
  intro a w h1 h2 h3
  refine wpList_plain hg fun K hK => ?_
  unfold Oper.wp
  have hrun : (execOp a.eval o).run P w = .ok (.defer { target := .fn (.func k) #[], args := vs.toArray }) w := by
    unfold execOp
    have e := h1.evs hx
    simp [ho, resolve, Act.eval, Deferred.ofValue, Sem.run_bind, Sem.run_pure, Result.andThen_ok, ← e]
  rw [hrun]
  show K _ w
  rw [hdst]
  refine hK _ _ (h _ w ?_ ?_ h3)
  · exact ⟨h1.size, h1.vals⟩
  · show _ :: a.defers = _
    rw [h2]

/-- Deferred, it lets a return pass. -/
structure AnsP (P : Program) (k : FuncId) (T : IntKind) (refT B : TypeId) : Prop where
  enter : ∀ (ag : Array Value) (w : World), (callFunc k ag).run P w = .ok (.enter k ag) w
  ret : ∀ W M R w b, St W M R w → CallsD P k #[pt b 0] .returning w fun e u' w' => (∃ v, e = .returned v) ∧ u' = .returning ∧ St W M R w'
  pan : ∀ W M R w b x y, St W (bx b B [x] :: M) R w → CallsD P k #[pt b 0] (.panicking [{ v := .iface refT (.int T y), recovered := false }]) w fun e u' w' =>
    (∃ v, e = .returned v) ∧ u' = .panicking [{ v := .iface refT (.int T y), recovered := true }] ∧ St W (bx b B [.int T y] :: M) R w'
end Go.G

namespace Go.G
variable {P : Program} {W : World} {n : Nat} {D : List Deferred} {L : Tm} {M : List Res} {R : List Fact} {Q : Exit → Act → World → Prop} {o : Oper}

theorem run_eqNil {T t : TypeId} {v : Value} {ms : Array (String × TypeId)} (hT : P.underlying T = some (.interface ms)) (w : World) : (Op.equal T (.iface t v) .nilIface).run P w = .ok false w := by
  show (Op.equalIn (9999 + 1) T (.iface t v) .nilIface).run P w = _
  unfold Op.equalIn
  simp only [Sem.run_bind, run_underlying hT, Result.andThen_ok, Sem.run_pure]
theorem run_eqNil2 {T : TypeId} {ms : Array (String × TypeId)} (hT : P.underlying T = some (.interface ms)) (w : World) : (Op.equal T .nilIface .nilIface).run P w = .ok true w := by
  show (Op.equalIn (9999 + 1) T .nilIface .nilIface).run P w = _
  unfold Op.equalIn
  simp only [Sem.run_bind, run_underlying hT, Result.andThen_ok, Sem.run_pure]
theorem v_ifnn {T u t : TypeId} {x : Operand} {v : Value} {ms : Array (String × TypeId)} (ho : o.op = .binOp .neq T x (.const .nilIface) u) (hT : P.underlying T = some (.interface ms)) (hx : ev L x = some (.iface t v)) : OpQ P W n L M R o (.bool true) :=
  OpQ.of_value fun f w h1 _ => by
    have e := h1.ev hx
    have hb : (binOp .neq T (.iface t v) .nilIface).run P w = .ok (.bool true) w := by
      show Sem.run P (do pure (Value.bool (!(← Op.equal T (.iface t v) .nilIface)))) w = _
      simp only [Sem.run_bind, run_eqNil hT, Result.andThen_ok, Sem.run_pure, Bool.not_false]
    unfold execOp
    simp [ho, e, eqGuard, hb, show f.eval (.const .nilIface) = .nilIface from rfl]
theorem v_ifnil {T u : TypeId} {x : Operand} {ms : Array (String × TypeId)} (ho : o.op = .binOp .neq T x (.const .nilIface) u) (hT : P.underlying T = some (.interface ms)) (hx : ev L x = some .nilIface) : OpQ P W n L M R o (.bool false) :=
  OpQ.of_value fun f w h1 _ => by
    have e := h1.ev hx
    have hb : (binOp .neq T .nilIface .nilIface).run P w = .ok (.bool false) w := by
      show Sem.run P (do pure (Value.bool (!(← Op.equal T .nilIface .nilIface)))) w = _
      simp only [Sem.run_bind, run_eqNil2 hT, Result.andThen_ok, Sem.run_pure, Bool.not_true]
    unfold execOp
    simp [ho, e, eqGuard, hb, show f.eval (.const .nilIface) = .nilIface from rfl]
theorem v_assertOk {T A : TypeId} {x : Operand} {v : Value} {d : TypeDesc} (ho : o.op = .typeAssert x T A true) (hA : P.underlying A = some d) (hd : (match d with | .interface _ => false | _ => true) = true) (hx : ev L x = some (.iface A v)) : OpQ P W n L M R o (.tuple #[v, .bool true]) :=
  OpQ.of_value fun f w h1 _ => by
    have e := h1.ev hx
    have : ∀ ρ : Operand → Value, ρ x = .iface A v → (execOp ρ o).run P w = .ok (.value (.tuple #[v, .bool true])) w := by
      intro ρ e
      unfold execOp
      cases d <;> simp_all [Instr.typeAssert, run_underlying hA, Sem.run_bind, Sem.run_pure, Result.andThen_ok]
    exact this _ e

/-! ### the end of a function with one deferred call -/
theorem FnV.introD {k : FuncId} {args : List Value} {R0 : List Fact} {v : Value} {fn : Func} {c : Code} (he : ∀ (ag : Array Value) (w : World), (callFunc k ag).run P w = .ok (.enter k ag) w)
    (hf : P.funcs[k]? = some fn) (hb : fn.body = some c) (hn : fn.ntmps = n) (ha : Nat.ble args.length n = true)
    (h : ∀ W M Rf, Imp W n [] (argsL args 0) M (R0 ++ Rf) (c.wp P (bodyPostD P fn (RetV W M (R0 ++ Rf) v)))) : FnV P k args R0 v := by
  refine ⟨he, fun W M Rf w hw => calls_of_wp_defers hf hb ?_⟩
  rw [hn]
  exact h W M Rf _ w (FSat.entry (Nat.le_of_ble_eq_true ha)) rfl hw
theorem FnR.introD {k : FuncId} {args : List Value} {R0 : List Fact} {val : Value → Prop} {fct : Value → List Fact} {fn : Func} {c : Code} (he : ∀ (ag : Array Value) (w : World), (callFunc k ag).run P w = .ok (.enter k ag) w)
    (hf : P.funcs[k]? = some fn) (hb : fn.body = some c) (hn : fn.ntmps = n) (ha : Nat.ble args.length n = true)
    (h : ∀ W M Rf, Imp W n [] (argsL args 0) M (R0 ++ Rf) (c.wp P (bodyPostD P fn (RetR W M (R0 ++ Rf) val fct)))) : FnR P k args R0 val fct := by
  refine ⟨he, fun W M Rf w hw => calls_of_wp_defers hf hb ?_⟩
  rw [hn]
  exact h W M Rf _ w (FSat.entry (Nat.le_of_ble_eq_true ha)) rfl hw

theorem St.upd_perm {w : World} {M' : List Res} {r r' : Res} (hu : Upd M r r' M') (h : St W M R w) : ∃ N, St W (r :: N) R w ∧ ∀ w', St W (r' :: N) R w' → St W M' R w' := by
  obtain ⟨A, B, rfl, rfl⟩ := hu
  exact ⟨A ++ B, h.perm List.perm_middle, fun w' h' => h'.perm List.perm_middle.symm⟩
theorem leaves_ret {k : FuncId} {K : IntKind} {rT B : TypeId} {b : Nat} {fn : Func} {v : Value} {Rr : Ending → World → Prop} (ha : AnsP P k K rT B) (hr : Rd P W n L M R fn v) (hp : ∀ w', St W M R w' → Rr (.returned v) w') :
    Imp W n [{ target := .fn (.func k) #[], args := #[pt b 0] }] L M R (bodyPostD P fn Rr .ret) := by
  intro a w h1 h2 h3
  show Leaves P fn a.tmps Rr a.defers .returning w
  rw [h2]
  refine leaves_cons (by simp) (by simp [invoke, ha.enter]) ((ha.ret W M R w b h3).mono ?_)
  rintro e u' w' ⟨⟨u, rfl⟩, rfl, h4⟩
  exact ⟨v, hr a w' h1 h4, hp w' h4⟩
theorem leaves_pan {k : FuncId} {K : IntKind} {rT B : TypeId} {b : Nat} {x : Value} {y : Int} {M' : List Res} {fn : Func} {v : Value} {Rr : Ending → World → Prop} (ha : AnsP P k K rT B) [hu : UpdBox b M B [x] [.int K y] M'] (hr : Rd P W n L M' R fn v) (hp : ∀ w', St W M' R w' → Rr (.returned v) w') :
    Imp W n [{ target := .fn (.func k) #[], args := #[pt b 0] }] L M R (bodyPostD P fn Rr (.panic [{ v := .iface rT (.int K y), recovered := false }])) := by
  intro a w h1 h2 h3
  show Leaves P fn a.tmps Rr a.defers (.panicking _) w
  rw [h2]
  obtain ⟨N, h4, h5⟩ := h3.upd_perm hu.upd
  refine leaves_cons (by simp) (by simp [invoke, ha.enter]) ((ha.pan W N R w b x y h4).mono ?_)
  rintro e u' w' ⟨⟨u, rfl⟩, rfl, h6⟩
  exact ⟨v, hr a w' h1 (h5 w' h6), hp w' (h5 w' h6)⟩
theorem d_retv {k : FuncId} {K : IntKind} {rT B : TypeId} {b : Nat} {fn : Func} {u v : Value} {M0 : List Res} {R0 : List Fact} (ha : AnsP P k K rT B) (hr : Rd P W n L M R fn u) (he : u = v) (hM : SelM M M0) (hR : SubR R R0) :
    Imp W n [{ target := .fn (.func k) #[], args := #[pt b 0] }] L M R (bodyPostD P fn (RetV W M0 R0 v) .ret) :=
  leaves_ret ha hr (fun w' h => ⟨by rw [he], (h.sel hM).weak hR⟩)
theorem d_retr {k : FuncId} {K : IntKind} {rT B : TypeId} {b : Nat} {fn : Func} {v : Value} {M0 : List Res} {R0 : List Fact} {val : Value → Prop} {fct : Value → List Fact} (ha : AnsP P k K rT B) (hr : Rd P W n L M R fn v) (hv : val v) (hM : SelM M M0) (hR : SubR R (fct v ++ R0)) :
    Imp W n [{ target := .fn (.func k) #[], args := #[pt b 0] }] L M R (bodyPostD P fn (RetR W M0 R0 val fct) .ret) :=
  leaves_ret ha hr (fun w' h => ⟨v, rfl, hv, (h.sel hM).weak hR⟩)
theorem d_panv {k : FuncId} {K : IntKind} {rT B : TypeId} {b : Nat} {x : Value} {y : Int} {M' : List Res} {fn : Func} {u v : Value} {M0 : List Res} {R0 : List Fact} (ha : AnsP P k K rT B) [hu : UpdBox b M B [x] [.int K y] M'] (hr : Rd P W n L M' R fn u) (he : u = v) (hM : SelM M' M0) (hR : SubR R R0) :
    Imp W n [{ target := .fn (.func k) #[], args := #[pt b 0] }] L M R (bodyPostD P fn (RetV W M0 R0 v) (.panic [{ v := .iface rT (.int K y), recovered := false }])) :=
  leaves_pan ha hr (fun w' h => ⟨by rw [he], (h.sel hM).weak hR⟩)
theorem d_panr {k : FuncId} {K : IntKind} {rT B : TypeId} {b : Nat} {x : Value} {y : Int} {M' : List Res} {fn : Func} {v : Value} {M0 : List Res} {R0 : List Fact} {val : Value → Prop} {fct : Value → List Fact} (ha : AnsP P k K rT B) [hu : UpdBox b M B [x] [.int K y] M'] (hr : Rd P W n L M' R fn v) (hv : val v) (hM : SelM M' M0) (hR : SubR R (fct v ++ R0)) :
    Imp W n [{ target := .fn (.func k) #[], args := #[pt b 0] }] L M R (bodyPostD P fn (RetR W M0 R0 val fct) (.panic [{ v := .iface rT (.int K y), recovered := false }])) :=
  leaves_pan ha hr (fun w' h => ⟨v, rfl, hv, (h.sel hM).weak hR⟩)

/-! ### the deferred function itself -/
theorem ans_intro {k : FuncId} {args : List Value} {u u' : FrameMode} {v : Value} {fn : Func} {id : Nat} {o0 o1 : Oper} {c : Code} {d d1 : Nat} {w : World} {Rr : Ending → FrameMode → World → Prop} {ts : Array TypeId}
    (hf : P.funcs[k]? = some fn) (hb : fn.body = some (.seq (.region id [o0, o1].toArray false) c)) (hn : fn.ntmps = n) (ha : Nat.ble args.length n = true)
    (ho : o0.op = .call { callee := .builtin .recover, args := #[], argTypes := ts }) (hg : o0.guard = none) (hdst : o0.dst = some d) (hd : Nat.blt d n = true)
    (ho1 : o1.op = .assign (.tmp d)) (hg1 : o1.guard = none) (hdst1 : o1.dst = some d1) (hd1 : Nat.blt d1 n = true)
    (hrec : ∀ (c₀ : Frame) (cs : List Frame), c₀.mode = u → recoverD (c₀ :: cs) = some (v, { c₀ with mode := u' } :: cs) ∨ (recoverD (c₀ :: cs) = none ∧ v = .nilIface ∧ u' = u))
    (hw : St W M R w)
    (h : ∀ (c₀ : Frame) (cs : List Frame), Imp W n [] ((d1, v) :: (d, v) :: argsL args 0) M R (c.wp P (fun e a w => bodyPostS P fn c₀ cs Rr e a ({ c₀ with mode := u' } :: cs) w))) :
    CallsD P k args.toArray u w Rr := by
  refine callsD_of_wpS hf hb (fun c₀ cs hu => wpS_seq (wpS_region ?_))
  have hrun : ∀ ρ : Operand → Value, (execOp ρ o0).run P w = .ok .recover w := by
    intro ρ
    unfold execOp
    simp [ho, resolve, invoke, builtin, Sem.run_pure]
  have hrun1 : ∀ ρ : Operand → Value, (execOp ρ o1).run P w = .ok (.value (ρ (.tmp d))) w := by
    intro ρ
    unfold execOp
    simp [ho1, Sem.run_pure]
  have hcs : ({ c₀ with mode := u } : Frame) = c₀ := by subst hu; rfl
  have hgo : ∀ cs', cs' = { c₀ with mode := u' } :: cs → wpOpsS P [o0, o1].toArray (Exit.thenS (c.wpS P (bodyPostS P fn c₀ cs Rr)) (bodyPostS P fn c₀ cs Rr)) [1]
      (({ tmps := args.toArray ++ Array.replicate (fn.ntmps - args.toArray.size) undef, defers := [] } : Act).put o0.dst v) cs' w := by
    rintro _ rfl
    rw [hdst, hn]
    have hS := (FSat.entry (Nat.le_of_ble_eq_true ha)).put (by simpa using hd) v
    have hv := hS.vals d v look_cons_eq
    simp only [wpOpsS]
    rw [show [o0, o1].toArray[1]? = some o1 from by simp]
    simp only [Region.wanted, hg1, if_true, hrun1, Oper.upon]
    refine wpS_of_wp (h c₀ cs _ w ?_ (by rw [put_defers, put_defers]) hw)
    rw [hdst1]
    have : Act.eval (({ tmps := args.toArray ++ Array.replicate (n - args.toArray.size) undef, defers := [] } : Act).put (some d) v) (.tmp d) = v := by
      show Array.getD _ d undef = v
      rw [Array.getD_eq_getD_getElem?, hv]; rfl
    rw [this]
    exact hS.put (by simpa using hd1) v
  have hr2 : List.range [o0, o1].toArray.size = [0, 1] := rfl
  rw [hr2]
  unfold wpOpsS
  rw [show [o0, o1].toArray[0]? = some o0 from by simp]
  simp only [Region.wanted, hg, if_true, hrun]
  rcases hrec c₀ cs hu with e | ⟨e, rfl, rfl⟩
  · rw [e]; exact hgo _ rfl
  · rw [e]; exact hgo _ (by rw [hcs])
theorem rec_ret {c₀ : Frame} {cs : List Frame} (h : c₀.mode = .returning) : recoverD (c₀ :: cs) = none := by simp [recoverD, h]
theorem rec_pan {c₀ : Frame} {cs : List Frame} {v : Value} (h : c₀.mode = .panicking [{ v, recovered := false }]) : recoverD (c₀ :: cs) = some (v, { c₀ with mode := .panicking [{ v, recovered := true }] } :: cs) := by simp [recoverD, h]
theorem r_ends {fn : Func} {c₀ : Frame} {cs : List Frame} {u' : FrameMode} {v : Value} {Rr : Ending → FrameMode → World → Prop} (hr : Rd P W n L M R fn v) (hp : ∀ w', St W M R w' → Rr (.returned v) u' w') :
    Imp W n [] L M R (fun a w => bodyPostS P fn c₀ cs Rr .normal a ({ c₀ with mode := u' } :: cs) w) :=
  fun a w h1 h2 h3 => ⟨h2, u', rfl, v, hr a w h1 h3, hp w h3⟩
end Go.G

namespace Go.G
variable {P : Program} {W : World} {n m : Nat} {D : List Deferred} {L : Tm} {M : List Res} {R : List Fact} {Q : Exit → Act → World → Prop} {o : Oper} {F : Fence}

/-! ### what is inside the fence -/
structure WideF (P : Program) (F : Fence) : Prop where
  fn : ∀ f, F.fn f
  depth : F.depth = none
  calls : ∀ {n : Nat} {f : FuncId} {args : Array Value} {w : World} {R : Ending → World → Prop}, Calls P f args w R → CallsIn F n P f args w R
  rows : ∀ {n : Nat} {row : String} {args : Array Value} {w : World} {R : Value → World → Prop}, Rows P row args w R → RowsIn F n P row args w R
theorem wideF : WideF P Fence.wide := ⟨fun _ => trivial, rfl, fun h => callsIn_wide.2 h, fun h c cs _ => let ⟨v, w', r, s⟩ := h c cs; ⟨v, w', r, stepsIn_wide.2 s⟩⟩
theorem wideR {l : Nat} : WideF P (Fence.wide.inRound l) := ⟨fun _ => trivial, rfl, fun h => callsIn_wide.2 h, fun h c cs _ => let ⟨v, w', r, s⟩ := h c cs; ⟨v, w', r, stepsIn_wide.2 s⟩⟩
def noDefer : Op → Bool
  | .defer _ => false
  | _ => true
theorem opIn_of_wp (hF : WideF P F) {a : Act} {w : World} {next : Act → World → Prop} (hnd : noDefer o.op = true) (h : o.wp P a w next Q) : o.wpIn F m P a w next Q := by
  refine ⟨fun f _ => hF.fn f, ?_⟩
  rw [Oper.semAt_eq _ _ _ (fun c e => by rw [e] at hnd; cases hnd)]
  unfold Oper.wp at h
  generalize (execOp a.eval o).run P w = r at h
  unfold Oper.upon at h
  unfold Oper.uponIn
  have hd : F.depth.isSome = true → 1 ≤ m := by rw [hF.depth]; simp
  split at h
  · exact h
  · exact h
  · exact h
  · exact ⟨hd, hF.calls h⟩
  · exact ⟨hd, hF.rows h⟩
  · exact h
  · exact h.elim
theorem oi_lift {ops : Array Oper} {rest : List Oper} (hF : WideF P F) (hnd : noDefer o.op = true) (hno : ∀ a w, Q .outgrown a w → False)
    (h : Imp W n D L M R (wpList P ops (Exit.then (wpListIn F m P ops Q rest) Q) [o])) : Imp W n D L M R (wpListIn F m P ops Q (o :: rest)) := by
  intro a w h1 h2 h3
  have := h a w h1 h2 h3
  unfold wpList at this
  unfold wpListIn
  split
  · rename_i hw
    rw [if_pos hw] at this
    rcases this with h' | ⟨_, a0, w0, h'⟩
    · have h'' := opIn_of_wp (m := m) (F := F) hF hnd h'
      refine ⟨h''.1, ?_⟩
      have := h''.2
      unfold Oper.uponIn at this ⊢
      split at this
      · exact this
      · exact this
      · exact this
      · refine ⟨this.1, this.2.mono ?_⟩
        rintro e w' he
        cases e with
        | returned v => exact he
        | panicked c => exact he
        | outgrown => obtain ⟨a1, w1, h1⟩ := he; exact (hno _ _ h1).elim
      · exact this
      · refine ⟨this.1, this.2.mono ?_⟩
        rintro e w' he
        cases e with
        | returned v => exact he
        | panicked c => exact he
        | outgrown => obtain ⟨a1, w1, h1⟩ := he; exact (hno _ _ h1).elim
      · exact this
      · exact this.elim
    · exact (hno _ _ h').elim
  · rename_i hw
    rw [if_neg hw] at this
    exact ⟨fun f _ => hF.fn f, this⟩
theorem oi_nil {ops : Array Oper} (h : Imp W n D L M R (Q .normal)) : Imp W n D L M R (wpListIn F m P ops Q []) := h
theorem ri_seq {x y : Code} (h : Imp W n D L M R (x.wpIn F m P (Exit.then (y.wpIn F m P Q) Q))) : Imp W n D L M R ((Code.seq x y).wpIn F m P Q) := h.mono fun _ _ => wpIn_seq
theorem ri_skip (h : Imp W n D L M R (Q .normal)) : Imp W n D L M R (Code.skip.wpIn F m P Q) := h.mono fun _ _ => wpIn_skip
theorem ri_exit {id : Nat} (h : Imp W n D L M R (Q (.exit id))) : Imp W n D L M R ((Code.exit id).wpIn F m P Q) := h.mono fun _ _ => wpIn_exit
theorem ri_ret (h : Imp W n D L M R (Q .ret)) : Imp W n D L M R (Code.ret.wpIn F m P Q) := h.mono fun _ _ => wpIn_ret
theorem ri_block {id : Nat} {c : Code} (h : Imp W n D L M R (c.wpIn F m P (Exit.inBlock id Q))) : Imp W n D L M R ((Code.block id c).wpIn F m P Q) := h.mono fun _ _ => wpIn_block
theorem ri_cond {c : Operand} {x y : Code} {t : Bool} (hc : ev L c = some (.bool t)) (ht : t = true → Imp W n D L M R (x.wpIn F m P Q)) (hf : t = false → Imp W n D L M R (y.wpIn F m P Q)) : Imp W n D L M R ((Code.cond c x y).wpIn F m P Q) := by
  intro a w h1 h2 h3
  cases t with
  | true => exact wpIn_cond (h1.ev hc) (ht rfl a w h1 h2 h3)
  | false => exact wpIn_cond (h1.ev hc) (hf rfl a w h1 h2 h3)
theorem ri_condd {c : Operand} {x y : Code} {p : Prop} [Decidable p] (hc : ev L c = some (.bool (decide p))) (ht : p → Imp W n D L M R (x.wpIn F m P Q)) (hf : ¬ p → Imp W n D L M R (y.wpIn F m P Q)) : Imp W n D L M R ((Code.cond c x y).wpIn F m P Q) :=
  ri_cond hc (fun h => ht (of_decide_eq_true h)) (fun h => hf (of_decide_eq_false h))
theorem ri_region {id : Nat} {l : List Oper} (h : Imp W n D L M R (wpListIn F m P l.toArray Q l)) : Imp W n D L M R ((Code.region id l.toArray false).wpIn F m P Q) := h.mono fun _ _ => wpIn_region_lit
/-- A region of a plain function, of which an operation is a call of yield. -/
theorem r_region_in {id : Nat} {l : List Oper} (h : Imp W n D L M R (wpListIn Fence.wide 0 P l.toArray Q l)) : Imp W n D L M R ((Code.region id l.toArray false).wp P Q) := h.mono fun _ _ h => wpIn_wide.1 (wpIn_region_lit h)

/-! ### resources of several parts -/
def exR {α : Type} (N : α → List Res) : Res := fun s => ∃ x, Sep (N x) s
theorem St.pk {w : World} {α : Type} {N : α → List Res} (x : α) (h : St W (N x ++ M) R w) : St W (exR N :: M) R w := by
  obtain ⟨s, hS, hO, hR⟩ := h.mem
  obtain ⟨s1, s2, rfl, h1, h2⟩ := Sep.append.1 hS
  exact ⟨h.os, h.tape, h.output, s1 ++ s2, ⟨s1, s2, rfl, ⟨x, h1⟩, h2⟩, hO, hR⟩
theorem St.unpk {w : World} {α : Type} {N : α → List Res} (h : St W (exR N :: M) R w) : ∃ x, St W (N x ++ M) R w := by
  obtain ⟨s, ⟨s1, s2, rfl, ⟨x, h1⟩, h2⟩, hO, hR⟩ := h.mem
  exact ⟨x, h.os, h.tape, h.output, s1 ++ s2, Sep.append.2 ⟨s1, s2, rfl, h1, h2⟩, hO, hR⟩
theorem Imp.unpk {α : Type} {N : α → List Res} {X : Act → World → Prop} (h : ∀ x, Imp W n D L (N x ++ M) R X) : Imp W n D L (exR N :: M) R X := by
  intro a w h1 h2 h3
  obtain ⟨x, h4⟩ := h3.unpk
  exact h x a w h1 h2 h4

theorem St.putBl {w : World} {M' : List Res} {l : Nat} {x : Obj} (y : Obj) (h : St W M R w) (hu : Upd M (G.bl l x) (G.bl l y) M') : St W M' R (w.putObj l y) := by
  refine h.replace hu rfl rfl rfl ?_
  intro s hs hO
  have hs' : s = [(l, x)] := hs
  subst hs'
  have hl := hO.at_ (l, x) (by simp)
  have hlt : l < w.heap.size := (Array.getElem?_eq_some_iff.1 hl).1
  refine ⟨[(l, y)], rfl, ⟨by simp [keys], ?_⟩, ?_, ?_⟩
  · intro p hp
    have : p = (l, y) := by simpa using hp
    subst this
    exact World.putObj_heap_same hlt
  · intro b hb; exact .inl (by simpa [keys] using hb)
  · intro b _ hb
    exact World.putObj_heap_other (by intro e; subst e; exact hb (by simp [keys]))

/-! ### yield -/
theorem oi_yield {ops : Array Oper} {rest : List Oper} {x : Operand} {xs : List Operand} {ts : Array TypeId} {l d : Nat} {vs : List Value} {M1 M2 : List Res}
    (ho : o.op = .call { callee := .value x, args := xs.toArray, argTypes := ts }) (hx : ev L x = some (.func (.yield l) #[] #[])) (hxs : evs L xs = some vs) (hg : o.guard = none) (hdst : o.dst = some d) (hd : Nat.blt d n = true)
    (hY : ∀ w, St W M R w → YieldAt Fence.wide 0 P l vs.toArray w fun e w' => (e = .returned (.bool true) ∧ St W M1 R w') ∨ (e = .returned (.bool false) ∧ St W M2 R w'))
    (h1 : Imp W n D ((d, .bool true) :: L) M1 R (wpListIn Fence.wide 0 P ops Q rest)) (h2 : Imp W n D ((d, .bool false) :: L) M2 R (wpListIn Fence.wide 0 P ops Q rest)) : Imp W n D L M R (wpListIn Fence.wide 0 P ops Q (o :: rest)) := by
  intro a w g1 g2 g3
  refine wpListIn_plain hg fun K hK => ⟨fun _ _ => trivial, ?_⟩
  rw [Oper.semAt_eq _ _ _ (fun c e => by rw [e] at ho; cases ho)]
  obtain ⟨fn, tmps, assign, body, hy, hr⟩ := hY w g3
  have hrun : (execOp a.eval o).run P w = .ok (.round l fn tmps assign body) w := by
    unfold execOp
    simp only [ho, resolve, g1.ev hx, Deferred.ofValue, Sem.run_bind, Sem.run_pure, Result.andThen_ok, invoke, List.map_toArray, g1.evs hxs]
    simpa using hy
  rw [hrun]
  refine ⟨fun h => (by cases h), hr.mono ?_⟩
  rintro e w' (⟨rfl, h⟩ | ⟨rfl, h⟩)
  · show K (a.put o.dst _) w'
    rw [hdst]
    exact hK _ _ (h1 _ w' (g1.put (by simpa using hd) _) (by rw [put_defers]; exact g2) h)
  · show K (a.put o.dst _) w'
    rw [hdst]
    exact hK _ _ (h2 _ w' (g1.put (by simpa using hd) _) (by rw [put_defers]; exact g2) h)

/-- An iterator's value hands out these, one by one. -/
def Yields {α : Type} (P : Program) (W : World) (l : Nat) (enc : α → List Value) (xs : List α) (J Jx : Nat → Res) (Rf : List Fact) : Prop :=
  ∀ i x, xs[i]? = some x → ∀ Mi Ri w, St W (J i :: Mi) (Ri ++ Rf) w → YieldAt Fence.wide 0 P l (enc x).toArray w fun e w' => (e = .returned (.bool true) ∧ St W (J (i + 1) :: Mi) (Ri ++ Rf) w') ∨ (e = .returned (.bool false) ∧ St W (Jx (i + 1) :: Mi) (Ri ++ Rf) w')
def RetSeq (W : World) (J Jx : Nat → Res) (N : Nat) (R : List Fact) (e : Ending) (w' : World) : Prop := (∃ v, e = .returned v) ∧ (St W [J N] R w' ∨ ∃ i, i ≤ N ∧ 1 ≤ i ∧ St W [Jx i] R w')
structure IsSeq {α : Type} (P : Program) (g : FuncId) (lb : List Value) (Rs : List Fact) (enc : α → List Value) (xs : List α) : Prop where
  enter : ∀ (ag : Array Value) (w : World), (callFunc g ag).run P w = .ok (.enter g ag) w
  calls : ∀ (l : Nat) (J Jx : Nat → Res) (W : World) (Rf : List Fact) (w : World), Yields P W l enc xs J Jx Rf → St W [J 0] (Rs ++ Rf) w → Calls P g (.func (.yield l) #[] #[] :: lb).toArray w (RetSeq W J Jx xs.length (Rs ++ Rf))
theorem IsSeq.intro {α : Type} {g : FuncId} {lb : List Value} {Rs : List Fact} {enc : α → List Value} {xs : List α} {fn : Func} {c : Code} (he : ∀ (ag : Array Value) (w : World), (callFunc g ag).run P w = .ok (.enter g ag) w)
    (hf : P.funcs[g]? = some fn) (hb : fn.body = some c) (hn : fn.ntmps = n) (ha : Nat.ble (lb.length + 1) n = true)
    (h : ∀ l J Jx W Rf, Yields P W l enc xs J Jx Rf → Imp W n [] (argsL (.func (.yield l) #[] #[] :: lb) 0) [J 0] (Rs ++ Rf) (c.wp P (bodyPost P fn (RetSeq W J Jx xs.length (Rs ++ Rf))))) : IsSeq P g lb Rs enc xs := by
  refine ⟨he, fun l J Jx W Rf w hY hw => calls_of_wp hf hb ?_⟩
  rw [hn]
  exact h l J Jx W Rf hY _ w (FSat.entry (by simpa using Nat.le_of_ble_eq_true ha)) rfl hw
theorem r_retseq {fn : Func} {J Jx : Nat → Res} {N : Nat} {R0 : List Fact} {v : Value} (hr : Rd P W n L M R fn v) (hM : SelM M [J N]) (hR : SubR R R0) : Imp W n [] L M R (bodyPost P fn (RetSeq W J Jx N R0) .normal) :=
  fun a w h1 h2 h3 => ⟨h2, v, hr a w h1 h3, ⟨v, rfl⟩, .inl ((h3.sel hM).weak hR)⟩
theorem r_retseq2 {fn : Func} {J Jx : Nat → Res} {N : Nat} {R0 : List Fact} {v : Value} (i : Nat) (hi : i = N) (hr : Rd P W n L M R fn v) (hM : SelM M [J i]) (hR : SubR R R0) : Imp W n [] L M R (bodyPost P fn (RetSeq W J Jx N R0) .normal) := by
  subst hi; exact r_retseq hr hM hR
theorem r_retseqx {fn : Func} {J Jx : Nat → Res} {N i : Nat} {R0 : List Fact} {v : Value} (hr : Rd P W n L M R fn v) (hi : i ≤ N ∧ 1 ≤ i) (hM : SelM M [Jx i]) (hR : SubR R R0) : Imp W n [] L M R (bodyPost P fn (RetSeq W J Jx N R0) .normal) :=
  fun a w h1 h2 h3 => ⟨h2, v, hr a w h1 h3, ⟨v, rfl⟩, .inr ⟨i, hi.1, hi.2, (h3.sel hM).weak hR⟩⟩
/-- One call of yield in an iterator's walk. -/
theorem oi_yields {α : Type} {ops : Array Oper} {rest : List Oper} {x : Operand} {xs : List Operand} {ts : Array TypeId} {l d i : Nat} {vs : List Value} {enc : α → List Value} {ys : List α} {J Jx : Nat → Res} {Ri Rf : List Fact} {M' : List Res} {y : α}
    (hY : Yields P W l enc ys J Jx Rf) (hy : ys[i]? = some y)
    (ho : o.op = .call { callee := .value x, args := xs.toArray, argTypes := ts }) (hx : ev L x = some (.func (.yield l) #[] #[])) (hxs : evs L xs = some vs) (hv : vs = enc y) (hg : o.guard = none) (hdst : o.dst = some d) (hd : Nat.blt d n = true) [hM : DelC M (J i) M']
    (h1 : Imp W n D ((d, .bool true) :: L) (J (i + 1) :: M') (Ri ++ Rf) (wpListIn Fence.wide 0 P ops Q rest)) (h2 : Imp W n D ((d, .bool false) :: L) (Jx (i + 1) :: M') (Ri ++ Rf) (wpListIn Fence.wide 0 P ops Q rest)) : Imp W n D L M (Ri ++ Rf) (wpListIn Fence.wide 0 P ops Q (o :: rest)) := by
  subst hv
  exact oi_yield ho hx hxs hg hdst hd (fun w h => hY i y hy M' Ri w (h.perm hM.del.perm)) h1 h2

/-! ### a range over a function -/
/-- The loop's record lies ready, or busy. -/
structure Beg (P : Program) (l : Nat) (rdy bsy : Res) : Prop where
  run : ∀ W M M' R w, St W M R w → Del M rdy M' → ∃ w', (Instr.beginRound l).run P w = .ok () w' ∧ St W (bsy :: M') R w'
theorem r_begin {l : Nat} {rdy bsy : Res} {X : Act → World → Prop} {M' : List Res} (hb : Beg P l rdy bsy) [hM : DelC M rdy M'] (h : Imp W n D L (bsy :: M') R X) :
    Imp W n D L M R (fun a w => ∃ w₂, (Instr.beginRound l).run P w = .ok () w₂ ∧ X a w₂) := by
  intro a w h1 h2 h3
  obtain ⟨w', hr, h4⟩ := hb.run W M M' R w h3 hM.del
  exact ⟨w', hr, h a w' h1 h2 h4⟩
/-- How a round's body may be left. -/
def RoundQ (W : World) (J1 : Res) (Jx : Code → Res) (M : List Res) (R : List Fact) : Exit → Act → World → Prop
  | .normal, _, w => St W (J1 :: M) R w
  | .ret, _, w => St W (Jx .ret :: M) R w
  | .exit id, _, w => St W (Jx (.exit id) :: M) R w
  | .goto t, _, w => St W (Jx (.goto t) :: M) R w
  | _, _, _ => False
theorem r_round {J1 : Res} {Jx : Code → Res} {M0 : List Res} {R0 : List Fact} (hM : SelM M (J1 :: M0)) (hR : SubR R R0) : Imp W n D L M R (RoundQ W J1 Jx M0 R0 .normal) :=
  fun _ _ _ _ h3 => (h3.sel hM).weak hR
theorem r_round_exit {J1 : Res} {Jx : Code → Res} {M0 : List Res} {R0 : List Fact} {id : Nat} (hM : SelM M (Jx (.exit id) :: M0)) (hR : SubR R R0) : Imp W n D L M R (RoundQ W J1 Jx M0 R0 (.exit id)) :=
  fun _ _ _ _ h3 => (h3.sel hM).weak hR
theorem r_round_ret {J1 : Res} {Jx : Code → Res} {M0 : List Res} {R0 : List Fact} (hM : SelM M (Jx .ret :: M0)) (hR : SubR R R0) : Imp W n D L M R (RoundQ W J1 Jx M0 R0 .ret) :=
  fun _ _ _ _ h3 => (h3.sel hM).weak hR

def putAll : List Tmp → List Value → Tm → Tm
  | p :: ps, v :: vs, L => putAll ps vs ((p, v) :: L)
  | _, _, L => L
theorem FSat.putAll : ∀ (ps : List Tmp) (vs : List Value) {L : Tm} {t : Array Value}, ps.all (fun p => Nat.blt p n) = true → FSat n L { tmps := t, defers := [] } →
    FSat n (G.putAll ps vs L) { tmps := (ps.zip vs).foldl (fun t (p, v) => t.setIfInBounds p v) t, defers := [] }
  | [], _, _, _, _, h => by simpa [G.putAll] using h
  | _ :: _, [], _, _, _, h => by simpa [G.putAll] using h
  | p :: ps, v :: vs, L, t, hp, h => by
    simp only [List.all_cons, Bool.and_eq_true] at hp
    simp only [List.zip_cons_cons, List.foldl_cons, G.putAll]
    exact FSat.putAll ps vs hp.2 (h.put (by simpa using hp.1) v)

def mark (db : Nat) : Deferred := { target := .collected db, args := #[] }
theorem Upd.bl_head {x y : Res} {A : List Res} : Upd (x :: A) x y (y :: A) := Upd.here
theorem r_range {α : Type} {g : Operand} {ps : List Tmp} {assign body : Code} {gf : FuncId} {lb : List Value} {enc : α → List Value} {xs : List α} {Rs : List Fact} {M0 : List Res} {M1 : List Res}
    (hs : IsSeq P gf lb Rs enc xs) (hg : ev L g = some (.func (.func gf) #[] lb.toArray)) (hR : SubR R Rs) (hps : ∀ x, (enc x).length = ps.length) (hpn : ps.all (fun p => Nat.blt p n) = true)
    (J : Nat → Res) (Jx : Nat → Code → Res) (hM : SelM M M1) (h0 : ∀ w, St W M1 R w → St W (J 0 :: M0) R w)
    (hround : ∀ l i x, xs[i]? = some x → ∀ Mi Ri rdy bsy, Beg P l rdy bsy → Imp W n [] (putAll ps (enc x) L) (J i :: rdy :: Mi) (Ri ++ R)
      (assign.wpIn (Fence.wide.inRound l) 0 P (Exit.then (fun a w => ∃ w₂, (Instr.beginRound l).run P w = .ok () w₂ ∧ body.wpIn (Fence.wide.inRound l) 0 P (RoundQ W (J (i + 1)) (Jx (i + 1)) (bsy :: Mi) (Ri ++ R)) a w₂) (fun _ _ _ => False))))
    (hdone : ∀ db, Imp W n (mark db :: D) L (J xs.length :: bl db (.deferred (some [])) :: M0) R (Q .normal))
    (hstop : ∀ db i c, i ≤ xs.length ∧ 1 ≤ i → Imp W n (mark db :: D) L (Jx i c :: bl db (.deferred (some [])) :: M0) R (c.wp P Q)) : Imp W n D L M R ((Code.rangeFunc g ps.toArray assign body).wp P Q) := by
  intro a w h1 h2 h3
  refine (wpIn_wide (n := 0)).1 (wpIn_rangeFunc fun fn _ => ?_)
  have h4 := h0 w (h3.sel hM)
  obtain ⟨rec, hrec⟩ : ∃ rec : LoopState → Option Code → Loop, rec = fun st pe => { state := st, pending := pe, fn, tmps := a.tmps, params := ps.toArray, assign, body, defers := w.heap.size } := ⟨_, rfl⟩
  have h5 := (h4.push (.deferred (some []))).push (.loop (rec .ready none))
  have hsz : (w.alloc (.deferred (some []))).heap.size = w.heap.size + 1 := World.size_alloc _ _
  rw [hsz] at h5
  obtain ⟨W1, hW1⟩ : ∃ W1, (w.alloc (.deferred (some []))).alloc (.loop (rec .ready none)) = W1 := ⟨_, rfl⟩
  rw [hW1] at h5
  refine ⟨w.heap.size + 1, [mark w.heap.size], W1, { target := .fn (.func gf) lb.toArray, args := #[.func (.yield (w.heap.size + 1)) #[] #[]] }, W1, gf,
    #[.func (.yield (w.heap.size + 1)) #[] #[]] ++ lb.toArray, W1, ?_, ?_, fun _ _ => trivial, ?_, (fun h => by cases h), ?_⟩
  · rw [← hW1, hrec]; exact run_enterLoop_outer _ _ _ _ _
  · simp only [resolve, h1.ev hg]
    simp [go_sem]
  · simp [invoke, hs.enter]
  · refine callsIn_wide.2 ?_
    have hbeg : Beg P (w.heap.size + 1) (bl (w.heap.size + 1) (.loop (rec .ready none))) (bl (w.heap.size + 1) (.loop { rec .ready none with state := .busy })) := by
      refine ⟨fun W M M' R w' hw hd => ?_⟩
      have hl := (hw.perm hd.perm).bl (b := w.heap.size + 1) (o := .loop (rec .ready none)) (by simp)
      exact ⟨_, run_beginRound hl (by rw [hrec]), (hw.perm hd.perm).putBl _ Upd.here⟩
    have := hs.calls (w.heap.size + 1)
      (fun i => exR fun (_ : Unit) => J i :: bl (w.heap.size + 1) (.loop (rec .ready none)) :: bl w.heap.size (.deferred (some [])) :: M0)
      (fun i => exR fun (c : Code) => Jx i c :: bl (w.heap.size + 1) (.loop (rec .done (some c))) :: bl w.heap.size (.deferred (some [])) :: M0)
      W R W1 ?_ ?_
    · rw [show #[Value.func (.yield (w.heap.size + 1)) #[] #[]] ++ lb.toArray = (Value.func (.yield (w.heap.size + 1)) #[] #[] :: lb).toArray from by simp]
      refine this.mono ?_
      rintro e w2 ⟨⟨v, rfl⟩, h | ⟨i, hi, hi', h⟩⟩
      · obtain ⟨_, h⟩ := h.unpk
        have h' := h.weak (R' := R) (fun _ hφ => List.mem_append_right _ hφ)
        have hl := h'.bl (b := w.heap.size + 1) (o := .loop (rec .ready none)) (by simp)
        refine ⟨none, _, by have := run_endLoop (P := P) hl (by rw [hrec]; simp); rw [hrec] at this; exact this, ?_⟩
        have h6 := h'.putBl (l := w.heap.size + 1) (x := .loop (rec .ready none)) (.loop { rec .ready none with state := .exhausted }) (Upd.there Upd.here)
        refine hdone w.heap.size { a with defers := [mark w.heap.size] ++ a.defers } _ ⟨h1.size, h1.vals⟩ (by rw [h2]; rfl) ?_
        rw [hrec] at h6
        exact ((h6.perm (List.Perm.swap _ _ _)).drop).weak (fun _ h => h) |>.perm (by simp)
      · obtain ⟨c, h⟩ := h.unpk
        have h' := h.weak (R' := R) (fun _ hφ => List.mem_append_right _ hφ)
        have hl := h'.bl (b := w.heap.size + 1) (o := .loop (rec .done (some c))) (by simp)
        refine ⟨some c, _, by have := run_endLoop (P := P) hl (by rw [hrec]; simp); rw [hrec] at this; exact this, ?_⟩
        have h6 := h'.putBl (l := w.heap.size + 1) (x := .loop (rec .done (some c))) (.loop { rec .done (some c) with state := .exhausted }) (Upd.there Upd.here)
        refine wpIn_wide.2 (hstop w.heap.size i c ⟨hi, hi'⟩ { a with defers := [mark w.heap.size] ++ a.defers } _ ⟨h1.size, h1.vals⟩ (by rw [h2]; rfl) ?_)
        rw [hrec] at h6
        exact ((h6.perm (List.Perm.swap _ _ _)).drop).perm (by simp)
    · intro i x hx Mi Ri w1 hw1
      obtain ⟨_, h6⟩ := hw1.unpk
      simp only [List.cons_append] at h6
      have hl := h6.bl (b := w.heap.size + 1) (o := .loop (rec .ready none)) (by simp)
      have hz : (ps.toArray.zip (enc x).toArray).foldl (fun t (p, v) => t.setIfInBounds p v) a.tmps = (ps.zip (enc x)).foldl (fun t (p, v) => t.setIfInBounds p v) a.tmps := by simp
      refine ⟨fn, (ps.zip (enc x)).foldl (fun t (p, v) => t.setIfInBounds p v) a.tmps, assign, body, ?_, roundIn_of_wpIn trivial ?_⟩
      · have := run_yield (P := P) (args := (enc x).toArray) hl (by rw [hrec]; simpa using hps x)
        rw [hrec] at this
        rw [← hz]
        exact this
      · have hF := FSat.putAll (t := a.tmps) ps (enc x) hpn ⟨h1.size, h1.vals⟩
        have hrd := hround (w.heap.size + 1) i x hx (bl w.heap.size (.deferred (some [])) :: (M0 ++ Mi)) Ri _ _ hbeg _ w1 hF rfl h6
        refine Go.wpIn_mono hrd ?_
        rintro e a2 w2 h7
        cases e with
        | normal =>
          obtain ⟨w3, hb3, h8⟩ := h7
          refine ⟨w3, hb3, Go.wpIn_mono h8 ?_⟩
          rintro e a4 w4 h9
          have fin : ∀ (X : Res) (jump : Option Code), St W (X :: bl (w.heap.size + 1) (.loop { rec .ready none with state := .busy }) :: bl w.heap.size (.deferred (some [])) :: (M0 ++ Mi)) (Ri ++ R) w4 →
              ∃ w5, (Instr.endRound (w.heap.size + 1) jump).run P w4 = .ok (.bool jump.isNone) w5 ∧ St W (X :: bl (w.heap.size + 1) (.loop (rec (if jump.isNone then .ready else .done) jump)) :: bl w.heap.size (.deferred (some [])) :: (M0 ++ Mi)) (Ri ++ R) w5 := by
            intro X jump h10
            have hl3 := h10.bl (b := w.heap.size + 1) (o := .loop { rec .ready none with state := .busy }) (by simp)
            refine ⟨_, run_endRound jump hl3, ?_⟩
            have := h10.putBl (l := w.heap.size + 1) (x := .loop { rec .ready none with state := .busy }) (.loop (rec (if jump.isNone then .ready else .done) jump)) (Upd.there Upd.here)
            rw [hrec] at this ⊢
            exact this
          cases e with
          | normal =>
            obtain ⟨w5, hr5, h10⟩ := fin _ none h9
            exact ⟨_, w5, hr5, .inl ⟨rfl, St.pk () (by simpa using h10)⟩⟩
          | ret =>
            obtain ⟨w5, hr5, h10⟩ := fin _ (some .ret) h9
            exact ⟨_, w5, hr5, .inr ⟨rfl, St.pk (Code.ret) (by simpa using h10)⟩⟩
          | exit id =>
            obtain ⟨w5, hr5, h10⟩ := fin _ (some (.exit id)) h9
            exact ⟨_, w5, hr5, .inr ⟨rfl, St.pk (Code.exit id) (by simpa using h10)⟩⟩
          | goto t =>
            obtain ⟨w5, hr5, h10⟩ := fin _ (some (.goto t)) h9
            exact ⟨_, w5, hr5, .inr ⟨rfl, St.pk (Code.goto t) (by simpa using h10)⟩⟩
          | panic c => exact h9.elim
          | outgrown => exact h9.elim
        | ret => exact h7.elim
        | exit id => exact h7.elim
        | goto t => exact h7.elim
        | panic c => exact h7.elim
        | outgrown => exact h7.elim
    · refine St.pk () ?_
      refine St.weak (R := Rs ++ R) ?_ (fun φ h => h)
      refine (St.both (h5.perm ?_) hR)
      simp only [List.append_nil]
      exact ((List.Perm.swap _ _ _).cons _).trans (List.Perm.swap _ _ _)

theorem Imp.unpk2 {α : Type} {r1 r2 : α → Res} {X : Act → World → Prop} (h : ∀ x, Imp W n D L (r1 x :: r2 x :: M) R X) : Imp W n D L (exR (fun x => [r1 x, r2 x]) :: M) R X := Imp.unpk h
theorem Imp.unpk1 {α : Type} {r1 : α → Res} {X : Act → World → Prop} (h : ∀ x, Imp W n D L (r1 x :: M) R X) : Imp W n D L (exR (fun x => [r1 x]) :: M) R X := Imp.unpk h
theorem r_round2 {α : Type} {r1 r2 : α → Res} {Jx : Code → Res} {M0 : List Res} {R0 : List Fact} (x : α) (hM : SelM M (r1 x :: r2 x :: M0)) (hR : SubR R R0) : Imp W n D L M R (RoundQ W (exR (fun x => [r1 x, r2 x])) Jx M0 R0 .normal) :=
  fun _ _ _ _ h3 => St.pk x ((h3.sel hM).weak hR)
def noR : Res := fun _ => False
theorem Imp.noR {X : Act → World → Prop} : Imp W n D L (G.noR :: M) R X := by
  intro a w _ _ h3
  obtain ⟨s, ⟨s1, s2, _, h, _⟩, _⟩ := h3.mem
  exact h.elim

/-! ### the end of a function with a range over a function -/
theorem FnR.introM {k : FuncId} {args : List Value} {R0 : List Fact} {val : Value → Prop} {fct : Value → List Fact} {fn : Func} {c : Code} (he : ∀ (ag : Array Value) (w : World), (callFunc k ag).run P w = .ok (.enter k ag) w)
    (hf : P.funcs[k]? = some fn) (hb : fn.body = some c) (hn : fn.ntmps = n) (ha : Nat.ble args.length n = true)
    (h : ∀ W M Rf, Imp W n [] (argsL args 0) M (R0 ++ Rf) (c.wp P (bodyPostM Fence.wide 0 P fn (RetR W M (R0 ++ Rf) val fct)))) : FnR P k args R0 val fct := by
  refine ⟨he, fun W M Rf w hw => (callsIn_wide (n := 0)).1 (callsIn_of_wp_marks hf hb trivial (wpIn_wide.2 ?_))⟩
  rw [hn]
  exact h W M Rf _ w (FSat.entry (Nat.le_of_ble_eq_true ha)) rfl hw
theorem FnV.introM {k : FuncId} {args : List Value} {R0 : List Fact} {v : Value} {fn : Func} {c : Code} (he : ∀ (ag : Array Value) (w : World), (callFunc k ag).run P w = .ok (.enter k ag) w)
    (hf : P.funcs[k]? = some fn) (hb : fn.body = some c) (hn : fn.ntmps = n) (ha : Nat.ble args.length n = true)
    (h : ∀ W M Rf, Imp W n [] (argsL args 0) M (R0 ++ Rf) (c.wp P (bodyPostM Fence.wide 0 P fn (RetV W M (R0 ++ Rf) v)))) : FnV P k args R0 v := by
  refine ⟨he, fun W M Rf w hw => (callsIn_wide (n := 0)).1 (callsIn_of_wp_marks hf hb trivial (wpIn_wide.2 ?_))⟩
  rw [hn]
  exact h W M Rf _ w (FSat.entry (Nat.le_of_ble_eq_true ha)) rfl hw
theorem leaves_mark {db : Nat} {fn : Func} {v : Value} {Rr : Ending → World → Prop} {M1 : List Res} [hM : DelC M (bl db (.deferred (some []))) M1] (hr : Rd P W n L M1 R fn v) (hp : ∀ w', St W M1 R w' → Rr (.returned v) w') :
    Imp W n [mark db] L M R (bodyPostM Fence.wide 0 P fn Rr .ret) := by
  intro a w h1 h2 h3
  show LeavesInM Fence.wide 0 P fn a.tmps Rr a.defers .returning w
  rw [h2]
  have h4 := h3.perm hM.del.perm
  have hl := h4.bl (b := db) (o := .deferred (some [])) (by simp)
  have h5 := (h4.putBl (.deferred none) Upd.here).drop
  exact ⟨by simp, .inl ⟨db, _, rfl, run_takeDeferred hl, v, hr a _ h1 h5, hp _ h5⟩⟩
theorem m_retr {db : Nat} {fn : Func} {v : Value} {M0 M1 : List Res} {R0 : List Fact} {val : Value → Prop} {fct : Value → List Fact} [hM : DelC M (bl db (.deferred (some []))) M1] (hr : Rd P W n L M1 R fn v) (hv : val v) (hS : SelM M1 M0) (hR : SubR R (fct v ++ R0)) :
    Imp W n [mark db] L M R (bodyPostM Fence.wide 0 P fn (RetR W M0 R0 val fct) .ret) :=
  leaves_mark hr (fun _ h => ⟨v, rfl, hv, (h.sel hS).weak hR⟩)
theorem m_retv {db : Nat} {fn : Func} {u v : Value} {M0 M1 : List Res} {R0 : List Fact} [hM : DelC M (bl db (.deferred (some []))) M1] (hr : Rd P W n L M1 R fn u) (he : u = v) (hS : SelM M1 M0) (hR : SubR R R0) :
    Imp W n [mark db] L M R (bodyPostM Fence.wide 0 P fn (RetV W M0 R0 v) .ret) :=
  leaves_mark hr (fun _ h => ⟨by rw [he], (h.sel hS).weak hR⟩)
end Go.G

namespace Go.G
variable {P : Program} {W : World} {n : Nat} {D : List Deferred} {L : Tm} {M : List Res} {R : List Fact} {Q : Exit → Act → World → Prop} {o : Oper}

instance (priority := 90) SubRC.appl {A B R' : List Fact} [h : SubRC A R'] : SubRC (A ++ B) R' := ⟨fun φ hφ => List.mem_append_left _ (h.sub φ hφ)⟩
instance (priority := 80) SubRC.appr {A B R' : List Fact} [h : SubRC B R'] : SubRC (A ++ B) R' := ⟨fun φ hφ => List.mem_append_right _ (h.sub φ hφ)⟩
instance (priority := 100) SubRC.tailv {φ : Fact} {R R' : List Fact} [h : SubRC R R'] : SubRC (φ :: R) R' := ⟨fun ψ hψ => List.mem_cons_of_mem _ (h.sub ψ hψ)⟩
def boxF (b : Nat) (T : TypeId) (vs : List Value) : Fact := fun V => V b = some (.cells vs.toArray T (0, 0))
class HasBoxF (b : Nat) (R : List Fact) (T : outParam TypeId) (vs : outParam (List Value)) : Prop where
  mem : boxF b T vs ∈ R
instance HasBoxF.head {b : Nat} {T : TypeId} {vs : List Value} {R : List Fact} : HasBoxF b (boxF b T vs :: R) T vs := ⟨by simp⟩
instance HasBoxF.tail {b : Nat} {T : TypeId} {vs : List Value} {φ : Fact} {R : List Fact} [h : HasBoxF b R T vs] : HasBoxF b (φ :: R) T vs := ⟨List.mem_cons_of_mem _ h.mem⟩
instance HasBoxF.appl {b : Nat} {T : TypeId} {vs : List Value} {A B : List Fact} [h : HasBoxF b A T vs] : HasBoxF b (A ++ B) T vs := ⟨List.mem_append_left _ h.mem⟩
instance HasBoxF.appr {b : Nat} {T : TypeId} {vs : List Value} {A B : List Fact} [h : HasBoxF b B T vs] : HasBoxF b (A ++ B) T vs := ⟨List.mem_append_right _ h.mem⟩
class DelBox (b : Nat) (M : List Res) (T : outParam TypeId) (vs : outParam (List Value)) (M' : outParam (List Res)) : Prop where
  del : Del M (bx b T vs) M'
instance DelBox.head {b : Nat} {T : TypeId} {vs : List Value} {M : List Res} : DelBox b (bx b T vs :: M) T vs M := ⟨Del.here⟩
instance DelBox.tail {b : Nat} {T : TypeId} {vs : List Value} {r : Res} {M M' : List Res} [h : DelBox b M T vs M'] : DelBox b (r :: M) T vs (r :: M') := ⟨Del.there h.del⟩

theorem Imp.box_to {T : TypeId} {vs : List Value} {M' : List Res} {X : Act → World → Prop} (b : Nat) [hd : DelBox b M T vs M'] (us : List Value) (e : vs = us) (h : Imp W n D L (bx b T us :: M') R X) : Imp W n D L M R X := by
  subst e
  exact fun a w h1 h2 h3 => h a w h1 h2 (h3.perm hd.del.perm)
theorem Imp.sealB {T : TypeId} {vs : List Value} {M' : List Res} {X : Act → World → Prop} (b : Nat) [hd : DelBox b M T vs M'] (h : Imp W n D L M' (boxF b T vs :: R) X) : Imp W n D L M R X := by
  intro a w h1 h2 h3
  have h4 : St W (bx b T vs :: M') R w := h3.perm hd.del.perm
  refine h a w h1 h2 ?_
  refine (h4.seal_.derive (ψ := boxF b T vs) fun V hV => ?_).weak ?_
  · obtain ⟨s, hs, hp⟩ := hV (sealed (bx b T vs)) (by simp)
    have hs' : s = [(b, .cells vs.toArray T (0, 0))] := hs
    subst hs'
    exact hp (b, .cells vs.toArray T (0, 0)) (by simp)
  · intro φ hφ
    rcases List.mem_cons.1 hφ with rfl | hφ
    · simp
    · simp [hφ]
theorem St.cellF {w : World} {b : Nat} {T : TypeId} {vs : List Value} (h : St W M R w) (hm : boxF b T vs ∈ R) (i : Nat) : w.cell? ⟨b, i, none⟩ = vs[i]? := by
  rw [cell_of_row w b i _ T (0, 0) (h.fact hm)]; simp
theorem v_lf1 {T : TypeId} {x : Operand} {b off : Nat} {B : TypeId} {vs : List Value} {v : Value} {d : TypeDesc} [hm : HasBoxF b R B vs] (ho : o.op = .load T x) (hT : P.underlying T = some d) (hd : aggD d = false)
    (hx : ev L x = some (pt b off)) (hv : vs[off]? = some v) : OpQ P W n L M R o v :=
  OpQ.of_value fun f w h1 h2 => by
    have hc := h2.cellF hm.mem off
    rw [hv] at hc
    have hagg := run_isAgg' (w := w) hT
    rw [hd] at hagg
    simp [execOp, ho, h1.ev hx, Instr.loadAt, pt, Instr.sureAddr, loadVar, hagg, hc]
theorem v_lfN {T : TypeId} {x : Operand} {b off : Nat} {B : TypeId} {vs us : List Value} {d : TypeDesc} {i : TypeInfo} [hm : HasBoxF b R B vs] (ho : o.op = .load T x) (hT : P.underlying T = some d) (hd : aggD d = true) (hi : P.info? T = some i)
    (hx : ev L x = some (pt b off)) (hu : (vs.drop off).take i.size = us) (hl : us.length = i.size) : OpQ P W n L M R o (.agg us.toArray) :=
  OpQ.of_value fun f w h1 h2 => by
    have hagg := run_isAgg' (w := w) hT
    rw [hd] at hagg
    have hlc : (loadCells ⟨b, off, none⟩ i.size).run P w = .ok us.toArray w := by
      rw [← hl]
      refine run_loadCells_list w _ us fun j v hj => ?_
      have hlt : j < us.length := (List.getElem?_eq_some_iff.1 hj).1
      rw [add_at, h2.cellF hm.mem, ← hj, ← hu, List.getElem?_take, if_pos (by omega), List.getElem?_drop]
    simp [execOp, ho, h1.ev hx, Instr.loadAt, pt, Instr.sureAddr, loadVar, hagg, run_sizeOf' hi, hlc]
theorem v_lfW {T : TypeId} {x : Operand} {b : Nat} {B : TypeId} {vs : List Value} {d : TypeDesc} {i : TypeInfo} [hm : HasBoxF b R B vs] (ho : o.op = .load T x) (hT : P.underlying T = some d) (hd : aggD d = true) (hi : P.info? T = some i)
    (hx : ev L x = some (pt b 0)) (hu : vs.length = i.size) : OpQ P W n L M R o (.agg vs.toArray) :=
  v_lfN ho hT hd hi hx (by rw [List.drop_zero, ← hu, List.take_length]) hu

/-! ### a slice of an array's block -/
theorem v_sliceA {T : TypeId} {x : Operand} {b len : Nat} {e : TypeId} {i : TypeInfo} (ho : o.op = .slice T x none none none) (hT : P.underlying T = some (.array len e)) (hi : P.info? e = some i) (hx : ev L x = some (pt b 0)) :
    OpQ P W n L M R o (.slice (some ⟨b, 0, none⟩) len len) :=
  OpQ.of_value fun f w h1 _ => by
    have e0 := h1.ev hx
    have : ∀ ρ : Operand → Value, ρ x = pt b 0 → (execOp ρ o).run P w = .ok (.value (.slice (some ⟨b, 0, none⟩) len len)) w := by
      intro ρ e0
      have ha : (⟨b, 0, none⟩ : Addr).add 0 = ⟨b, 0, none⟩ := by rw [add_at]
      simp [execOp, ho, e0, Instr.sliceAt, run_underlying hT, Instr.sureAddr, pt, Instr.sliceBounds, run_sizeOf' hi, ha]
    exact this _ e0
/-- An array of single cells is a row of its elements. -/
theorem Imp.rowB {α : Type} {b : Nat} {T : TypeId} {vs : List Value} {X : Act → World → Prop} (enc : α → Value) (xs : List α) [hb : HasBoxF b R T vs] (e : vs = xs.map enc) (h : Imp W n D L M (rowD (some ⟨b, 0, none⟩) 1 (fun x => [enc x]) xs :: R) X) : Imp W n D L M R X := by
  intro a w h1 h2 h3
  refine h a w h1 h2 (h3.derive fun V hV => .inr ⟨b, 0, vs.toArray, T, (0, 0), rfl, hV _ hb.mem, fun i j hi hj => ?_⟩)
  obtain rfl : j = 0 := by omega
  subst e
  simp [hi]
end Go.G
namespace Go.G
section
variable {P : Program} {W : World} {n : Nat} {D : List Deferred} {L : Tm} {M : List Res} {R : List Fact} {Q : Exit → Act → World → Prop} {o : Oper}
theorem run_byteOf0 {w : World} {b : Nat} {T : TypeId} (h : w.heap[b]? = some (.cells #[] T (0, 0))) (hc : P.cellsOf T = 0) : (byteOf ⟨b, 0, none⟩).run P w = .ok 0 w := by
  unfold byteOf
  simp [noView, viewAt, getObj, shape, World.shape?, Sem.run, h, hc, Sem.run_bind, go_sem]
theorem v_fieldAddr0 {T : TypeId} {x : Operand} {b j : Nat} {fs : Array Field} {f : Field} {i : TypeInfo} [hm : HasBox b M T []] (ho : o.op = .fieldAddr T x j) (hT : P.underlying T = some (.struct fs)) {ft : TypeId} (hi : P.info? ft = some i) (hf : fs[j]? = some f) (hft : f.type = ft) (hz : i.size = 0) (h1 : f.offset = 0) (h2 : f.byteOffset = 0) (hc : P.cellsOf T = 0)
    (hx : ev L x = some (pt b 0)) : OpQ P W n L M R o (pt b 0) :=
  OpQ.of_value fun g w g1 g2 => by
    subst hft
    have hb := run_byteOf0 (P := P) (g2.bl hm.mem) hc
    simp [execOp, ho, g1.ev hx, Instr.fieldAt, pt, run_underlying hT, hf, Instr.sureAddr, fieldPlace, run_sizeOf' hi, hz, partAt, h1, h2, hb]

/-! ### contracts that hand back a pointer to a known block, or a known slice -/
def blk : Value → Nat
  | .pointer (some a) => a.block
  | _ => 0
@[reducible] def isP (v : Value) : Prop := v = pt (blk v) 0
theorem isP_pt (b : Nat) : isP (pt b 0) := rfl
theorem o_fnp {ops : Array Oper} {rest : List Oper} {k : FuncId} {args : List Value} {R0 : List Fact} {T : TypeId} {cells : List Value} {xs : List Operand} {ts : Array TypeId} {d : Nat}
    (h : FnR P k args R0 isP (fun v => [boxF (blk v) T cells])) (ho : o.op = .call { callee := .value (.func k), args := xs.toArray, argTypes := ts })
    (hx : evs L xs = some args) (hg : o.guard = none) (hdst : o.dst = some d) (hd : Nat.blt d n = true) (hs : SubR R R0)
    (hret : ∀ fb, Imp W n D ((d, pt fb 0) :: L) M (boxF fb T cells :: R) (wpList P ops Q rest)) : Imp W n D L M R (wpList P ops Q (o :: rest)) :=
  o_fn h ho hx hg hdst hd hs (fun v hv => by
    have := hret (blk v)
    rw [← (show v = pt (blk v) 0 from hv)] at this
    exact this)
theorem o_fns {α : Type} {ops : Array Oper} {rest : List Oper} {k : FuncId} {args : List Value} {R0 : List Fact} {sz m : Nat} {enc : α → List Value} {ys : List α} {xs : List Operand} {ts : Array TypeId} {d : Nat}
    (h : FnR P k args R0 (isSl m) (fun v => [rowD (adr v) sz enc ys])) (ho : o.op = .call { callee := .value (.func k), args := xs.toArray, argTypes := ts })
    (hx : evs L xs = some args) (hg : o.guard = none) (hdst : o.dst = some d) (hd : Nat.blt d n = true) (hs : SubR R R0)
    (hret : ∀ oa cap, Imp W n D ((d, .slice oa m cap) :: L) M (rowD oa sz enc ys :: R) (wpList P ops Q rest)) : Imp W n D L M R (wpList P ops Q (o :: rest)) :=
  o_fn h ho hx hg hdst hd hs (fun v hv => by
    obtain ⟨oa, cap, rfl⟩ := hv
    exact hret oa cap)
theorem p_nil2 {ops : Array Oper} {K : List Spc → Prop} {acc acc' : List Spc} (e : acc = acc') (h : K acc') : ParO P W n M R ops K [] acc L := by
  subst e; exact p_nil h
end
end Go.G

namespace Foot4
open Go Go.G

/-- A plan's steps up to day d are done, from the k-th on. -/
def advF (p : T3) (d : Int) : Nat → Nat → Nat
  | 0, k => k
  | f + 1, k => if 0 ≤ p.at k ∧ p.at k ≤ d then advF p d f (k + 1) else k
def adv (p : T3) (d : Int) (k : Nat) : Nat := advF p d (3 - k) k
theorem adv_go {p : T3} {d : Int} {k : Nat} (h : k < 3 ∧ 0 ≤ p.at k ∧ p.at k ≤ d) : adv p d k = adv p d (k + 1) := by
  unfold adv
  rw [show 3 - k = (3 - (k + 1)) + 1 from by omega, advF, if_pos h.2]
theorem adv_stop {p : T3} {d : Int} {k : Nat} (h : ¬ (k < 3 ∧ 0 ≤ p.at k ∧ p.at k ≤ d)) : adv p d k = k := by
  unfold adv
  by_cases hk : k < 3
  · rw [show 3 - k = (3 - (k + 1)) + 1 from by omega, advF, if_neg (fun x => h ⟨hk, x⟩)]
  · rw [show 3 - k = 0 from by omega, advF]
theorem advF_le {p : T3} {d : Int} : ∀ f k, advF p d f k ≤ k + f
  | 0, k => Nat.le_refl k
  | f + 1, k => by
    have := advF_le (p := p) (d := d) f (k + 1)
    simp only [advF]
    split <;> omega
theorem adv_le {p : T3} {d : Int} {k : Nat} (h : k ≤ 3) : adv p d k ≤ 3 := by
  have := advF_le (p := p) (d := d) (3 - k) k
  unfold adv; omega
/-- How wet it is, and how many steps are done, as the program goes. -/
def wetS (sel : Int → Int → Int) (F : Work) (heap : Nat) (p : T3) : Nat → Int × Nat
  | 0 => (sel (F.heaps.getD heap default).lo (F.heaps.getD heap default).hi, 0)
  | d + 1 =>
    let s := wetS sel F heap p d
    let k := adv p d s.2
    if k = 3 then (s.1, 3) else (step s.1 (sel (F.rain.getD d default).lo (F.rain.getD d default).hi) (F.dr.at k), k)
def wetF (sel : Int → Int → Int) (F : Work) (heap : Nat) (p : T3) (d : Nat) : Int := (wetS sel F heap p d).1
theorem wetS_le (sel : Int → Int → Int) (F : Work) (heap : Nat) (p : T3) (d : Nat) : (wetS sel F heap p d).2 ≤ 3 := by
  induction d with
  | zero => simp [wetS]
  | succ d ih =>
    simp only [wetS]
    split
    · exact Nat.le_refl 3
    · exact adv_le ih
theorem adv_3 {p : T3} {d : Int} : adv p d 3 = 3 := adv_stop (by omega)
/-- All steps done: it stays. -/
theorem wetS_3 {sel : Int → Int → Int} {F : Work} {heap : Nat} {p : T3} {d : Nat} (h : (wetS sel F heap p d).2 = 3) : ∀ e, d ≤ e → wetS sel F heap p e = wetS sel F heap p d := by
  intro e he
  induction e with
  | zero => obtain rfl : d = 0 := by omega
            rfl
  | succ e ih =>
    by_cases h1 : d = e + 1
    · subst h1; rfl
    · have := ih (by omega)
      simp only [wetS, this, h, adv_3, if_true]
      exact Prod.ext rfl h.symm
theorem wetS_next {sel : Int → Int → Int} {F : Work} {heap : Nat} {p : T3} {d k : Nat} (hk : adv p d (wetS sel F heap p d).2 = k) (h : k ≠ 3) : wetS sel F heap p (d + 1) = (step (wetF sel F heap p d) (sel (F.rain.getD d default).lo (F.rain.getD d default).hi) (F.dr.at k), k) := by
  simp only [wetS, hk, h, if_false, wetF]
theorem wetS_end {sel : Int → Int → Int} {F : Work} {heap : Nat} {p : T3} {d : Nat} (hk : adv p d (wetS sel F heap p d).2 = 3) : ∀ e, d < e → wetF sel F heap p e = wetF sel F heap p d := by
  intro e he
  have h1 : wetS sel F heap p (d + 1) = (wetF sel F heap p d, 3) := by simp only [wetS, hk, if_true, wetF]
  have := wetS_3 (d := d + 1) (by rw [h1]) e (by omega)
  show (wetS sel F heap p e).1 = _
  rw [this, h1]
/-- One of the two truths. -/
structure Tr (P : Program) (name : String) where
  T : TypeId
  v : Value
  k : FuncId
  sel : Int → Int → Int
  hm : HasM P T name k
  hv : ∀ lo hi : Int, -1000 ≤ lo → lo ≤ 1000 → -1000 ≤ hi → hi ≤ 1000 → FnV P k [v, .agg #[i64 lo, i64 hi]] [] (i64 (sel lo hi))
  hs : ∀ lo hi, sel lo hi = lo ∨ sel lo hi = hi
abbrev Tr.i {P : Program} {name : String} (t : Tr P name) : Value := .iface t.T t.v
theorem wetS_bd {P : Program} {name : String} (t : Tr P name) {F : Work} (h : Bnd F) (heap : Nat) (p : T3) (d : Nat) : 0 ≤ wetF t.sel F heap p d ∧ wetF t.sel F heap p d ≤ 60 + 10 * d := by
  induction d with
  | zero =>
    have := h.heap heap
    rcases t.hs (F.heaps.getD heap default).lo (F.heaps.getD heap default).hi with e | e <;> simp only [wetF, wetS, e] <;> omega
  | succ d ih =>
    simp only [wetF, wetS]
    split
    · have := ih; unfold wetF at this; omega
    · have := h.rain d
      have hd := h.dr (adv p d (wetS t.sel F heap p d).2)
      unfold wetF at ih
      have hsel : 0 ≤ t.sel (F.rain.getD d default).lo (F.rain.getD d default).hi ∧ t.sel (F.rain.getD d default).lo (F.rain.getD d default).hi ≤ 10 := by
        rcases t.hs (F.rain.getD d default).lo (F.rain.getD d default).hi with e | e <;> rw [e] <;> omega
      have := step_bd ih.1 ih.2 hsel.1 hsel.2 hd.1
      show 0 ≤ step _ _ _ ∧ step _ _ _ ≤ _
      omega
def canF (sel : Int → Int → Int) (F : Work) (heap : Nat) (p : T3) (k : Nat) : Prop := p.at k < 0 ∨ wetF sel F heap p (p.at k).toNat ≤ F.lim.at k
instance (sel : Int → Int → Int) (F : Work) (heap : Nat) (p : T3) (k : Nat) : Decidable (canF sel F heap p k) := by unfold canF; infer_instance
def keptF (sel : Int → Int → Int) (F : Work) (heap : Nat) (p : T3) : Prop := canF sel F heap p 0 ∧ canF sel F heap p 1 ∧ canF sel F heap p 2
instance (sel : Int → Int → Int) (F : Work) (heap : Nat) (p : T3) : Decidable (keptF sel F heap p) := by unfold keptF; infer_instance
def capB : Value → Nat
  | .func _ _ cs => blk (cs.getD 0 undef)
  | _ => 0
theorem chk_ne {F : Work} {v : Bool} (h : ¬ GoodF F) : chk F v ≠ 0 := by unfold chk; rw [if_neg h]; decide
/-! ### what the program's functions answer -/
abbrev selD : Int → Int → Int := fun lo _ => lo
abbrev selW : Int → Int → Int := fun _ hi => hi
def wetP (F : Work) (x : Int) (p : T3) (y : Int) : Span × Int :=
  let e := chk F (decide ((0 ≤ x ∧ x ≤ (F.heaps.length : Int) - 1) ∧ IsPlan F.rain.length p ∧ (0 ≤ y ∧ y ≤ (F.rain.length : Int))))
  if e = 0 then (⟨wetF selD F x.toNat p y.toNat, wetF selW F x.toNat p y.toNat⟩, 0) else (⟨0, 0⟩, e)
def keptP (F : Work) (heap : Nat) (p : T3) : Int := if keptF selW F heap p then 2 else if keptF selD F heap p then 1 else 0
def canP (F : Work) (x : Int) (p : T3) : Int × Int :=
  let e := chk F (decide ((0 ≤ x ∧ x ≤ (F.heaps.length : Int) - 1) ∧ IsPlan F.rain.length p))
  if e = 0 then (keptP F x.toNat p, 0) else (0, e)
theorem wetP_of {F : Work} {x y : Int} {p : T3} (v : Bool) (hv : decide ((0 ≤ x ∧ x ≤ (F.heaps.length : Int) - 1) ∧ IsPlan F.rain.length p ∧ (0 ≤ y ∧ y ≤ (F.rain.length : Int))) = v) (h : chk F v ≠ 0) : wetP F x p y = (⟨0, 0⟩, chk F v) := by
  unfold wetP; simp only [hv]; rw [if_neg h]
theorem wetP_ok {F : Work} {x y : Int} {p : T3} (hg : GoodF F) (hv : decide ((0 ≤ x ∧ x ≤ (F.heaps.length : Int) - 1) ∧ IsPlan F.rain.length p ∧ (0 ≤ y ∧ y ≤ (F.rain.length : Int))) = true) : wetP F x p y = (⟨wetF selD F x.toNat p y.toNat, wetF selW F x.toNat p y.toNat⟩, 0) := by
  unfold wetP; simp only [hv]; rw [if_pos (by simp [chk, hg])]
theorem canP_of {F : Work} {x : Int} {p : T3} (v : Bool) (hv : decide ((0 ≤ x ∧ x ≤ (F.heaps.length : Int) - 1) ∧ IsPlan F.rain.length p) = v) (h : chk F v ≠ 0) : canP F x p = (0, chk F v) := by
  unfold canP; simp only [hv]; rw [if_neg h]
theorem canP_ok {F : Work} {x : Int} {p : T3} (hg : GoodF F) (hv : decide ((0 ≤ x ∧ x ≤ (F.heaps.length : Int) - 1) ∧ IsPlan F.rain.length p) = true) : canP F x p = (keptP F x.toNat p, 0) := by
  unfold canP; simp only [hv]; rw [if_pos (by simp [chk, hg])]
/-! ### all whole plans, one by one -/
theorem range'_pre {s k m : Nat} (h : k ≤ m) : List.range' s k <+: List.range' s m := by
  refine ⟨List.range' (s + k) (m - k), ?_⟩
  have := List.range'_append (s := s) (m := k) (n := m - k) (step := 1)
  rw [Nat.one_mul] at this
  rw [this, show k + (m - k) = m from by omega]
theorem range_pre {k m : Nat} (h : k ≤ m) : List.range k <+: List.range m := by
  rw [List.range_eq_range', List.range_eq_range']; exact range'_pre h
theorem flatMap_pre {α β : Type} {l m : List α} (f : α → List β) (h : l <+: m) : l.flatMap f <+: m.flatMap f := by
  obtain ⟨t, rfl⟩ := h
  exact ⟨t.flatMap f, by simp⟩
theorem whole_pre {n a b c : Nat} (ha : a < b) (hb : b < c) (hc : c < n) : wholeC n a b (c + 1) <+: whole n := by
  have h1 : wholeC n a b (c + 1) <+: wholeB n a (b + 1) := by
    rw [← wholeB_step ha]
    unfold wholeC
    exact (List.prefix_append_right_inj _).2 (((range'_pre (by omega)).map _))
  have h2 : wholeB n a (b + 1) <+: wholeA n (a + 1) := by
    rw [← wholeA_step]
    unfold wholeB
    exact (List.prefix_append_right_inj _).2 (flatMap_pre _ (range'_pre (by omega)))
  have h3 : wholeA n (a + 1) <+: whole n := flatMap_pre _ (range_pre (by omega))
  exact (h1.trans h2).trans h3
theorem whole_at {n a b c : Nat} (ha : a < b) (hb : b < c) (hc : c < n) : (whole n)[(wholeC n a b c).length]? = some ⟨a, b, c⟩ := by
  obtain ⟨t, ht⟩ := whole_pre ha hb hc
  rw [← ht, wholeC_step hb]
  simp
theorem whole_lt {n a b c : Nat} (ha : a < b) (hb : b < c) (hc : c < n) : (wholeC n a b c).length + 1 ≤ (whole n).length :=
  (List.getElem?_eq_some_iff.1 (whole_at ha hb hc)).1
theorem wholeC_len1 {n a b c : Nat} (hb : b < c) : (wholeC n a b c).length + 1 = (wholeC n a b (c + 1)).length := by rw [wholeC_step hb]; simp
/-- What an iterator of plans hands out. -/
def encP (p : T3) : List Value := [.agg #[i64 p.a, i64 p.b, i64 p.c]]
def keptB (sel : Int → Int → Int) (F : Work) (heap : Nat) (p : T3) : Bool := decide (keptF sel F heap p)
def sureF (sel : Int → Int → Int) (F : Work) (heap : Nat) : List T3 := (whole F.rain.length).filter (keptB sel F heap)
def sureT (sel : Int → Int → Int) (F : Work) (heap i : Nat) : List T3 := ((whole F.rain.length).take i).filter (keptB sel F heap)
theorem sureT_yes {sel : Int → Int → Int} {F : Work} {heap i : Nat} {x : T3} (hx : (whole F.rain.length)[i]? = some x) (h : keptF sel F heap x) : sureT sel F heap i ++ [x] = sureT sel F heap (i + 1) := by
  unfold sureT
  rw [List.take_add_one, hx]
  simp [keptB, h]
theorem sureT_no {sel : Int → Int → Int} {F : Work} {heap i : Nat} {x : T3} (hx : (whole F.rain.length)[i]? = some x) (h : ¬ keptF sel F heap x) : sureT sel F heap i = sureT sel F heap (i + 1) := by
  unfold sureT
  rw [List.take_add_one, hx]
  simp [keptB, h]
theorem sureT_all {sel : Int → Int → Int} {F : Work} {heap : Nat} : sureT sel F heap (whole F.rain.length).length = sureF sel F heap := by
  unfold sureT sureF; rw [List.take_length]
/-- The best of the first k, the first of several. -/
def best1 {α : Type} (bt : α → α → Bool) (z : α) (xs : List α) : Nat → α
  | 0 => z
  | k + 1 => if k = 0 ∨ bt (xs.getD k z) (best1 bt z xs k) = true then xs.getD k z else best1 bt z xs k
theorem best1_yes {α : Type} {bt : α → α → Bool} {z : α} {xs : List α} {k : Nat} (h : k = 0 ∨ bt (xs.getD k z) (best1 bt z xs k) = true) : best1 bt z xs (k + 1) = xs.getD k z := if_pos h
theorem best1_no {α : Type} {bt : α → α → Bool} {z : α} {xs : List α} {k : Nat} (h0 : k ≠ 0) (h : ¬ bt (xs.getD k z) (best1 bt z xs k) = true) : best1 bt z xs (k + 1) = best1 bt z xs k := if_neg (fun x => x.elim h0 h)
def soon (p q : T3) : Bool := decide (p.c < q.c)
theorem soon_no {p q : T3} (h : ¬ p.c < q.c) : ¬ soon p q = true := fun x => h (of_decide_eq_true x)
def soonL (l : List T3) : T3 := best1 soon default l l.length
def soonP (F : Work) (x : Int) : T3 × Int :=
  let e := chk F (decide (0 ≤ x ∧ x ≤ (F.heaps.length : Int) - 1))
  if e = 0 then (if 0 < (sureF selW F x.toNat).length then (soonL (sureF selW F x.toNat), 0) else (default, 4)) else (default, e)
theorem soonP_of {F : Work} {x : Int} (v : Bool) (hv : decide (0 ≤ x ∧ x ≤ (F.heaps.length : Int) - 1) = v) (h : chk F v ≠ 0) : soonP F x = (default, chk F v) := by
  unfold soonP; simp only [hv]; rw [if_neg h]
theorem soonP_ok {F : Work} {x : Int} (hg : GoodF F) (hv : decide (0 ≤ x ∧ x ≤ (F.heaps.length : Int) - 1) = true) (hs : 0 < ((sureF selW F x.toNat).length : Int)) : soonP F x = (soonL (sureF selW F x.toNat), 0) := by
  unfold soonP; simp only [hv]; rw [if_pos (by simp [chk, hg]), if_pos (by omega)]
theorem soonP_none {F : Work} {x : Int} (hg : GoodF F) (hv : decide (0 ≤ x ∧ x ≤ (F.heaps.length : Int) - 1) = true) (hs : ¬ 0 < ((sureF selW F x.toNat).length : Int)) : soonP F x = (default, 4) := by
  unfold soonP; simp only [hv]; rw [if_pos (by simp [chk, hg]), if_neg (by omega)]
theorem whole_mem {n : Nat} {p : T3} (h : p ∈ whole n) : ∃ a b c : Nat, p = ⟨a, b, c⟩ ∧ a < b ∧ b < c ∧ c < n := by
  unfold whole at h
  obtain ⟨a, ha, h⟩ := List.mem_flatMap.1 h
  unfold bs3 at h
  obtain ⟨b, hb, h⟩ := List.mem_flatMap.1 h
  unfold cs3 at h
  obtain ⟨c, hc, rfl⟩ := List.mem_map.1 h
  simp only [List.mem_range'_1] at hb hc
  exact ⟨a, b, c, rfl, by omega, by omega, by omega⟩
theorem whole_days {n : Nat} {p : T3} (h : p ∈ whole n) : ∀ k, k < 3 → 0 ≤ p.at k ∧ p.at k ≤ (n : Int) - 1 := by
  obtain ⟨a, b, c, rfl, h1, h2, h3⟩ := whole_mem h
  intro k hk
  obtain rfl | rfl | rfl : k = 0 ∨ k = 1 ∨ k = 2 := by omega
  · show (0 : Int) ≤ a ∧ (a : Int) ≤ n - 1
    omega
  · show (0 : Int) ≤ b ∧ (b : Int) ≤ n - 1
    omega
  · show (0 : Int) ≤ c ∧ (c : Int) ≤ n - 1
    omega
theorem whole_le {n : Nat} (hn : n ≤ 8) : (whole n).length ≤ 1000 := by
  have := wholeC_len (n := n) (a := n) (b := n) (c := n) hn (by omega) (by omega) (by omega)
  unfold wholeC wholeB at this
  simp only [List.length_append] at this
  show (wholeA n n).length ≤ 1000
  omega
theorem sureF_le {sel : Int → Int → Int} {F : Work} {heap : Nat} (h : F.rain.length ≤ 8) : (sureF sel F heap).length ≤ 1000 := by
  have h1 := List.length_filter_le (keptB sel F heap) (whole F.rain.length)
  have h2 := whole_le h
  unfold sureF; omega
theorem sureT_le {sel : Int → Int → Int} {F : Work} {heap i : Nat} (h : F.rain.length ≤ 8) : (sureT sel F heap i).length ≤ 1000 := by
  unfold sureT
  have h1 := List.length_filter_le (keptB sel F heap) ((whole F.rain.length).take i)
  have h2 := whole_le h
  have h3 := List.length_take_le' i (whole F.rain.length)
  omega
end Foot4

namespace Go.Proofs.Ytienjlmnakbfmaa
open Go.G Foot4
set_option maxRecDepth 1000000
set_option maxHeartbeats 4000000 in
theorem within_v (a b c : Int) : FnV Try.prog 50 [i64 a, i64 b, i64 c] [] (.bool (decide (b ≤ a ∧ a ≤ c))) := by
  refine FnV.intro Try.call50 Try.func50 rfl Try.ntmps50 rfl ?_
  intro W M Rf
  refine r_seq ?_
  refine r_region ?_
  refine o_q _ rfl rfl rfl (v_assign rfl rfl) ?_
  refine o_nil ?_
  repeat (first | with_reducible refine r_then ?_ | with_reducible refine r_in_normal ?_ | with_reducible refine r_sc_normal ?_)
  refine r_seq ?_
  refine r_region ?_
  refine o_q _ rfl rfl rfl (v_move rfl rfl) ?_
  refine o_q _ rfl rfl rfl (v_move rfl rfl) ?_
  first | refine o_q _ rfl rfl rfl (v_true (v_leq rfl rfl rfl) (by omega)) ?_ | refine o_q _ rfl rfl rfl (v_false (v_leq rfl rfl rfl) (by omega)) ?_ | refine o_test rfl rfl rfl (v_leq rfl rfl rfl) (fun h9 => ?_) (fun h9 => ?_)
  all_goals
    refine o_q _ rfl rfl rfl (v_move rfl rfl) ?_
    first | refine o_gn rfl rfl rfl rfl ?_ | refine o_g _ rfl rfl rfl rfl (v_move rfl rfl) ?_
    first | refine o_gn rfl rfl rfl rfl ?_ | refine o_g _ rfl rfl rfl rfl (v_move rfl rfl) ?_
    first | refine o_gn rfl rfl rfl rfl ?_ | refine o_g _ rfl rfl rfl rfl (v_true (v_leq rfl rfl rfl) (by omega)) ?_ | refine o_g _ rfl rfl rfl rfl (v_false (v_leq rfl rfl rfl) (by omega)) ?_ | refine o_gtest rfl rfl rfl rfl (v_leq rfl rfl rfl) (fun h13 => ?_) (fun h13 => ?_)
    all_goals
      first | refine o_q _ rfl rfl rfl (v_pick_t rfl rfl rfl) ?_ | refine o_q _ rfl rfl rfl (v_pick_f rfl rfl rfl) ?_
      refine o_q _ rfl rfl rfl (v_assign rfl rfl) ?_
      refine o_nil ?_
      repeat (first | with_reducible refine r_then ?_ | with_reducible refine r_in_normal ?_ | with_reducible refine r_sc_normal ?_)
      refine r_ret ?_
      repeat (first | with_reducible refine r_then_ret ?_ | with_reducible refine r_in_ret ?_ | with_reducible refine r_sc_ret ?_)
      first | exact r_retv2 (Rd.tmp rfl rfl) rfl SelMC.sel SubRC.sub | exact r_retv2 (Rd.tmp rfl rfl) (congrArg Value.bool (decide_eq_true (by omega)).symm) SelMC.sel SubRC.sub | exact r_retv2 (Rd.tmp rfl rfl) (congrArg Value.bool (decide_eq_false (by omega)).symm) SelMC.sel SubRC.sub
set_option maxHeartbeats 4000000 in
theorem isSpan_v (lo hi a b : Int) : FnV Try.prog 84 [.agg #[i64 lo, i64 hi], i64 a, i64 b] [] (.bool (decide (a ≤ lo ∧ lo ≤ hi ∧ hi ≤ b))) := by
  refine FnV.intro Try.call84 Try.func84 rfl Try.ntmps84 rfl ?_
  intro W M Rf
  refine r_seq ?_
  refine r_region ?_
  refine o_boxA rfl rfl rfl rfl rfl (fun b3 => ?_)
  refine o_q _ rfl rfl rfl (v_assign rfl rfl) ?_
  refine o_nil ?_
  repeat (first | with_reducible refine r_then ?_ | with_reducible refine r_in_normal ?_ | with_reducible refine r_sc_normal ?_)
  refine r_seq ?_
  refine r_region ?_
  refine o_q _ rfl rfl rfl (v_move rfl rfl) ?_
  first | refine o_q _ rfl rfl rfl (v_fieldAddr rfl Try.underlying31 inf3 rfl rfl rfl rfl) ?_ | refine o_q _ rfl rfl rfl (v_fieldAddrE rfl Try.underlying31 inf3 rfl rfl rfl rfl) ?_
  first | refine o_q _ rfl rfl rfl (v_ld1 rfl Try.underlying3 rfl rfl rfl) ?_ | refine o_q _ rfl rfl rfl (v_lf1 rfl Try.underlying3 rfl rfl rfl) ?_ | refine o_q _ rfl rfl rfl (v_loadE1 rfl Try.underlying3 rfl rfl (by omega) rfl rfl) ?_
  first | refine o_q _ rfl rfl rfl (v_true (v_leq rfl rfl rfl) (by omega)) ?_ | refine o_q _ rfl rfl rfl (v_false (v_leq rfl rfl rfl) (by omega)) ?_ | refine o_test rfl rfl rfl (v_leq rfl rfl rfl) (fun h10 => ?_) (fun h10 => ?_)
  all_goals
    refine o_q _ rfl rfl rfl (v_move rfl rfl) ?_
    first | refine o_gn rfl rfl rfl rfl ?_ | refine o_g _ rfl rfl rfl rfl (v_fieldAddr rfl Try.underlying31 inf3 rfl rfl rfl rfl) ?_ | refine o_g _ rfl rfl rfl rfl (v_fieldAddrE rfl Try.underlying31 inf3 rfl rfl rfl rfl) ?_
    first | refine o_gn rfl rfl rfl rfl ?_ | refine o_g _ rfl rfl rfl rfl (v_ld1 rfl Try.underlying3 rfl rfl rfl) ?_ | refine o_g _ rfl rfl rfl rfl (v_lf1 rfl Try.underlying3 rfl rfl rfl) ?_ | refine o_g _ rfl rfl rfl rfl (v_loadE1 rfl Try.underlying3 rfl rfl (by omega) rfl rfl) ?_
    first | refine o_gn rfl rfl rfl rfl ?_ | refine o_g _ rfl rfl rfl rfl (v_fieldAddr rfl Try.underlying31 inf3 rfl rfl rfl rfl) ?_ | refine o_g _ rfl rfl rfl rfl (v_fieldAddrE rfl Try.underlying31 inf3 rfl rfl rfl rfl) ?_
    first | refine o_gn rfl rfl rfl rfl ?_ | refine o_g _ rfl rfl rfl rfl (v_ld1 rfl Try.underlying3 rfl rfl rfl) ?_ | refine o_g _ rfl rfl rfl rfl (v_lf1 rfl Try.underlying3 rfl rfl rfl) ?_ | refine o_g _ rfl rfl rfl rfl (v_loadE1 rfl Try.underlying3 rfl rfl (by omega) rfl rfl) ?_
    first | refine o_gn rfl rfl rfl rfl ?_ | refine o_g _ rfl rfl rfl rfl (v_true (v_leq rfl rfl rfl) (by omega)) ?_ | refine o_g _ rfl rfl rfl rfl (v_false (v_leq rfl rfl rfl) (by omega)) ?_ | refine o_gtest rfl rfl rfl rfl (v_leq rfl rfl rfl) (fun h16 => ?_) (fun h16 => ?_)
    all_goals
      first | refine o_q _ rfl rfl rfl (v_pick_t rfl rfl rfl) ?_ | refine o_q _ rfl rfl rfl (v_pick_f rfl rfl rfl) ?_
      refine o_q _ rfl rfl rfl (v_move rfl rfl) ?_
      first | refine o_gn rfl rfl rfl rfl ?_ | refine o_g _ rfl rfl rfl rfl (v_fieldAddr rfl Try.underlying31 inf3 rfl rfl rfl rfl) ?_ | refine o_g _ rfl rfl rfl rfl (v_fieldAddrE rfl Try.underlying31 inf3 rfl rfl rfl rfl) ?_
      first | refine o_gn rfl rfl rfl rfl ?_ | refine o_g _ rfl rfl rfl rfl (v_ld1 rfl Try.underlying3 rfl rfl rfl) ?_ | refine o_g _ rfl rfl rfl rfl (v_lf1 rfl Try.underlying3 rfl rfl rfl) ?_ | refine o_g _ rfl rfl rfl rfl (v_loadE1 rfl Try.underlying3 rfl rfl (by omega) rfl rfl) ?_
      first | refine o_gn rfl rfl rfl rfl ?_ | refine o_g _ rfl rfl rfl rfl (v_move rfl rfl) ?_
      first | refine o_gn rfl rfl rfl rfl ?_ | refine o_g _ rfl rfl rfl rfl (v_true (v_leq rfl rfl rfl) (by omega)) ?_ | refine o_g _ rfl rfl rfl rfl (v_false (v_leq rfl rfl rfl) (by omega)) ?_ | refine o_gtest rfl rfl rfl rfl (v_leq rfl rfl rfl) (fun h22 => ?_) (fun h22 => ?_)
      all_goals
        first | refine o_q _ rfl rfl rfl (v_pick_t rfl rfl rfl) ?_ | refine o_q _ rfl rfl rfl (v_pick_f rfl rfl rfl) ?_
        refine o_q _ rfl rfl rfl (v_assign rfl rfl) ?_
        refine o_nil ?_
        repeat (first | with_reducible refine r_then ?_ | with_reducible refine r_in_normal ?_ | with_reducible refine r_sc_normal ?_)
        refine r_ret ?_
        repeat (first | with_reducible refine r_then_ret ?_ | with_reducible refine r_in_ret ?_ | with_reducible refine r_sc_ret ?_)
        first | exact r_retv2 (Rd.tmp rfl rfl) rfl SelMC.sel SubRC.sub | exact r_retv2 (Rd.tmp rfl rfl) (congrArg Value.bool (decide_eq_true (by omega)).symm) SelMC.sel SubRC.sub | exact r_retv2 (Rd.tmp rfl rfl) (congrArg Value.bool (decide_eq_false (by omega)).symm) SelMC.sel SubRC.sub
set_option maxHeartbeats 4000000 in
theorem open1_v (s : Span) : FnV Try.prog 83 [.agg #[i64 s.lo, i64 s.hi]] [] (.bool (decide (¬ SpanOk s 10))) := by
  refine FnV.intro Try.call83 Try.func83 rfl Try.ntmps83 rfl ?_
  intro W M Rf
  refine r_seq ?_
  refine r_region ?_
  refine o_boxA rfl rfl rfl rfl rfl (fun b1 => ?_)
  refine o_q _ rfl rfl rfl (v_assign rfl rfl) ?_
  refine o_nil ?_
  repeat (first | with_reducible refine r_then ?_ | with_reducible refine r_in_normal ?_ | with_reducible refine r_sc_normal ?_)
  refine r_seq ?_
  refine r_region ?_
  first | refine o_q _ rfl rfl rfl (v_ldW rfl Try.underlying31 rfl inf31 rfl rfl) ?_ | refine o_q _ rfl rfl rfl (v_lfW rfl Try.underlying31 rfl inf31 rfl rfl) ?_ | refine o_q _ rfl rfl rfl (v_lfN rfl Try.underlying31 rfl inf31 rfl rfl rfl) ?_ | refine o_q _ rfl rfl rfl (v_ldN rfl Try.underlying31 rfl inf31 rfl rfl rfl) ?_ | refine o_q _ rfl rfl rfl (v_loadEN rfl Try.underlying31 rfl inf31 rfl (by omega) rfl rfl rfl) ?_
  first | refine o_q _ rfl rfl rfl (v_true (OpQ.fn (isSpan_v _ _ _ _) rfl rfl SubRC.sub) (by omega)) ?_ | refine o_q _ rfl rfl rfl (v_false (OpQ.fn (isSpan_v _ _ _ _) rfl rfl SubRC.sub) (by omega)) ?_ | refine o_test rfl rfl rfl (OpQ.fn (isSpan_v _ _ _ _) rfl rfl SubRC.sub) (fun h4 => ?_) (fun h4 => ?_)
  all_goals
    refine o_q _ rfl rfl rfl (v_not rfl rfl) ?_
    refine o_q _ rfl rfl rfl (v_assign rfl rfl) ?_
    refine o_nil ?_
    repeat (first | with_reducible refine r_then ?_ | with_reducible refine r_in_normal ?_ | with_reducible refine r_sc_normal ?_)
    refine r_ret ?_
    repeat (first | with_reducible refine r_then_ret ?_ | with_reducible refine r_in_ret ?_ | with_reducible refine r_sc_ret ?_)
    exact r_retv2 (Rd.tmp rfl rfl) (congrArg Value.bool (by simp [SpanOk, *])) SelMC.sel SubRC.sub
set_option maxHeartbeats 4000000 in
theorem spans_r (p : Span → Prop) [DecidablePred p] (xs : List Span) (oa : Option Addr) (c : Nat) (fv : FuncId) (caps : List Value) (Rs : List Fact) (hl : xs.length ≤ 1000) (hf : ∀ k, k < xs.length → FnV Try.prog fv (.agg #[i64 (xs.getD k default).lo, i64 (xs.getD k default).hi] :: caps) Rs (.bool (decide (p (xs.getD k default))))) : FnR Try.prog 103 [.slice oa xs.length c, .func (.func fv) #[] caps.toArray] (rowD oa 2 (encS) xs :: Rs) (fun v => (v = i64 (-1) ∧ ∀ j, j < xs.length → ¬ p (xs.getD j default)) ∨ ∃ k : Nat, v = i64 k ∧ k < xs.length ∧ p (xs.getD k default)) (fun _ => []) := by
  refine FnR.intro Try.call103 Try.func103 rfl Try.ntmps103 rfl ?_
  intro W M Rf
  refine r_seq ?_
  refine r_region ?_
  refine o_q _ rfl rfl rfl (v_assign rfl rfl) ?_
  refine o_nil ?_
  repeat (first | with_reducible refine r_then ?_ | with_reducible refine r_in_normal ?_ | with_reducible refine r_sc_normal ?_)
  refine r_seq ?_
  refine r_seq ?_
  refine r_region ?_
  refine o_q _ rfl rfl rfl (v_move rfl rfl) ?_
  refine o_q _ rfl rfl rfl (v_len rfl rfl Try.underlying22 rfl) ?_
  refine o_q _ rfl rfl rfl (v_move rfl rfl) ?_
  refine o_nil ?_
  repeat (first | with_reducible refine r_then ?_ | with_reducible refine r_in_normal ?_ | with_reducible refine r_sc_normal ?_)
  refine r_block ?_
  refine r_loop (ι := Nat) (fun k => k ≤ xs.length ∧ ∀ j, j < k → ¬ p (xs.getD j default)) (fun k => [(0, .slice oa xs.length c), (1, .func (.func fv) #[] caps.toArray), (7, i64 xs.length), (8, i64 k)]) (fun k => M) (fun k => (rowD oa 2 (encS) xs :: Rs) ++ Rf) (fun k => xs.length - k) 0 ?_ ?_ ?_
  ·
    exact r_here (by repeat (first | exact FSub.nil | refine FSub.cons rfl ?_)) SelMC.sel SubRC.sub
  ·
    exact ⟨by omega, fun j hj => absurd hj (by omega)⟩
  ·
    rintro k hI0
    refine r_seq ?_
    refine r_region ?_
    refine o_q _ rfl rfl rfl (v_lss rfl rfl rfl) ?_
    refine o_nil ?_
    repeat (first | with_reducible refine r_then ?_ | with_reducible refine r_in_normal ?_ | with_reducible refine r_sc_normal ?_)
    refine r_seq ?_
    first | refine r_condd rfl (fun hc9 => ?_) (fun hc9 => ?_) | refine r_cond rfl (fun hc9 => ?_) (fun hc9 => ?_)
    ·
      first
      | (exfalso; revert hc9; decide)
      | (exfalso; omega)
      | skip
        refine r_skip ?_
        repeat (first | with_reducible refine r_then ?_ | with_reducible refine r_in_normal ?_ | with_reducible refine r_sc_normal ?_)
        refine r_seq ?_
        refine r_block ?_
        refine r_seq ?_
        refine r_region ?_
        refine o_q _ rfl rfl rfl (v_move rfl rfl) ?_
        refine o_q _ rfl rfl rfl (v_assign rfl rfl) ?_
        refine o_nil ?_
        repeat (first | with_reducible refine r_then ?_ | with_reducible refine r_in_normal ?_ | with_reducible refine r_sc_normal ?_)
        refine r_seq ?_
        refine r_region ?_
        refine o_q _ rfl rfl rfl (v_move rfl rfl) ?_
        refine o_q _ rfl rfl rfl (v_move rfl rfl) ?_
        refine o_q _ rfl rfl rfl (v_move rfl rfl) ?_
        first | refine o_q _ rfl rfl rfl (v_indexAddrSn rfl Try.underlying22 inf31 rfl rfl rfl (by omega) rfl) ?_ | refine o_q _ rfl rfl rfl (v_indexAddrS rfl Try.underlying22 inf31 rfl rfl rfl (by omega) (by omega) rfl) ?_
        first | refine o_q _ rfl rfl rfl (v_ldW rfl Try.underlying31 rfl inf31 rfl rfl) ?_ | refine o_q _ rfl rfl rfl (v_lfW rfl Try.underlying31 rfl inf31 rfl rfl) ?_ | refine o_q _ rfl rfl rfl (v_lfN rfl Try.underlying31 rfl inf31 rfl rfl rfl) ?_ | refine o_q _ rfl rfl rfl (v_ldN rfl Try.underlying31 rfl inf31 rfl rfl rfl) ?_ | refine o_q _ rfl rfl rfl (v_loadEN rfl Try.underlying31 rfl inf31 rfl (by omega) rfl rfl rfl) ?_
        first | refine o_q _ rfl rfl rfl (v_true (OpQ.call (hf k (by omega)) rfl [] caps rfl rfl rfl SubRC.sub) (by omega)) ?_ | refine o_q _ rfl rfl rfl (v_false (OpQ.call (hf k (by omega)) rfl [] caps rfl rfl rfl SubRC.sub) (by omega)) ?_ | refine o_test rfl rfl rfl (OpQ.call (hf k (by omega)) rfl [] caps rfl rfl rfl SubRC.sub) (fun h16 => ?_) (fun h16 => ?_)
        all_goals
          refine o_nil ?_
          repeat (first | with_reducible refine r_then ?_ | with_reducible refine r_in_normal ?_ | with_reducible refine r_sc_normal ?_)
          first | refine r_condd rfl (fun hc16 => ?_) (fun hc16 => ?_) | refine r_cond rfl (fun hc16 => ?_) (fun hc16 => ?_)
          ·
            first
            | (exfalso; revert hc16; decide)
            | (exfalso; omega)
            | skip
              refine r_seq ?_
              refine r_region ?_
              refine o_q _ rfl rfl rfl (v_move rfl rfl) ?_
              refine o_q _ rfl rfl rfl (v_assign rfl rfl) ?_
              refine o_nil ?_
              repeat (first | with_reducible refine r_then ?_ | with_reducible refine r_in_normal ?_ | with_reducible refine r_sc_normal ?_)
              refine r_ret ?_
              repeat (first | with_reducible refine r_then_ret ?_ | with_reducible refine r_in_ret ?_ | with_reducible refine r_sc_ret ?_)
              first
              | exact r_retr (Rd.tmp rfl rfl) (Or.inl ⟨rfl, fun j hj => hI0.2 j (by omega)⟩) SelMC.sel SubRC.sub
              | exact r_retr (Rd.tmp rfl rfl) (Or.inr ⟨k, rfl, by omega, by assumption⟩) SelMC.sel SubRC.sub
          ·
            first
            | (exfalso; revert hc16; decide)
            | (exfalso; omega)
            | skip
              refine r_skip ?_
              repeat (first | with_reducible refine r_then ?_ | with_reducible refine r_in_normal ?_ | with_reducible refine r_sc_normal ?_)
              refine r_region ?_
              refine o_q _ rfl rfl rfl (v_add rfl rfl rfl (by omega)) ?_
              refine o_q _ rfl rfl rfl (v_move rfl rfl) ?_
              refine o_nil ?_
              repeat (first | with_reducible refine r_then ?_ | with_reducible refine r_in_normal ?_ | with_reducible refine r_sc_normal ?_)
              refine r_next (k + 1) ?_ ?_ ?_
              ·
                exact r_here (by repeat (first | exact FSub.nil | refine FSub.cons rfl ?_)) SelMC.sel SubRC.sub
              ·
                exact ⟨by omega, all_step hI0.2 (by assumption)⟩
              ·
                omega
    ·
      first
      | (exfalso; revert hc9; decide)
      | (exfalso; omega)
      | skip
        refine r_exit ?_
        repeat (first | with_reducible refine r_then_exit ?_ | with_reducible refine r_sc_exit ?_ | with_reducible refine r_in_here ?_ | (with_reducible refine r_in_past (by decide) ?_) | with_reducible refine r_then ?_ | with_reducible refine r_in_normal ?_ | with_reducible refine r_sc_normal ?_)
        refine r_seq ?_
        refine r_region ?_
        refine o_q _ rfl rfl rfl (v_assign rfl rfl) ?_
        refine o_nil ?_
        repeat (first | with_reducible refine r_then ?_ | with_reducible refine r_in_normal ?_ | with_reducible refine r_sc_normal ?_)
        refine r_ret ?_
        repeat (first | with_reducible refine r_then_ret ?_ | with_reducible refine r_in_ret ?_ | with_reducible refine r_sc_ret ?_)
        first
        | exact r_retr (Rd.tmp rfl rfl) (Or.inl ⟨rfl, fun j hj => hI0.2 j (by omega)⟩) SelMC.sel SubRC.sub
        | exact r_retr (Rd.tmp rfl rfl) (Or.inr ⟨k, rfl, by omega, by assumption⟩) SelMC.sel SubRC.sub
set_option maxHeartbeats 4000000 in
theorem spans_c (p : Span → Prop) [DecidablePred p] (xs : List Span) (oa : Option Addr) (c : Nat) (fv : FuncId) (caps : List Value) (Rs : List Fact) (hl : xs.length ≤ 1000) (hf : ∀ k, k < xs.length → FnV Try.prog fv (.agg #[i64 (xs.getD k default).lo, i64 (xs.getD k default).hi] :: caps) Rs (.bool (decide (p (xs.getD k default))))) : FnV Try.prog 82 [.slice oa xs.length c, .func (.func fv) #[] caps.toArray] (rowD oa 2 (encS) xs :: Rs) (.bool (decide (∃ k, k < xs.length ∧ p (xs.getD k default)))) := by
  refine FnV.intro Try.call82 Try.func82 rfl Try.ntmps82 rfl ?_
  intro W M Rf
  refine r_seq ?_
  refine r_region ?_
  refine o_q _ rfl rfl rfl (v_assign rfl rfl) ?_
  refine o_nil ?_
  repeat (first | with_reducible refine r_then ?_ | with_reducible refine r_in_normal ?_ | with_reducible refine r_sc_normal ?_)
  refine r_seq ?_
  refine r_region ?_
  refine o_q _ rfl rfl rfl (v_move rfl rfl) ?_
  refine o_q _ rfl rfl rfl (v_move rfl rfl) ?_
  refine o_fn (spans_r p xs oa c fv caps Rs hl hf) rfl rfl rfl rfl rfl SubRC.sub (fun v7 hv7 => ?_)
  obtain ⟨rfl, hn⟩ | ⟨k, rfl, hk, hp⟩ := hv7
  all_goals
    refine o_q _ rfl rfl rfl (v_geq rfl rfl rfl) ?_
    refine o_q _ rfl rfl rfl (v_assign rfl rfl) ?_
    refine o_nil ?_
    repeat (first | with_reducible refine r_then ?_ | with_reducible refine r_in_normal ?_ | with_reducible refine r_sc_normal ?_)
    refine r_ret ?_
    repeat (first | with_reducible refine r_then_ret ?_ | with_reducible refine r_in_ret ?_ | with_reducible refine r_sc_ret ?_)
    first
    | exact r_retv2 (Rd.tmp rfl rfl) (congrArg Value.bool ((decide_eq_false (by omega)).trans (decide_eq_false (fun ⟨k, hk, hp⟩ => hn k hk hp)).symm)) SelMC.sel SubRC.sub
    | exact r_retv2 (Rd.tmp rfl rfl) (congrArg Value.bool ((decide_eq_true (by omega)).trans (decide_eq_true ⟨k, hk, hp⟩).symm)) SelMC.sel SubRC.sub
set_option maxHeartbeats 4000000 in
theorem ints_r (p : Int → Prop) [DecidablePred p] (xs : List Int) (oa : Option Addr) (c : Nat) (fv : FuncId) (caps : List Value) (Rs : List Fact) (hl : xs.length ≤ 1000) (hf : ∀ k, k < xs.length → FnV Try.prog fv (i64 (xs.getD k default) :: caps) Rs (.bool (decide (p (xs.getD k default))))) : FnR Try.prog 105 [.slice oa xs.length c, .func (.func fv) #[] caps.toArray] (rowD oa 1 (fun n : Int => [i64 n]) xs :: Rs) (fun v => (v = i64 (-1) ∧ ∀ j, j < xs.length → ¬ p (xs.getD j default)) ∨ ∃ k : Nat, v = i64 k ∧ k < xs.length ∧ p (xs.getD k default)) (fun _ => []) := by
  refine FnR.intro Try.call105 Try.func105 rfl Try.ntmps105 rfl ?_
  intro W M Rf
  refine r_seq ?_
  refine r_region ?_
  refine o_q _ rfl rfl rfl (v_assign rfl rfl) ?_
  refine o_nil ?_
  repeat (first | with_reducible refine r_then ?_ | with_reducible refine r_in_normal ?_ | with_reducible refine r_sc_normal ?_)
  refine r_seq ?_
  refine r_seq ?_
  refine r_region ?_
  refine o_q _ rfl rfl rfl (v_move rfl rfl) ?_
  refine o_q _ rfl rfl rfl (v_len rfl rfl Try.underlying52 rfl) ?_
  refine o_q _ rfl rfl rfl (v_move rfl rfl) ?_
  refine o_nil ?_
  repeat (first | with_reducible refine r_then ?_ | with_reducible refine r_in_normal ?_ | with_reducible refine r_sc_normal ?_)
  refine r_block ?_
  refine r_loop (ι := Nat) (fun k => k ≤ xs.length ∧ ∀ j, j < k → ¬ p (xs.getD j default)) (fun k => [(0, .slice oa xs.length c), (1, .func (.func fv) #[] caps.toArray), (7, i64 xs.length), (8, i64 k)]) (fun k => M) (fun k => (rowD oa 1 (fun n : Int => [i64 n]) xs :: Rs) ++ Rf) (fun k => xs.length - k) 0 ?_ ?_ ?_
  ·
    exact r_here (by repeat (first | exact FSub.nil | refine FSub.cons rfl ?_)) SelMC.sel SubRC.sub
  ·
    exact ⟨by omega, fun j hj => absurd hj (by omega)⟩
  ·
    rintro k hI0
    refine r_seq ?_
    refine r_region ?_
    refine o_q _ rfl rfl rfl (v_lss rfl rfl rfl) ?_
    refine o_nil ?_
    repeat (first | with_reducible refine r_then ?_ | with_reducible refine r_in_normal ?_ | with_reducible refine r_sc_normal ?_)
    refine r_seq ?_
    first | refine r_condd rfl (fun hc9 => ?_) (fun hc9 => ?_) | refine r_cond rfl (fun hc9 => ?_) (fun hc9 => ?_)
    ·
      first
      | (exfalso; revert hc9; decide)
      | (exfalso; omega)
      | skip
        refine r_skip ?_
        repeat (first | with_reducible refine r_then ?_ | with_reducible refine r_in_normal ?_ | with_reducible refine r_sc_normal ?_)
        refine r_seq ?_
        refine r_block ?_
        refine r_seq ?_
        refine r_region ?_
        refine o_q _ rfl rfl rfl (v_move rfl rfl) ?_
        refine o_q _ rfl rfl rfl (v_assign rfl rfl) ?_
        refine o_nil ?_
        repeat (first | with_reducible refine r_then ?_ | with_reducible refine r_in_normal ?_ | with_reducible refine r_sc_normal ?_)
        refine r_seq ?_
        refine r_region ?_
        refine o_q _ rfl rfl rfl (v_move rfl rfl) ?_
        refine o_q _ rfl rfl rfl (v_move rfl rfl) ?_
        refine o_q _ rfl rfl rfl (v_move rfl rfl) ?_
        first | refine o_q _ rfl rfl rfl (v_indexAddrSn rfl Try.underlying52 inf3 rfl rfl rfl (by omega) rfl) ?_ | refine o_q _ rfl rfl rfl (v_indexAddrS rfl Try.underlying52 inf3 rfl rfl rfl (by omega) (by omega) rfl) ?_
        first | refine o_q _ rfl rfl rfl (v_ld1 rfl Try.underlying3 rfl rfl rfl) ?_ | refine o_q _ rfl rfl rfl (v_lf1 rfl Try.underlying3 rfl rfl rfl) ?_ | refine o_q _ rfl rfl rfl (v_loadE1 rfl Try.underlying3 rfl rfl (by omega) rfl rfl) ?_
        first | refine o_q _ rfl rfl rfl (v_true (OpQ.call (hf k (by omega)) rfl [] caps rfl rfl rfl SubRC.sub) (by omega)) ?_ | refine o_q _ rfl rfl rfl (v_false (OpQ.call (hf k (by omega)) rfl [] caps rfl rfl rfl SubRC.sub) (by omega)) ?_ | refine o_test rfl rfl rfl (OpQ.call (hf k (by omega)) rfl [] caps rfl rfl rfl SubRC.sub) (fun h16 => ?_) (fun h16 => ?_)
        all_goals
          refine o_nil ?_
          repeat (first | with_reducible refine r_then ?_ | with_reducible refine r_in_normal ?_ | with_reducible refine r_sc_normal ?_)
          first | refine r_condd rfl (fun hc16 => ?_) (fun hc16 => ?_) | refine r_cond rfl (fun hc16 => ?_) (fun hc16 => ?_)
          ·
            first
            | (exfalso; revert hc16; decide)
            | (exfalso; omega)
            | skip
              refine r_seq ?_
              refine r_region ?_
              refine o_q _ rfl rfl rfl (v_move rfl rfl) ?_
              refine o_q _ rfl rfl rfl (v_assign rfl rfl) ?_
              refine o_nil ?_
              repeat (first | with_reducible refine r_then ?_ | with_reducible refine r_in_normal ?_ | with_reducible refine r_sc_normal ?_)
              refine r_ret ?_
              repeat (first | with_reducible refine r_then_ret ?_ | with_reducible refine r_in_ret ?_ | with_reducible refine r_sc_ret ?_)
              first
              | exact r_retr (Rd.tmp rfl rfl) (Or.inl ⟨rfl, fun j hj => hI0.2 j (by omega)⟩) SelMC.sel SubRC.sub
              | exact r_retr (Rd.tmp rfl rfl) (Or.inr ⟨k, rfl, by omega, by assumption⟩) SelMC.sel SubRC.sub
          ·
            first
            | (exfalso; revert hc16; decide)
            | (exfalso; omega)
            | skip
              refine r_skip ?_
              repeat (first | with_reducible refine r_then ?_ | with_reducible refine r_in_normal ?_ | with_reducible refine r_sc_normal ?_)
              refine r_region ?_
              refine o_q _ rfl rfl rfl (v_add rfl rfl rfl (by omega)) ?_
              refine o_q _ rfl rfl rfl (v_move rfl rfl) ?_
              refine o_nil ?_
              repeat (first | with_reducible refine r_then ?_ | with_reducible refine r_in_normal ?_ | with_reducible refine r_sc_normal ?_)
              refine r_next (k + 1) ?_ ?_ ?_
              ·
                exact r_here (by repeat (first | exact FSub.nil | refine FSub.cons rfl ?_)) SelMC.sel SubRC.sub
              ·
                exact ⟨by omega, all_step hI0.2 (by assumption)⟩
              ·
                omega
    ·
      first
      | (exfalso; revert hc9; decide)
      | (exfalso; omega)
      | skip
        refine r_exit ?_
        repeat (first | with_reducible refine r_then_exit ?_ | with_reducible refine r_sc_exit ?_ | with_reducible refine r_in_here ?_ | (with_reducible refine r_in_past (by decide) ?_) | with_reducible refine r_then ?_ | with_reducible refine r_in_normal ?_ | with_reducible refine r_sc_normal ?_)
        refine r_seq ?_
        refine r_region ?_
        refine o_q _ rfl rfl rfl (v_assign rfl rfl) ?_
        refine o_nil ?_
        repeat (first | with_reducible refine r_then ?_ | with_reducible refine r_in_normal ?_ | with_reducible refine r_sc_normal ?_)
        refine r_ret ?_
        repeat (first | with_reducible refine r_then_ret ?_ | with_reducible refine r_in_ret ?_ | with_reducible refine r_sc_ret ?_)
        first
        | exact r_retr (Rd.tmp rfl rfl) (Or.inl ⟨rfl, fun j hj => hI0.2 j (by omega)⟩) SelMC.sel SubRC.sub
        | exact r_retr (Rd.tmp rfl rfl) (Or.inr ⟨k, rfl, by omega, by assumption⟩) SelMC.sel SubRC.sub
set_option maxHeartbeats 4000000 in
theorem ints_c (p : Int → Prop) [DecidablePred p] (xs : List Int) (oa : Option Addr) (c : Nat) (fv : FuncId) (caps : List Value) (Rs : List Fact) (hl : xs.length ≤ 1000) (hf : ∀ k, k < xs.length → FnV Try.prog fv (i64 (xs.getD k default) :: caps) Rs (.bool (decide (p (xs.getD k default))))) : FnV Try.prog 91 [.slice oa xs.length c, .func (.func fv) #[] caps.toArray] (rowD oa 1 (fun n : Int => [i64 n]) xs :: Rs) (.bool (decide (∃ k, k < xs.length ∧ p (xs.getD k default)))) := by
  refine FnV.intro Try.call91 Try.func91 rfl Try.ntmps91 rfl ?_
  intro W M Rf
  refine r_seq ?_
  refine r_region ?_
  refine o_q _ rfl rfl rfl (v_assign rfl rfl) ?_
  refine o_nil ?_
  repeat (first | with_reducible refine r_then ?_ | with_reducible refine r_in_normal ?_ | with_reducible refine r_sc_normal ?_)
  refine r_seq ?_
  refine r_region ?_
  refine o_q _ rfl rfl rfl (v_move rfl rfl) ?_
  refine o_q _ rfl rfl rfl (v_move rfl rfl) ?_
  refine o_fn (ints_r p xs oa c fv caps Rs hl hf) rfl rfl rfl rfl rfl SubRC.sub (fun v7 hv7 => ?_)
  obtain ⟨rfl, hn⟩ | ⟨k, rfl, hk, hp⟩ := hv7
  all_goals
    refine o_q _ rfl rfl rfl (v_geq rfl rfl rfl) ?_
    refine o_q _ rfl rfl rfl (v_assign rfl rfl) ?_
    refine o_nil ?_
    repeat (first | with_reducible refine r_then ?_ | with_reducible refine r_in_normal ?_ | with_reducible refine r_sc_normal ?_)
    refine r_ret ?_
    repeat (first | with_reducible refine r_then_ret ?_ | with_reducible refine r_in_ret ?_ | with_reducible refine r_sc_ret ?_)
    first
    | exact r_retv2 (Rd.tmp rfl rfl) (congrArg Value.bool ((decide_eq_false (by omega)).trans (decide_eq_false (fun ⟨k, hk, hp⟩ => hn k hk hp)).symm)) SelMC.sel SubRC.sub
    | exact r_retv2 (Rd.tmp rfl rfl) (congrArg Value.bool ((decide_eq_true (by omega)).trans (decide_eq_true ⟨k, hk, hp⟩).symm)) SelMC.sel SubRC.sub
end Go.Proofs.Ytienjlmnakbfmaa

namespace Go.Proofs.Ytienjlmnakbfmaa
open Go.G Foot4
set_option maxRecDepth 1000000
set_option maxHeartbeats 4000000 in
theorem isHeap_v (F : Work) (ro ho : Option Addr) (rc hc : Nat) (x : Int) (hr : F.rain.length ≤ 40) (hh : F.heaps.length ≤ 40) : FnV Try.prog 48 [valF F ro rc ho hc, i64 x] [rowD ro 2 encS F.rain, rowD ho 3 encH F.heaps] (.bool (decide (0 ≤ x ∧ x ≤ (F.heaps.length : Int) - 1))) := by
  refine FnV.intro Try.call48 Try.func48 rfl Try.ntmps48 rfl ?_
  intro W M Rf
  refine r_seq ?_
  refine r_region ?_
  refine o_boxA rfl rfl rfl rfl rfl (fun b2 => ?_)
  refine o_q _ rfl rfl rfl (v_assign rfl rfl) ?_
  refine o_nil ?_
  repeat (first | with_reducible refine r_then ?_ | with_reducible refine r_in_normal ?_ | with_reducible refine r_sc_normal ?_)
  refine r_seq ?_
  refine r_region ?_
  refine o_q _ rfl rfl rfl (v_move rfl rfl) ?_
  first | refine o_q _ rfl rfl rfl (v_fieldAddr rfl Try.underlying26 inf24 rfl rfl rfl rfl) ?_ | refine o_q _ rfl rfl rfl (v_fieldAddrE rfl Try.underlying26 inf24 rfl rfl rfl rfl) ?_
  first | refine o_q _ rfl rfl rfl (v_ld1 rfl Try.underlying24 rfl rfl rfl) ?_ | refine o_q _ rfl rfl rfl (v_lf1 rfl Try.underlying24 rfl rfl rfl) ?_ | refine o_q _ rfl rfl rfl (v_loadE1 rfl Try.underlying24 rfl rfl (by omega) rfl rfl) ?_
  refine o_q _ rfl rfl rfl (v_len rfl rfl Try.underlying24 rfl) ?_
  refine o_q _ rfl rfl rfl (v_sub rfl rfl rfl (by omega)) ?_
  refine o_q _ rfl rfl rfl (OpQ.fn (within_v _ _ _) rfl rfl SubRC.sub) ?_
  refine o_q _ rfl rfl rfl (v_assign rfl rfl) ?_
  refine o_nil ?_
  repeat (first | with_reducible refine r_then ?_ | with_reducible refine r_in_normal ?_ | with_reducible refine r_sc_normal ?_)
  refine r_ret ?_
  repeat (first | with_reducible refine r_then_ret ?_ | with_reducible refine r_in_ret ?_ | with_reducible refine r_sc_ret ?_)
  first | exact r_retv2 (Rd.tmp rfl rfl) rfl SelMC.sel SubRC.sub | exact r_retv2 (Rd.tmp rfl rfl) (congrArg Value.bool (decide_eq_true (by omega)).symm) SelMC.sel SubRC.sub | exact r_retv2 (Rd.tmp rfl rfl) (congrArg Value.bool (decide_eq_false (by omega)).symm) SelMC.sel SubRC.sub
set_option maxHeartbeats 4000000 in
theorem ordered_v (a b c : Int) (k : Nat) (hk : k < 3) : FnV Try.prog 69 [.agg #[i64 a, i64 b, i64 c], i64 k] [] (.bool (decide (Ordered ⟨a, b, c⟩ k))) := by
  have e1 : (((k : Int) - 1).toNat) = k - 1 := by omega
  refine FnV.intro Try.call69 Try.func69 rfl Try.ntmps69 rfl ?_
  intro W M Rf
  refine r_seq ?_
  refine r_region ?_
  refine o_boxA rfl rfl rfl rfl rfl (fun b2 => ?_)
  refine o_q _ rfl rfl rfl (v_assign rfl rfl) ?_
  refine o_nil ?_
  repeat (first | with_reducible refine r_then ?_ | with_reducible refine r_in_normal ?_ | with_reducible refine r_sc_normal ?_)
  refine r_seq ?_
  refine r_region_q mixed (by kernel_rfl) ?_
  refine q_q _ rfl rfl rfl (v_move rfl rfl) ?_
  first | refine q_q _ rfl rfl rfl (v_indexAddrAn rfl Try.underlying27 inf3 rfl rfl (by omega)) ?_ | refine q_q _ rfl rfl rfl (v_indexAddrA rfl Try.underlying27 inf3 rfl rfl (by omega)) ?_ | refine q_q _ rfl rfl rfl (v_indexAddrE rfl Try.underlying27 inf3 rfl rfl (by omega)) ?_
  refine q_q _ rfl rfl rfl (v_ld1 rfl Try.underlying3 rfl rfl (t3_atn (by omega))) ?_
  first | refine q_q _ rfl rfl rfl (v_true (v_lss rfl rfl rfl) (by omega)) ?_ | refine q_q _ rfl rfl rfl (v_false (v_lss rfl rfl rfl) (by omega)) ?_ | refine q_test rfl rfl rfl (v_lss rfl rfl rfl) (fun h8 => ?_) (fun h8 => ?_)
  all_goals
    refine q_q _ rfl rfl rfl (v_move rfl rfl) ?_
    first | refine q_gn rfl rfl rfl rfl ?_ | refine q_g _ rfl rfl rfl rfl (v_move rfl rfl) ?_
    first | refine q_gn rfl rfl rfl rfl ?_ | refine q_g _ rfl rfl rfl rfl (v_true (v_eql rfl rfl rfl) (by omega)) ?_ | refine q_g _ rfl rfl rfl rfl (v_false (v_eql rfl rfl rfl) (by omega)) ?_ | refine q_gtest rfl rfl rfl rfl (v_eql rfl rfl rfl) (fun h11 => ?_) (fun h11 => ?_)
    all_goals
      first | refine q_q _ rfl rfl rfl (v_pick_t rfl rfl rfl) ?_ | refine q_q _ rfl rfl rfl (v_pick_f rfl rfl rfl) ?_
      refine q_q _ rfl rfl rfl (v_move rfl rfl) ?_
      first | refine q_gn rfl rfl rfl rfl ?_ | refine q_g _ rfl rfl rfl rfl (v_move rfl rfl) ?_
      first | refine q_gn rfl rfl rfl rfl ?_ | refine q_g _ rfl rfl rfl rfl (v_sub rfl rfl rfl (by omega)) ?_
      first | refine q_gn rfl rfl rfl rfl ?_ | refine q_g _ rfl rfl rfl rfl (v_indexAddrAn rfl Try.underlying27 inf3 rfl rfl (by omega)) ?_ | refine q_g _ rfl rfl rfl rfl (v_indexAddrA rfl Try.underlying27 inf3 rfl rfl (by omega)) ?_ | refine q_g _ rfl rfl rfl rfl (v_indexAddrE rfl Try.underlying27 inf3 rfl rfl (by omega)) ?_
      first | refine q_gn rfl rfl rfl rfl ?_ | refine q_g _ rfl rfl rfl rfl (v_ld1 rfl Try.underlying3 rfl rfl (t3_at (by omega) (by omega))) ?_
      first | refine q_gn rfl rfl rfl rfl ?_ | refine q_g _ rfl rfl rfl rfl (v_true (v_geq rfl rfl rfl) (by omega)) ?_ | refine q_g _ rfl rfl rfl rfl (v_false (v_geq rfl rfl rfl) (by omega)) ?_ | refine q_gtest rfl rfl rfl rfl (v_geq rfl rfl rfl) (fun h18 => ?_) (fun h18 => ?_)
      all_goals
        first | refine q_gn rfl rfl rfl rfl ?_ | refine q_g _ rfl rfl rfl rfl (v_move rfl rfl) ?_
        first | refine q_gn rfl rfl rfl rfl ?_ | refine q_g _ rfl rfl rfl rfl (v_move rfl rfl) ?_
        first | refine q_gn rfl rfl rfl rfl ?_ | refine q_g _ rfl rfl rfl rfl (v_sub rfl rfl rfl (by omega)) ?_
        first | refine q_gn rfl rfl rfl rfl ?_ | refine q_g _ rfl rfl rfl rfl (v_indexAddrAn rfl Try.underlying27 inf3 rfl rfl (by omega)) ?_ | refine q_g _ rfl rfl rfl rfl (v_indexAddrA rfl Try.underlying27 inf3 rfl rfl (by omega)) ?_ | refine q_g _ rfl rfl rfl rfl (v_indexAddrE rfl Try.underlying27 inf3 rfl rfl (by omega)) ?_
        first | refine q_gn rfl rfl rfl rfl ?_ | refine q_g _ rfl rfl rfl rfl (v_ld1 rfl Try.underlying3 rfl rfl (t3_at (by omega) (by omega))) ?_
        first | refine q_gn rfl rfl rfl rfl ?_ | refine q_g _ rfl rfl rfl rfl (v_move rfl rfl) ?_
        first | refine q_gn rfl rfl rfl rfl ?_ | refine q_g _ rfl rfl rfl rfl (v_indexAddrAn rfl Try.underlying27 inf3 rfl rfl (by omega)) ?_ | refine q_g _ rfl rfl rfl rfl (v_indexAddrA rfl Try.underlying27 inf3 rfl rfl (by omega)) ?_ | refine q_g _ rfl rfl rfl rfl (v_indexAddrE rfl Try.underlying27 inf3 rfl rfl (by omega)) ?_
        first | refine q_gn rfl rfl rfl rfl ?_ | refine q_g _ rfl rfl rfl rfl (v_ld1 rfl Try.underlying3 rfl rfl (t3_atn (by omega))) ?_
        first | refine q_gn rfl rfl rfl rfl ?_ | refine q_g _ rfl rfl rfl rfl (v_true (v_lss rfl rfl rfl) (by omega)) ?_ | refine q_g _ rfl rfl rfl rfl (v_false (v_lss rfl rfl rfl) (by omega)) ?_ | refine q_gtest rfl rfl rfl rfl (v_lss rfl rfl rfl) (fun h27 => ?_) (fun h27 => ?_)
        all_goals
          first | refine q_gn rfl rfl rfl rfl ?_ | refine q_g _ rfl rfl rfl rfl (v_pick_t rfl rfl rfl) ?_ | refine q_g _ rfl rfl rfl rfl (v_pick_f rfl rfl rfl) ?_
          first | refine q_q _ rfl rfl rfl (v_pick_t rfl rfl rfl) ?_ | refine q_q _ rfl rfl rfl (v_pick_f rfl rfl rfl) ?_
          refine q_q _ rfl rfl rfl (v_assign rfl rfl) ?_
          refine q_nil ?_
          repeat (first | with_reducible refine r_then ?_ | with_reducible refine r_in_normal ?_ | with_reducible refine r_sc_normal ?_)
          refine r_ret ?_
          repeat (first | with_reducible refine r_then_ret ?_ | with_reducible refine r_in_ret ?_ | with_reducible refine r_sc_ret ?_)
          first | exact r_retv2 (Rd.tmp rfl rfl) rfl SelMC.sel SubRC.sub | exact r_retv2 (Rd.tmp rfl rfl) (congrArg Value.bool (decide_eq_true (by unfold Ordered; (try rw [e1] at *); omega)).symm) SelMC.sel SubRC.sub | exact r_retv2 (Rd.tmp rfl rfl) (congrArg Value.bool (decide_eq_false (by unfold Ordered; (try rw [e1] at *); omega)).symm) SelMC.sel SubRC.sub
set_option maxHeartbeats 4000000 in
theorem isDays1_v (F : Work) (ro ho : Option Addr) (rc hc : Nat) (fb : Nat) (x : Int) (hr : F.rain.length ≤ 40) (hh : F.heaps.length ≤ 40) : FnV Try.prog 92 [i64 x, pt fb 0] [boxF fb 26 (cellsF F ro rc ho hc), rowD ro 2 encS F.rain, rowD ho 3 encH F.heaps] (.bool (decide (¬ (-1 ≤ x ∧ x ≤ (F.rain.length : Int) - 1)))) := by
  refine FnV.intro Try.call92 Try.func92 rfl Try.ntmps92 rfl ?_
  intro W M Rf
  refine r_seq ?_
  refine r_region ?_
  refine o_q _ rfl rfl rfl (v_assign rfl rfl) ?_
  refine o_nil ?_
  repeat (first | with_reducible refine r_then ?_ | with_reducible refine r_in_normal ?_ | with_reducible refine r_sc_normal ?_)
  refine r_seq ?_
  refine r_region ?_
  refine o_q _ rfl rfl rfl (v_move rfl rfl) ?_
  first | refine o_q _ rfl rfl rfl (v_fieldAddr rfl Try.underlying26 inf22 rfl rfl rfl rfl) ?_ | refine o_q _ rfl rfl rfl (v_fieldAddrE rfl Try.underlying26 inf22 rfl rfl rfl rfl) ?_
  first | refine o_q _ rfl rfl rfl (v_ld1 rfl Try.underlying22 rfl rfl rfl) ?_ | refine o_q _ rfl rfl rfl (v_lf1 rfl Try.underlying22 rfl rfl rfl) ?_ | refine o_q _ rfl rfl rfl (v_loadE1 rfl Try.underlying22 rfl rfl (by omega) rfl rfl) ?_
  refine o_q _ rfl rfl rfl (v_len rfl rfl Try.underlying22 rfl) ?_
  refine o_q _ rfl rfl rfl (v_sub rfl rfl rfl (by omega)) ?_
  first | refine o_q _ rfl rfl rfl (v_true (OpQ.fn (within_v _ _ _) rfl rfl SubRC.sub) (by omega)) ?_ | refine o_q _ rfl rfl rfl (v_false (OpQ.fn (within_v _ _ _) rfl rfl SubRC.sub) (by omega)) ?_ | refine o_test rfl rfl rfl (OpQ.fn (within_v _ _ _) rfl rfl SubRC.sub) (fun h9 => ?_) (fun h9 => ?_)
  all_goals
    refine o_q _ rfl rfl rfl (v_not rfl rfl) ?_
    refine o_q _ rfl rfl rfl (v_assign rfl rfl) ?_
    refine o_nil ?_
    repeat (first | with_reducible refine r_then ?_ | with_reducible refine r_in_normal ?_ | with_reducible refine r_sc_normal ?_)
    refine r_ret ?_
    repeat (first | with_reducible refine r_then_ret ?_ | with_reducible refine r_in_ret ?_ | with_reducible refine r_sc_ret ?_)
    exact r_retv2 (Rd.tmp rfl rfl) (congrArg Value.bool (by simp [*])) SelMC.sel SubRC.sub
theorem isplan_x {n : Nat} {p : T3} : (Days n p ∧ ∀ j, j < 3 → Ordered p j) ↔ IsPlan n p :=
  ⟨fun h => ⟨h.1, h.2 0 (by omega), h.2 1 (by omega), h.2 2 (by omega)⟩, fun h => ⟨h.1, fun j hj => by
    obtain rfl | rfl | rfl : j = 0 ∨ j = 1 ∨ j = 2 := by omega
    · exact h.2.1
    · exact h.2.2.1
    · exact h.2.2.2⟩⟩
theorem days_x {n : Nat} {a b c : Int} : Days n ⟨a, b, c⟩ ↔ ¬ ∃ k, k < [a, b, c].length ∧ ¬ (-1 ≤ [a, b, c].getD k default ∧ [a, b, c].getD k default ≤ (n : Int) - 1) := by
  constructor
  · rintro h ⟨k, hk, hx⟩
    have hk' : k < 3 := hk
    have := h k hk'
    obtain rfl | rfl | rfl : k = 0 ∨ k = 1 ∨ k = 2 := by omega
    all_goals exact hx this
  · intro h k hk
    obtain rfl | rfl | rfl : k = 0 ∨ k = 1 ∨ k = 2 := by omega
    · exact Classical.not_not.1 fun hx => h ⟨0, by simp, hx⟩
    · exact Classical.not_not.1 fun hx => h ⟨1, by simp, hx⟩
    · exact Classical.not_not.1 fun hx => h ⟨2, by simp, hx⟩
set_option maxHeartbeats 4000000 in
theorem isDays_v (F : Work) (ro ho : Option Addr) (rc hc : Nat) (a b c : Int) (hr : F.rain.length ≤ 40) (hh : F.heaps.length ≤ 40) : FnV Try.prog 68 [valF F ro rc ho hc, .agg #[i64 a, i64 b, i64 c]] [rowD ro 2 encS F.rain, rowD ho 3 encH F.heaps] (.bool (decide (Days F.rain.length ⟨a, b, c⟩))) := by
  refine FnV.intro Try.call68 Try.func68 rfl Try.ntmps68 rfl ?_
  intro W M Rf
  refine r_seq ?_
  refine r_region ?_
  refine o_boxA rfl rfl rfl rfl rfl (fun b2 => ?_)
  refine o_boxA rfl rfl rfl rfl rfl (fun b3 => ?_)
  refine o_q _ rfl rfl rfl (v_assign rfl rfl) ?_
  refine o_nil ?_
  repeat (first | with_reducible refine r_then ?_ | with_reducible refine r_in_normal ?_ | with_reducible refine r_sc_normal ?_)
  refine r_seq ?_
  refine Imp.sealB b2 ?_
  refine Imp.sealB b3 ?_
  refine Imp.rowB (b := b3) i64 [a, b, c] rfl ?_
  refine r_region ?_
  refine o_q _ rfl rfl rfl (v_sliceA rfl Try.underlying27 inf3 rfl) ?_
  refine o_q _ rfl rfl rfl (v_makeFunc rfl rfl rfl) ?_
  first | refine o_q _ rfl rfl rfl (v_true (OpQ.fn (ints_c (fun x : Int => ¬ (-1 ≤ x ∧ x ≤ (F.rain.length : Int) - 1)) [a, b, c] (some ⟨b3, 0, none⟩) 3 92 [pt b2 0] [boxF b2 26 (cellsF F ro rc ho hc), rowD ro 2 encS F.rain, rowD ho 3 encH F.heaps] (by simp) (fun k _ => isDays1_v F ro ho rc hc b2 _ hr hh)) rfl rfl SubRC.sub) (by omega)) ?_ | refine o_q _ rfl rfl rfl (v_false (OpQ.fn (ints_c (fun x : Int => ¬ (-1 ≤ x ∧ x ≤ (F.rain.length : Int) - 1)) [a, b, c] (some ⟨b3, 0, none⟩) 3 92 [pt b2 0] [boxF b2 26 (cellsF F ro rc ho hc), rowD ro 2 encS F.rain, rowD ho 3 encH F.heaps] (by simp) (fun k _ => isDays1_v F ro ho rc hc b2 _ hr hh)) rfl rfl SubRC.sub) (by omega)) ?_ | refine o_test rfl rfl rfl (OpQ.fn (ints_c (fun x : Int => ¬ (-1 ≤ x ∧ x ≤ (F.rain.length : Int) - 1)) [a, b, c] (some ⟨b3, 0, none⟩) 3 92 [pt b2 0] [boxF b2 26 (cellsF F ro rc ho hc), rowD ro 2 encS F.rain, rowD ho 3 encH F.heaps] (by simp) (fun k _ => isDays1_v F ro ho rc hc b2 _ hr hh)) rfl rfl SubRC.sub) (fun h7 => ?_) (fun h7 => ?_)
  all_goals
    refine o_q _ rfl rfl rfl (v_not rfl rfl) ?_
    refine o_q _ rfl rfl rfl (v_assign rfl rfl) ?_
    refine o_nil ?_
    repeat (first | with_reducible refine r_then ?_ | with_reducible refine r_in_normal ?_ | with_reducible refine r_sc_normal ?_)
    refine r_ret ?_
    repeat (first | with_reducible refine r_then_ret ?_ | with_reducible refine r_in_ret ?_ | with_reducible refine r_sc_ret ?_)
    exact r_retv2 (Rd.tmp rfl rfl) (congrArg Value.bool (by first | exact (decide_eq_true (days_x.2 (by assumption))).symm | exact (decide_eq_false (fun h => days_x.1 h (by assumption))).symm)) SelMC.sel SubRC.sub
set_option maxHeartbeats 4000000 in
theorem isPlan_v (F : Work) (ro ho : Option Addr) (rc hc : Nat) (a b c : Int) (hr : F.rain.length ≤ 40) (hh : F.heaps.length ≤ 40) : FnV Try.prog 49 [valF F ro rc ho hc, .agg #[i64 a, i64 b, i64 c]] [rowD ro 2 encS F.rain, rowD ho 3 encH F.heaps] (.bool (decide (IsPlan F.rain.length ⟨a, b, c⟩))) := by
  refine FnV.intro Try.call49 Try.func49 rfl Try.ntmps49 rfl ?_
  intro W M Rf
  refine r_seq ?_
  refine r_region ?_
  refine o_boxA rfl rfl rfl rfl rfl (fun b2 => ?_)
  refine o_boxA rfl rfl rfl rfl rfl (fun b3 => ?_)
  refine o_q _ rfl rfl rfl (v_assign rfl rfl) ?_
  refine o_nil ?_
  repeat (first | with_reducible refine r_then ?_ | with_reducible refine r_in_normal ?_ | with_reducible refine r_sc_normal ?_)
  refine r_seq ?_
  refine r_region ?_
  first | refine o_q _ rfl rfl rfl (v_ldW rfl Try.underlying26 rfl inf26 rfl rfl) ?_ | refine o_q _ rfl rfl rfl (v_lfW rfl Try.underlying26 rfl inf26 rfl rfl) ?_ | refine o_q _ rfl rfl rfl (v_lfN rfl Try.underlying26 rfl inf26 rfl rfl rfl) ?_ | refine o_q _ rfl rfl rfl (v_ldN rfl Try.underlying26 rfl inf26 rfl rfl rfl) ?_ | refine o_q _ rfl rfl rfl (v_loadEN rfl Try.underlying26 rfl inf26 rfl (by omega) rfl rfl rfl) ?_
  first | refine o_q _ rfl rfl rfl (v_ldW rfl Try.underlying27 rfl inf27 rfl rfl) ?_ | refine o_q _ rfl rfl rfl (v_lfW rfl Try.underlying27 rfl inf27 rfl rfl) ?_ | refine o_q _ rfl rfl rfl (v_lfN rfl Try.underlying27 rfl inf27 rfl rfl rfl) ?_ | refine o_q _ rfl rfl rfl (v_ldN rfl Try.underlying27 rfl inf27 rfl rfl rfl) ?_ | refine o_q _ rfl rfl rfl (v_loadEN rfl Try.underlying27 rfl inf27 rfl (by omega) rfl rfl rfl) ?_
  refine o_q _ rfl rfl rfl (OpQ.fn (isDays_v F ro ho rc hc _ _ _ hr hh) rfl rfl SubRC.sub) ?_
  refine o_q _ rfl rfl rfl (v_assign rfl rfl) ?_
  refine o_nil ?_
  repeat (first | with_reducible refine r_then ?_ | with_reducible refine r_in_normal ?_ | with_reducible refine r_sc_normal ?_)
  refine r_seq ?_
  refine r_seq ?_
  refine r_region ?_
  refine o_q _ rfl rfl rfl (v_move rfl rfl) ?_
  refine o_nil ?_
  repeat (first | with_reducible refine r_then ?_ | with_reducible refine r_in_normal ?_ | with_reducible refine r_sc_normal ?_)
  refine r_block ?_
  refine r_loop (ι := Nat) (fun k => k ≤ 3) (fun k => [(2, pt b2 0), (3, pt b3 0), (5, .bool (decide (Days F.rain.length ⟨a, b, c⟩ ∧ ∀ j, j < k → Ordered ⟨a, b, c⟩ j))), (10, i64 k)]) (fun k => bx b3 27 [i64 a, i64 b, i64 c] :: bx b2 26 (cellsF F ro rc ho hc) :: M) (fun k => [rowD ro 2 encS F.rain, rowD ho 3 encH F.heaps] ++ Rf) (fun k => 3 - k) 0 ?_ ?_ ?_
  ·
    exact r_here (by repeat (first | exact FSub.nil | refine FSub.cons rfl ?_ | refine FSub.cons2 rfl (congrArg Value.bool (by exact decide_eq_decide.2 ⟨fun h => ⟨h, fun j hj => absurd hj (by omega)⟩, fun h => h.1⟩)) ?_)) SelMC.sel SubRC.sub
  ·
    omega
  ·
    rintro k hI0
    refine r_seq ?_
    refine r_region ?_
    refine o_q _ rfl rfl rfl (v_lss rfl rfl rfl) ?_
    refine o_nil ?_
    repeat (first | with_reducible refine r_then ?_ | with_reducible refine r_in_normal ?_ | with_reducible refine r_sc_normal ?_)
    refine r_seq ?_
    first | refine r_condd rfl (fun hc11 => ?_) (fun hc11 => ?_) | refine r_cond rfl (fun hc11 => ?_) (fun hc11 => ?_)
    ·
      first
      | (exfalso; revert hc11; decide)
      | (exfalso; omega)
      | skip
        refine r_skip ?_
        repeat (first | with_reducible refine r_then ?_ | with_reducible refine r_in_normal ?_ | with_reducible refine r_sc_normal ?_)
        refine r_seq ?_
        refine r_block ?_
        refine r_seq ?_
        refine r_region ?_
        refine o_q _ rfl rfl rfl (v_move rfl rfl) ?_
        refine o_q _ rfl rfl rfl (v_assign rfl rfl) ?_
        refine o_nil ?_
        repeat (first | with_reducible refine r_then ?_ | with_reducible refine r_in_normal ?_ | with_reducible refine r_sc_normal ?_)
        refine r_region ?_
        refine o_q _ rfl rfl rfl (v_move rfl rfl) ?_
        first | refine o_q _ rfl rfl rfl (v_true (v_move rfl rfl) (by omega)) ?_ | refine o_q _ rfl rfl rfl (v_false (v_move rfl rfl) (by omega)) ?_ | refine o_test rfl rfl rfl (v_move rfl rfl) (fun h14 => ?_) (fun h14 => ?_)
        all_goals
          first | refine o_gn rfl rfl rfl rfl ?_ | refine o_g _ rfl rfl rfl rfl (v_ldW rfl Try.underlying27 rfl inf27 rfl rfl) ?_ | refine o_g _ rfl rfl rfl rfl (v_lfW rfl Try.underlying27 rfl inf27 rfl rfl) ?_ | refine o_g _ rfl rfl rfl rfl (v_lfN rfl Try.underlying27 rfl inf27 rfl rfl rfl) ?_ | refine o_g _ rfl rfl rfl rfl (v_ldN rfl Try.underlying27 rfl inf27 rfl rfl rfl) ?_ | refine o_g _ rfl rfl rfl rfl (v_loadEN rfl Try.underlying27 rfl inf27 rfl (by omega) rfl rfl rfl) ?_
          first | refine o_gn rfl rfl rfl rfl ?_ | refine o_g _ rfl rfl rfl rfl (v_move rfl rfl) ?_
          first | refine o_gn rfl rfl rfl rfl ?_ | refine o_g _ rfl rfl rfl rfl (OpQ.fn (ordered_v _ _ _ k (by omega)) rfl rfl SubRC.sub) ?_
          first | refine o_q _ rfl rfl rfl (v_pick_t rfl rfl rfl) ?_ | refine o_q _ rfl rfl rfl (v_pick_f rfl rfl rfl) ?_
          refine o_q _ rfl rfl rfl (v_assign rfl rfl) ?_
          refine o_nil ?_
          repeat (first | with_reducible refine r_then ?_ | with_reducible refine r_in_normal ?_ | with_reducible refine r_sc_normal ?_)
          refine r_region ?_
          refine o_q _ rfl rfl rfl (v_add rfl rfl rfl (by omega)) ?_
          refine o_q _ rfl rfl rfl (v_move rfl rfl) ?_
          refine o_nil ?_
          repeat (first | with_reducible refine r_then ?_ | with_reducible refine r_in_normal ?_ | with_reducible refine r_sc_normal ?_)
          refine r_next (k + 1) ?_ ?_ ?_
          ·
            exact r_here (by repeat (first | exact FSub.nil | refine FSub.cons rfl ?_ | refine FSub.cons2 rfl (congrArg Value.bool (by first | exact decide_eq_decide.2 ⟨fun h => ⟨h14.1, all_step h14.2 h⟩, fun h => h.2 k (by omega)⟩ | exact (decide_eq_false (fun h => h14 ⟨h.1, fun j hj => h.2 j (by omega)⟩)).symm)) ?_)) SelMC.sel SubRC.sub
          ·
            omega
          ·
            omega
    ·
      first
      | (exfalso; revert hc11; decide)
      | (exfalso; omega)
      | skip
        refine r_exit ?_
        repeat (first | with_reducible refine r_then_exit ?_ | with_reducible refine r_sc_exit ?_ | with_reducible refine r_in_here ?_ | (with_reducible refine r_in_past (by decide) ?_) | with_reducible refine r_then ?_ | with_reducible refine r_in_normal ?_ | with_reducible refine r_sc_normal ?_)
        refine r_seq ?_
        refine r_region ?_
        refine o_q _ rfl rfl rfl (v_move rfl rfl) ?_
        refine o_q _ rfl rfl rfl (v_assign rfl rfl) ?_
        refine o_nil ?_
        repeat (first | with_reducible refine r_then ?_ | with_reducible refine r_in_normal ?_ | with_reducible refine r_sc_normal ?_)
        refine r_ret ?_
        repeat (first | with_reducible refine r_then_ret ?_ | with_reducible refine r_in_ret ?_ | with_reducible refine r_sc_ret ?_)
        have hk : k = 3 := by omega
        subst hk
        exact r_retv2 (Rd.tmp rfl rfl) (congrArg Value.bool (decide_eq_decide.2 isplan_x)) SelMC.sel SubRC.sub
end Go.Proofs.Ytienjlmnakbfmaa

namespace Go.Proofs.Ytienjlmnakbfmaa
open Go.G Foot4
set_option maxRecDepth 1000000
set_option maxHeartbeats 4000000 in
theorem after_v (w r d : Int) (h : -1000000 ≤ w ∧ w ≤ 1000000 ∧ -1000000 ≤ r ∧ r ≤ 1000000 ∧ -1000000 ≤ d ∧ d ≤ 1000000) : FnV Try.prog 85 [i64 w, i64 r, i64 d] [] (i64 (Foot4.step w r d)) := by
  refine FnV.intro Try.call85 Try.func85 rfl Try.ntmps85 rfl ?_
  intro W M Rf
  refine r_seq ?_
  refine r_region ?_
  refine o_q _ rfl rfl rfl (v_assign rfl rfl) ?_
  refine o_nil ?_
  repeat (first | with_reducible refine r_then ?_ | with_reducible refine r_in_normal ?_ | with_reducible refine r_sc_normal ?_)
  refine r_seq ?_
  refine r_region ?_
  refine o_q _ rfl rfl rfl (v_move rfl rfl) ?_
  refine o_q _ rfl rfl rfl (v_move rfl rfl) ?_
  refine o_q _ rfl rfl rfl (v_add rfl rfl rfl (by omega)) ?_
  refine o_q _ rfl rfl rfl (v_move rfl rfl) ?_
  refine o_q _ rfl rfl rfl (v_sub rfl rfl rfl (by omega)) ?_
  refine o_q _ rfl rfl rfl (v_max2 rfl rfl rfl) ?_
  refine o_q _ rfl rfl rfl (v_assign rfl rfl) ?_
  refine o_nil ?_
  repeat (first | with_reducible refine r_then ?_ | with_reducible refine r_in_normal ?_ | with_reducible refine r_sc_normal ?_)
  refine r_ret ?_
  repeat (first | with_reducible refine r_then_ret ?_ | with_reducible refine r_in_ret ?_ | with_reducible refine r_sc_ret ?_)
  exact r_retv2 (Rd.tmp rfl rfl) rfl SelMC.sel SubRC.sub
set_option maxHeartbeats 4000000 in
theorem fits_v (w l : Int) : FnV Try.prog 93 [i64 w, i64 l] [] (.bool (decide (w ≤ l))) := by
  refine FnV.intro Try.call93 Try.func93 rfl Try.ntmps93 rfl ?_
  intro W M Rf
  refine r_seq ?_
  refine r_region ?_
  refine o_q _ rfl rfl rfl (v_assign rfl rfl) ?_
  refine o_nil ?_
  repeat (first | with_reducible refine r_then ?_ | with_reducible refine r_in_normal ?_ | with_reducible refine r_sc_normal ?_)
  refine r_seq ?_
  refine r_region ?_
  refine o_q _ rfl rfl rfl (v_move rfl rfl) ?_
  refine o_q _ rfl rfl rfl (v_move rfl rfl) ?_
  refine o_q _ rfl rfl rfl (v_leq rfl rfl rfl) ?_
  refine o_q _ rfl rfl rfl (v_assign rfl rfl) ?_
  refine o_nil ?_
  repeat (first | with_reducible refine r_then ?_ | with_reducible refine r_in_normal ?_ | with_reducible refine r_sc_normal ?_)
  refine r_ret ?_
  repeat (first | with_reducible refine r_then_ret ?_ | with_reducible refine r_in_ret ?_ | with_reducible refine r_sc_ret ?_)
  first | exact r_retv2 (Rd.tmp rfl rfl) rfl SelMC.sel SubRC.sub | exact r_retv2 (Rd.tmp rfl rfl) (congrArg Value.bool (decide_eq_true (by omega)).symm) SelMC.sel SubRC.sub | exact r_retv2 (Rd.tmp rfl rfl) (congrArg Value.bool (decide_eq_false (by omega)).symm) SelMC.sel SubRC.sub
set_option maxHeartbeats 4000000 in
theorem dry_v (lo hi : Int) : FnV Try.prog 121 [.agg #[], .agg #[i64 lo, i64 hi]] [] (i64 lo) := by
  refine FnV.intro Try.call121 Try.func121 rfl Try.ntmps121 rfl ?_
  intro W M Rf
  refine r_seq ?_
  refine r_region ?_
  refine o_boxA rfl rfl rfl rfl rfl (fun b2 => ?_)
  refine o_boxA rfl rfl rfl rfl rfl (fun b3 => ?_)
  refine o_q _ rfl rfl rfl (v_assign rfl rfl) ?_
  refine o_nil ?_
  repeat (first | with_reducible refine r_then ?_ | with_reducible refine r_in_normal ?_ | with_reducible refine r_sc_normal ?_)
  refine r_seq ?_
  refine r_region ?_
  first | refine o_q _ rfl rfl rfl (v_fieldAddr rfl Try.underlying31 inf3 rfl rfl rfl rfl) ?_ | refine o_q _ rfl rfl rfl (v_fieldAddrE rfl Try.underlying31 inf3 rfl rfl rfl rfl) ?_
  first | refine o_q _ rfl rfl rfl (v_ld1 rfl Try.underlying3 rfl rfl rfl) ?_ | refine o_q _ rfl rfl rfl (v_lf1 rfl Try.underlying3 rfl rfl rfl) ?_ | refine o_q _ rfl rfl rfl (v_loadE1 rfl Try.underlying3 rfl rfl (by omega) rfl rfl) ?_
  refine o_q _ rfl rfl rfl (v_assign rfl rfl) ?_
  refine o_nil ?_
  repeat (first | with_reducible refine r_then ?_ | with_reducible refine r_in_normal ?_ | with_reducible refine r_sc_normal ?_)
  refine r_ret ?_
  repeat (first | with_reducible refine r_then_ret ?_ | with_reducible refine r_in_ret ?_ | with_reducible refine r_sc_ret ?_)
  exact r_retv2 (Rd.tmp rfl rfl) rfl SelMC.sel SubRC.sub
set_option maxHeartbeats 4000000 in
theorem wet0_v (lo hi : Int) (hl : -1000 ≤ lo ∧ lo ≤ 1000) (hh : -1000 ≤ hi ∧ hi ≤ 1000) : FnV Try.prog 122 [.agg #[], .agg #[i64 lo, i64 hi]] [] (i64 hi) := by
  refine FnV.intro Try.call122 Try.func122 rfl Try.ntmps122 rfl ?_
  intro W M Rf
  refine r_seq ?_
  refine r_region ?_
  refine o_boxA rfl rfl rfl rfl rfl (fun b2 => ?_)
  refine o_boxA rfl rfl rfl rfl rfl (fun b3 => ?_)
  refine o_q _ rfl rfl rfl (v_assign rfl rfl) ?_
  refine o_nil ?_
  repeat (first | with_reducible refine r_then ?_ | with_reducible refine r_in_normal ?_ | with_reducible refine r_sc_normal ?_)
  refine r_seq ?_
  refine r_region_q mixed (by kernel_rfl) ?_
  refine q_q _ rfl rfl rfl (v_fieldAddr0 rfl Try.underlying90 inf88 rfl rfl rfl rfl rfl (by kernel_rfl) rfl) ?_
  first | refine q_q _ rfl rfl rfl (v_ldW rfl Try.underlying88 rfl inf88 rfl rfl) ?_ | refine q_q _ rfl rfl rfl (v_lfW rfl Try.underlying88 rfl inf88 rfl rfl) ?_ | refine q_q _ rfl rfl rfl (v_lfN rfl Try.underlying88 rfl inf88 rfl rfl rfl) ?_ | refine q_q _ rfl rfl rfl (v_ldN rfl Try.underlying88 rfl inf88 rfl rfl rfl) ?_ | refine q_q _ rfl rfl rfl (v_loadEN rfl Try.underlying88 rfl inf88 rfl (by omega) rfl rfl rfl) ?_
  first | refine q_q _ rfl rfl rfl (v_ldW rfl Try.underlying31 rfl inf31 rfl rfl) ?_ | refine q_q _ rfl rfl rfl (v_lfW rfl Try.underlying31 rfl inf31 rfl rfl) ?_ | refine q_q _ rfl rfl rfl (v_lfN rfl Try.underlying31 rfl inf31 rfl rfl rfl) ?_ | refine q_q _ rfl rfl rfl (v_ldN rfl Try.underlying31 rfl inf31 rfl rfl rfl) ?_ | refine q_q _ rfl rfl rfl (v_loadEN rfl Try.underlying31 rfl inf31 rfl (by omega) rfl rfl rfl) ?_
  refine q_q _ rfl rfl rfl (OpQ.fn (dry_v _ _) rfl rfl SubRC.sub) ?_
  first | refine q_q _ rfl rfl rfl (v_fieldAddr rfl Try.underlying31 inf3 rfl rfl rfl rfl) ?_ | refine q_q _ rfl rfl rfl (v_fieldAddrE rfl Try.underlying31 inf3 rfl rfl rfl rfl) ?_
  first | refine q_q _ rfl rfl rfl (v_ld1 rfl Try.underlying3 rfl rfl rfl) ?_ | refine q_q _ rfl rfl rfl (v_lf1 rfl Try.underlying3 rfl rfl rfl) ?_ | refine q_q _ rfl rfl rfl (v_loadE1 rfl Try.underlying3 rfl rfl (by omega) rfl rfl) ?_
  first | refine q_q _ rfl rfl rfl (v_fieldAddr rfl Try.underlying31 inf3 rfl rfl rfl rfl) ?_ | refine q_q _ rfl rfl rfl (v_fieldAddrE rfl Try.underlying31 inf3 rfl rfl rfl rfl) ?_
  first | refine q_q _ rfl rfl rfl (v_ld1 rfl Try.underlying3 rfl rfl rfl) ?_ | refine q_q _ rfl rfl rfl (v_lf1 rfl Try.underlying3 rfl rfl rfl) ?_ | refine q_q _ rfl rfl rfl (v_loadE1 rfl Try.underlying3 rfl rfl (by omega) rfl rfl) ?_
  refine q_q _ rfl rfl rfl (v_sub rfl rfl rfl (by omega)) ?_
  refine q_q _ rfl rfl rfl (v_add rfl rfl rfl (by omega)) ?_
  refine q_q _ rfl rfl rfl (v_assign rfl rfl) ?_
  refine q_nil ?_
  repeat (first | with_reducible refine r_then ?_ | with_reducible refine r_in_normal ?_ | with_reducible refine r_sc_normal ?_)
  refine r_ret ?_
  repeat (first | with_reducible refine r_then_ret ?_ | with_reducible refine r_in_ret ?_ | with_reducible refine r_sc_ret ?_)
  exact r_retv2 (Rd.tmp rfl rfl) (congrArg (Value.int .i64) (by omega)) SelMC.sel SubRC.sub
set_option maxHeartbeats 4000000 in
theorem ask_t (e : Int) : FnV Try.prog 62 [.bool true, i64 e] [] (.tuple #[]) := by
  refine FnV.intro Try.call62 Try.func62 rfl Try.ntmps62 rfl ?_
  intro W M Rf
  refine r_seq ?_
  refine r_region ?_
  refine o_q _ rfl rfl rfl (v_move rfl rfl) ?_
  refine o_q _ rfl rfl rfl (v_not rfl rfl) ?_
  refine o_nil ?_
  repeat (first | with_reducible refine r_then ?_ | with_reducible refine r_in_normal ?_ | with_reducible refine r_sc_normal ?_)
  first | refine r_condd rfl (fun hc5 => ?_) (fun hc5 => ?_) | refine r_cond rfl (fun hc5 => ?_) (fun hc5 => ?_)
  ·
    first
    | (exfalso; revert hc5; decide)
    | (exfalso; omega)
    | skip
      refine r_region ?_
      refine o_q _ rfl rfl rfl (v_move rfl rfl) ?_
      refine o_q _ rfl rfl rfl (v_makeIface rfl Try.underlying121 rfl rfl) ?_
      refine o_panic rfl rfl rfl ?_
      repeat (first | with_reducible refine r_then_panic ?_ | with_reducible refine r_in_panic ?_ | with_reducible refine r_sc_panic ?_)
      skip
  ·
    first
    | (exfalso; revert hc5; decide)
    | (exfalso; omega)
    | skip
      refine r_skip ?_
      repeat (first | with_reducible refine r_then ?_ | with_reducible refine r_in_normal ?_ | with_reducible refine r_sc_normal ?_)
      exact r_endv (Rd.none rfl) SelMC.sel SubRC.sub
set_option maxHeartbeats 4000000 in
theorem ask_f (e : Int) : FnX Try.prog 62 [.bool false, i64 e] [] (.iface 121 (i64 e)) := by
  refine FnX.intro Try.call62 Try.func62 rfl Try.ntmps62 rfl ?_
  intro W M Rf
  refine r_seq ?_
  refine r_region ?_
  refine o_q _ rfl rfl rfl (v_move rfl rfl) ?_
  refine o_q _ rfl rfl rfl (v_not rfl rfl) ?_
  refine o_nil ?_
  repeat (first | with_reducible refine r_then ?_ | with_reducible refine r_in_normal ?_ | with_reducible refine r_sc_normal ?_)
  first | refine r_condd rfl (fun hc5 => ?_) (fun hc5 => ?_) | refine r_cond rfl (fun hc5 => ?_) (fun hc5 => ?_)
  ·
    first
    | (exfalso; revert hc5; decide)
    | (exfalso; omega)
    | skip
      refine r_region ?_
      refine o_q _ rfl rfl rfl (v_move rfl rfl) ?_
      refine o_q _ rfl rfl rfl (v_makeIface rfl Try.underlying121 rfl rfl) ?_
      refine o_panic rfl rfl rfl ?_
      repeat (first | with_reducible refine r_then_panic ?_ | with_reducible refine r_in_panic ?_ | with_reducible refine r_sc_panic ?_)
      exact r_retx SelMC.sel SubRC.sub
  ·
    first
    | (exfalso; revert hc5; decide)
    | (exfalso; omega)
    | skip
      refine r_skip ?_
      repeat (first | with_reducible refine r_then ?_ | with_reducible refine r_in_normal ?_ | with_reducible refine r_sc_normal ?_)
      skip
set_option maxHeartbeats 4000000 in
theorem answer_ans : AnsP Try.prog 46 .i64 121 32 := by
  refine ⟨Try.call46, fun W M R w b hw => ?_, fun W M R w b x y hw => ?_⟩
  · refine ans_intro (args := [pt b 0]) (u' := .returning) (v := .nilIface) Try.func46 rfl Try.ntmps46 rfl rfl rfl rfl rfl rfl rfl rfl rfl (fun c₀ cs h => .inr ⟨rec_ret h, rfl, rfl⟩) hw ?_
    intro c₀ cs
    refine r_seq ?_
    refine r_region ?_
    refine o_q _ rfl rfl rfl (v_move rfl rfl) ?_
    first | refine o_q _ rfl rfl rfl (v_ifnn rfl Try.underlying20 rfl) ?_ | refine o_q _ rfl rfl rfl (v_ifnil rfl Try.underlying20 rfl) ?_
    refine o_nil ?_
    repeat (first | with_reducible refine r_then ?_ | with_reducible refine r_in_normal ?_ | with_reducible refine r_sc_normal ?_)
    first | refine r_condd rfl (fun hc7 => ?_) (fun hc7 => ?_) | refine r_cond rfl (fun hc7 => ?_) (fun hc7 => ?_)
    ·
      first
      | (exfalso; revert hc7; decide)
      | (exfalso; omega)
      | skip
        refine r_seq ?_
        refine r_region ?_
        refine o_q _ rfl rfl rfl (v_move rfl rfl) ?_
        refine o_q _ rfl rfl rfl (v_assertOk rfl Try.underlying121 rfl rfl) ?_
        refine o_q _ rfl rfl rfl (v_move rfl rfl) ?_
        refine o_q _ rfl rfl rfl (v_extract rfl rfl rfl) ?_
        refine o_q _ rfl rfl rfl (v_extract rfl rfl rfl) ?_
        refine o_q _ rfl rfl rfl (v_assign rfl rfl) ?_
        refine o_q _ rfl rfl rfl (v_assign rfl rfl) ?_
        refine o_nil ?_
        repeat (first | with_reducible refine r_then ?_ | with_reducible refine r_in_normal ?_ | with_reducible refine r_sc_normal ?_)
        refine r_seq ?_
        refine r_seq ?_
        refine r_region ?_
        refine o_q _ rfl rfl rfl (v_move rfl rfl) ?_
        refine o_q _ rfl rfl rfl (v_not rfl rfl) ?_
        refine o_nil ?_
        repeat (first | with_reducible refine r_then ?_ | with_reducible refine r_in_normal ?_ | with_reducible refine r_sc_normal ?_)
        first | refine r_condd rfl (fun hc14 => ?_) (fun hc14 => ?_) | refine r_cond rfl (fun hc14 => ?_) (fun hc14 => ?_)
        ·
          first
          | (exfalso; revert hc14; decide)
          | (exfalso; omega)
          | skip
            refine r_region ?_
            refine o_q _ rfl rfl rfl (v_move rfl rfl) ?_
            refine o_panic rfl rfl rfl ?_
            repeat (first | with_reducible refine r_then_panic ?_ | with_reducible refine r_in_panic ?_ | with_reducible refine r_sc_panic ?_)
            skip
        ·
          first
          | (exfalso; revert hc14; decide)
          | (exfalso; omega)
          | skip
            refine r_skip ?_
            repeat (first | with_reducible refine r_then ?_ | with_reducible refine r_in_normal ?_ | with_reducible refine r_sc_normal ?_)
            refine r_region ?_
            refine o_q _ rfl rfl rfl (v_move rfl rfl) ?_
            refine o_q _ rfl rfl rfl (v_move rfl rfl) ?_
            refine o_q _ rfl rfl rfl (v_nilCheck rfl rfl) ?_
            refine o_st rfl inf32 rfl rfl rfl rfl rfl rfl rfl rfl ?_
            refine o_nil ?_
            repeat (first | with_reducible refine r_then ?_ | with_reducible refine r_in_normal ?_ | with_reducible refine r_sc_normal ?_)
            exact r_ends (Rd.none rfl) (fun w' h => ⟨⟨_, rfl⟩, rfl, h⟩)
    ·
      first
      | (exfalso; revert hc7; decide)
      | (exfalso; omega)
      | skip
        refine r_skip ?_
        repeat (first | with_reducible refine r_then ?_ | with_reducible refine r_in_normal ?_ | with_reducible refine r_sc_normal ?_)
        exact r_ends (Rd.none rfl) (fun w' h => ⟨⟨_, rfl⟩, rfl, h⟩)
  · refine ans_intro (args := [pt b 0]) (u' := .panicking [{ v := .iface 121 (i64 y), recovered := true }]) (v := .iface 121 (i64 y)) Try.func46 rfl Try.ntmps46 rfl rfl rfl rfl rfl rfl rfl rfl rfl (fun c₀ cs h => .inl (rec_pan h)) hw ?_
    intro c₀ cs
    refine r_seq ?_
    refine r_region ?_
    refine o_q _ rfl rfl rfl (v_move rfl rfl) ?_
    first | refine o_q _ rfl rfl rfl (v_ifnn rfl Try.underlying20 rfl) ?_ | refine o_q _ rfl rfl rfl (v_ifnil rfl Try.underlying20 rfl) ?_
    refine o_nil ?_
    repeat (first | with_reducible refine r_then ?_ | with_reducible refine r_in_normal ?_ | with_reducible refine r_sc_normal ?_)
    first | refine r_condd rfl (fun hc7 => ?_) (fun hc7 => ?_) | refine r_cond rfl (fun hc7 => ?_) (fun hc7 => ?_)
    ·
      first
      | (exfalso; revert hc7; decide)
      | (exfalso; omega)
      | skip
        refine r_seq ?_
        refine r_region ?_
        refine o_q _ rfl rfl rfl (v_move rfl rfl) ?_
        refine o_q _ rfl rfl rfl (v_assertOk rfl Try.underlying121 rfl rfl) ?_
        refine o_q _ rfl rfl rfl (v_move rfl rfl) ?_
        refine o_q _ rfl rfl rfl (v_extract rfl rfl rfl) ?_
        refine o_q _ rfl rfl rfl (v_extract rfl rfl rfl) ?_
        refine o_q _ rfl rfl rfl (v_assign rfl rfl) ?_
        refine o_q _ rfl rfl rfl (v_assign rfl rfl) ?_
        refine o_nil ?_
        repeat (first | with_reducible refine r_then ?_ | with_reducible refine r_in_normal ?_ | with_reducible refine r_sc_normal ?_)
        refine r_seq ?_
        refine r_seq ?_
        refine r_region ?_
        refine o_q _ rfl rfl rfl (v_move rfl rfl) ?_
        refine o_q _ rfl rfl rfl (v_not rfl rfl) ?_
        refine o_nil ?_
        repeat (first | with_reducible refine r_then ?_ | with_reducible refine r_in_normal ?_ | with_reducible refine r_sc_normal ?_)
        first | refine r_condd rfl (fun hc14 => ?_) (fun hc14 => ?_) | refine r_cond rfl (fun hc14 => ?_) (fun hc14 => ?_)
        ·
          first
          | (exfalso; revert hc14; decide)
          | (exfalso; omega)
          | skip
            refine r_region ?_
            refine o_q _ rfl rfl rfl (v_move rfl rfl) ?_
            refine o_panic rfl rfl rfl ?_
            repeat (first | with_reducible refine r_then_panic ?_ | with_reducible refine r_in_panic ?_ | with_reducible refine r_sc_panic ?_)
            skip
        ·
          first
          | (exfalso; revert hc14; decide)
          | (exfalso; omega)
          | skip
            refine r_skip ?_
            repeat (first | with_reducible refine r_then ?_ | with_reducible refine r_in_normal ?_ | with_reducible refine r_sc_normal ?_)
            refine r_region ?_
            refine o_q _ rfl rfl rfl (v_move rfl rfl) ?_
            refine o_q _ rfl rfl rfl (v_move rfl rfl) ?_
            refine o_q _ rfl rfl rfl (v_nilCheck rfl rfl) ?_
            refine o_st rfl inf32 rfl rfl rfl rfl rfl rfl rfl rfl ?_
            refine o_nil ?_
            repeat (first | with_reducible refine r_then ?_ | with_reducible refine r_in_normal ?_ | with_reducible refine r_sc_normal ?_)
            exact r_ends (Rd.none rfl) (fun w' h => ⟨⟨_, rfl⟩, rfl, h⟩)
    ·
      first
      | (exfalso; revert hc7; decide)
      | (exfalso; omega)
      | skip
        refine r_skip ?_
        repeat (first | with_reducible refine r_then ?_ | with_reducible refine r_in_normal ?_ | with_reducible refine r_sc_normal ?_)
        exact r_ends (Rd.none rfl) (fun w' h => ⟨⟨_, rfl⟩, rfl, h⟩)
end Go.Proofs.Ytienjlmnakbfmaa

namespace Go.Proofs.Ytienjlmnakbfmaa
open Go.G Foot4
set_option maxRecDepth 1000000
theorem chk_1 {F : Work} {v : Bool} (h : ¬ GoodF F) : chk F v = 1 := if_neg h
theorem chk_2 {F : Work} {v : Bool} (hv : ¬ v = true) (h : GoodF F) : chk F v = 2 := by unfold chk; rw [if_pos h, if_neg hv]
theorem chk_0 {F : Work} {v : Bool} (hv : v = true) (h : GoodF F) : chk F v = 0 := by unfold chk; rw [if_pos h, if_pos hv]
theorem goodrain {F : Work} (h : ¬ ∃ k, k < F.rain.length ∧ ¬ SpanOk (F.rain.getD k default) 10) : ∀ k, k < F.rain.length → 0 ≤ (F.rain.getD k default).lo ∧ (F.rain.getD k default).lo ≤ (F.rain.getD k default).hi ∧ (F.rain.getD k default).hi ≤ 10 := by
  intro k hk
  exact Classical.not_not.1 fun hx => h ⟨k, hk, hx⟩
theorem norain {F : Work} (h : ∃ k, k < F.rain.length ∧ ¬ SpanOk (F.rain.getD k default) 10) (g : ∀ k, k < F.rain.length → 0 ≤ (F.rain.getD k default).lo ∧ (F.rain.getD k default).lo ≤ (F.rain.getD k default).hi ∧ (F.rain.getD k default).hi ≤ 10) : False := by
  obtain ⟨k, hk, hx⟩ := h
  exact hx (g k hk)
theorem r_panx {P : Program} {W : World} {n : Nat} {D : List Deferred} {L : Tm} {M : List Res} {R : List Fact} {fn : Func} {Rr : Ending → World → Prop} {c : List PanicEntry} (h : False) : Imp W n D L M R (bodyPost P fn Rr (.panic c)) := h.elim
theorem r_retx2 {P : Program} {W : World} {n : Nat} {L : Tm} {M : List Res} {R : List Fact} {fn : Func} {M0 : List Res} {R0 : List Fact} {t : TypeId} {x y : Int} (he : x = y) (hM : SelM M M0) (hR : SubR R R0) : Imp W n [] L M R (bodyPost P fn (RetX W M0 R0 (.iface t (i64 y))) (.panic [{ v := .iface t (i64 x), recovered := false }])) := by
  subst he; exact r_retx hM hR
set_option maxHeartbeats 4000000 in
theorem open_ok (F : Work) (ro ho : Option Addr) (rc hc : Nat) (hr : F.rain.length ≤ 40) (hh : F.heaps.length ≤ 40) (g : GoodF F) : FnR Try.prog 47 [valF F ro rc ho hc, .bool true] [rowD ro 2 encS F.rain, rowD ho 3 encH F.heaps] (isP) (fun v => [boxF (blk v) 126 (cellsF F ro rc ho hc)]) := by
  refine FnR.intro Try.call47 Try.func47 rfl Try.ntmps47 rfl ?_
  intro W M Rf
  refine r_seq ?_
  refine r_region ?_
  refine o_boxA rfl rfl rfl rfl rfl (fun b2 => ?_)
  refine o_q _ rfl rfl rfl (v_assign rfl rfl) ?_
  refine o_nil ?_
  repeat (first | with_reducible refine r_then ?_ | with_reducible refine r_in_normal ?_ | with_reducible refine r_sc_normal ?_)
  refine r_seq ?_
  refine r_region ?_
  first | refine o_q _ rfl rfl rfl (v_fieldAddr rfl Try.underlying26 inf22 rfl rfl rfl rfl) ?_ | refine o_q _ rfl rfl rfl (v_fieldAddrE rfl Try.underlying26 inf22 rfl rfl rfl rfl) ?_
  first | refine o_q _ rfl rfl rfl (v_ld1 rfl Try.underlying22 rfl rfl rfl) ?_ | refine o_q _ rfl rfl rfl (v_lf1 rfl Try.underlying22 rfl rfl rfl) ?_ | refine o_q _ rfl rfl rfl (v_loadE1 rfl Try.underlying22 rfl rfl (by omega) rfl rfl) ?_
  refine o_q _ rfl rfl rfl (v_len rfl rfl Try.underlying22 rfl) ?_
  first | refine o_q _ rfl rfl rfl (v_true (OpQ.fn (within_v _ _ _) rfl rfl SubRC.sub) (by omega)) ?_ | refine o_q _ rfl rfl rfl (v_false (OpQ.fn (within_v _ _ _) rfl rfl SubRC.sub) (by omega)) ?_ | refine o_test rfl rfl rfl (OpQ.fn (within_v _ _ _) rfl rfl SubRC.sub) (fun h11 => ?_) (fun h11 => ?_)
  all_goals
    refine o_q _ rfl rfl rfl (v_move rfl rfl) ?_
    first | refine o_gn rfl rfl rfl rfl ?_ | refine o_g _ rfl rfl rfl rfl (v_fieldAddr rfl Try.underlying26 inf3 rfl rfl rfl rfl) ?_ | refine o_g _ rfl rfl rfl rfl (v_fieldAddrE rfl Try.underlying26 inf3 rfl rfl rfl rfl) ?_
    first | refine o_gn rfl rfl rfl rfl ?_ | refine o_g _ rfl rfl rfl rfl (v_ld1 rfl Try.underlying3 rfl rfl rfl) ?_ | refine o_g _ rfl rfl rfl rfl (v_lf1 rfl Try.underlying3 rfl rfl rfl) ?_ | refine o_g _ rfl rfl rfl rfl (v_loadE1 rfl Try.underlying3 rfl rfl (by omega) rfl rfl) ?_
    first | refine o_gn rfl rfl rfl rfl ?_ | refine o_g _ rfl rfl rfl rfl (v_true (OpQ.fn (within_v _ _ _) rfl rfl SubRC.sub) (by omega)) ?_ | refine o_g _ rfl rfl rfl rfl (v_false (OpQ.fn (within_v _ _ _) rfl rfl SubRC.sub) (by omega)) ?_ | refine o_gtest rfl rfl rfl rfl (OpQ.fn (within_v _ _ _) rfl rfl SubRC.sub) (fun h15 => ?_) (fun h15 => ?_)
    all_goals
      first | refine o_q _ rfl rfl rfl (v_pick_t rfl rfl rfl) ?_ | refine o_q _ rfl rfl rfl (v_pick_f rfl rfl rfl) ?_
      refine o_q _ rfl rfl rfl (v_move rfl rfl) ?_
      first | refine o_gn rfl rfl rfl rfl ?_ | refine o_g _ rfl rfl rfl rfl (v_fieldAddr rfl Try.underlying26 inf24 rfl rfl rfl rfl) ?_ | refine o_g _ rfl rfl rfl rfl (v_fieldAddrE rfl Try.underlying26 inf24 rfl rfl rfl rfl) ?_
      first | refine o_gn rfl rfl rfl rfl ?_ | refine o_g _ rfl rfl rfl rfl (v_ld1 rfl Try.underlying24 rfl rfl rfl) ?_ | refine o_g _ rfl rfl rfl rfl (v_lf1 rfl Try.underlying24 rfl rfl rfl) ?_ | refine o_g _ rfl rfl rfl rfl (v_loadE1 rfl Try.underlying24 rfl rfl (by omega) rfl rfl) ?_
      first | refine o_gn rfl rfl rfl rfl ?_ | refine o_g _ rfl rfl rfl rfl (v_len rfl rfl Try.underlying24 rfl) ?_
      first | refine o_gn rfl rfl rfl rfl ?_ | refine o_g _ rfl rfl rfl rfl (v_true (v_leq rfl rfl rfl) (by omega)) ?_ | refine o_g _ rfl rfl rfl rfl (v_false (v_leq rfl rfl rfl) (by omega)) ?_ | refine o_gtest rfl rfl rfl rfl (v_leq rfl rfl rfl) (fun h21 => ?_) (fun h21 => ?_)
      all_goals
        first | refine o_q _ rfl rfl rfl (v_pick_t rfl rfl rfl) ?_ | refine o_q _ rfl rfl rfl (v_pick_f rfl rfl rfl) ?_
        first | refine o_q _ rfl rfl rfl (OpQ.fn (ask_t _) rfl rfl SubRC.sub) ?_ | refine o_fnx (ask_f _) rfl rfl rfl SubRC.sub ?_
        repeat (first | with_reducible refine r_then_panic ?_ | with_reducible refine r_in_panic ?_ | with_reducible refine r_sc_panic ?_)
        try (refine r_panx ?_; (obtain ⟨g1, g2, g3, g4, g5, g6⟩ := g; first | omega | exact absurd rfl (by assumption) | exact norain (by assumption) g4 | (have g9 := g5 k1 (by omega); omega) | (have g9 := g6 k2 (by omega); omega)))
        all_goals
          refine o_nil ?_
          repeat (first | with_reducible refine r_then ?_ | with_reducible refine r_in_normal ?_ | with_reducible refine r_sc_normal ?_)
          refine r_seq ?_
          refine r_region ?_
          first | refine o_q _ rfl rfl rfl (v_fieldAddr rfl Try.underlying26 inf22 rfl rfl rfl rfl) ?_ | refine o_q _ rfl rfl rfl (v_fieldAddrE rfl Try.underlying26 inf22 rfl rfl rfl rfl) ?_
          first | refine o_q _ rfl rfl rfl (v_ld1 rfl Try.underlying22 rfl rfl rfl) ?_ | refine o_q _ rfl rfl rfl (v_lf1 rfl Try.underlying22 rfl rfl rfl) ?_ | refine o_q _ rfl rfl rfl (v_loadE1 rfl Try.underlying22 rfl rfl (by omega) rfl rfl) ?_
          first | refine o_q _ rfl rfl rfl (v_true (OpQ.fn (spans_c (fun s => ¬ SpanOk s 10) F.rain ro rc 83 [] [] (by omega) (fun k _ => open1_v _)) rfl rfl SubRC.sub) (by omega)) ?_ | refine o_q _ rfl rfl rfl (v_false (OpQ.fn (spans_c (fun s => ¬ SpanOk s 10) F.rain ro rc 83 [] [] (by omega) (fun k _ => open1_v _)) rfl rfl SubRC.sub) (by omega)) ?_ | refine o_test rfl rfl rfl (OpQ.fn (spans_c (fun s => ¬ SpanOk s 10) F.rain ro rc 83 [] [] (by omega) (fun k _ => open1_v _)) rfl rfl SubRC.sub) (fun h26 => ?_) (fun h26 => ?_)
          all_goals
            refine o_q _ rfl rfl rfl (v_not rfl rfl) ?_
            first | refine o_q _ rfl rfl rfl (OpQ.fn (ask_t _) rfl rfl SubRC.sub) ?_ | refine o_fnx (ask_f _) rfl rfl rfl SubRC.sub ?_
            repeat (first | with_reducible refine r_then_panic ?_ | with_reducible refine r_in_panic ?_ | with_reducible refine r_sc_panic ?_)
            try (refine r_panx ?_; (obtain ⟨g1, g2, g3, g4, g5, g6⟩ := g; first | omega | exact absurd rfl (by assumption) | exact norain (by assumption) g4 | (have g9 := g5 k1 (by omega); omega) | (have g9 := g6 k2 (by omega); omega)))
            all_goals
              refine o_nil ?_
              repeat (first | with_reducible refine r_then ?_ | with_reducible refine r_in_normal ?_ | with_reducible refine r_sc_normal ?_)
              refine r_seq ?_
              refine r_seq ?_
              refine r_region ?_
              refine o_q _ rfl rfl rfl (v_move rfl rfl) ?_
              refine o_nil ?_
              repeat (first | with_reducible refine r_then ?_ | with_reducible refine r_in_normal ?_ | with_reducible refine r_sc_normal ?_)
              refine r_block ?_
              refine r_loop (ι := Nat) (fun k1 => k1 ≤ 3 ∧ ∀ j, j < k1 → (0 ≤ F.lim.at j ∧ F.lim.at j ≤ 60) ∧ (0 ≤ F.dr.at j ∧ F.dr.at j ≤ 10)) (fun k1 => [(1, .bool true), (2, pt b2 0), (29, i64 k1)]) (fun k1 => bx b2 26 (cellsF F ro rc ho hc) :: M) (fun k1 => [rowD ro 2 encS F.rain, rowD ho 3 encH F.heaps] ++ Rf) (fun k1 => 3 - k1) 0 ?_ ?_ ?_
              ·
                exact r_here (by repeat (first | exact FSub.nil | refine FSub.cons rfl ?_)) SelMC.sel SubRC.sub
              ·
                exact ⟨by omega, fun j hj => absurd hj (by omega)⟩
              ·
                rintro k1 hI0
                refine r_seq ?_
                refine r_region ?_
                refine o_q _ rfl rfl rfl (v_lss rfl rfl rfl) ?_
                refine o_nil ?_
                repeat (first | with_reducible refine r_then ?_ | with_reducible refine r_in_normal ?_ | with_reducible refine r_sc_normal ?_)
                refine r_seq ?_
                first | refine r_condd rfl (fun hc30 => ?_) (fun hc30 => ?_) | refine r_cond rfl (fun hc30 => ?_) (fun hc30 => ?_)
                ·
                  first
                  | (exfalso; revert hc30; decide)
                  | (exfalso; omega)
                  | skip
                    refine r_skip ?_
                    repeat (first | with_reducible refine r_then ?_ | with_reducible refine r_in_normal ?_ | with_reducible refine r_sc_normal ?_)
                    refine r_seq ?_
                    refine r_block ?_
                    refine r_seq ?_
                    refine r_region ?_
                    refine o_q _ rfl rfl rfl (v_move rfl rfl) ?_
                    refine o_q _ rfl rfl rfl (v_assign rfl rfl) ?_
                    refine o_nil ?_
                    repeat (first | with_reducible refine r_then ?_ | with_reducible refine r_in_normal ?_ | with_reducible refine r_sc_normal ?_)
                    refine r_region ?_
                    refine o_q _ rfl rfl rfl (v_move rfl rfl) ?_
                    first | refine o_q _ rfl rfl rfl (v_fieldAddr rfl Try.underlying26 inf23 rfl rfl rfl rfl) ?_ | refine o_q _ rfl rfl rfl (v_fieldAddrE rfl Try.underlying26 inf23 rfl rfl rfl rfl) ?_
                    first | refine o_q _ rfl rfl rfl (v_indexAddrAn rfl Try.underlying23 inf3 rfl rfl (by omega)) ?_ | refine o_q _ rfl rfl rfl (v_indexAddrA rfl Try.underlying23 inf3 rfl rfl (by omega)) ?_ | refine o_q _ rfl rfl rfl (v_indexAddrE rfl Try.underlying23 inf3 rfl rfl (by omega)) ?_
                    refine o_q _ rfl rfl rfl (v_ld1 rfl Try.underlying3 rfl rfl (F_limn (by omega))) ?_
                    first | refine o_q _ rfl rfl rfl (v_true (OpQ.fn (within_v _ _ _) rfl rfl SubRC.sub) (by omega)) ?_ | refine o_q _ rfl rfl rfl (v_false (OpQ.fn (within_v _ _ _) rfl rfl SubRC.sub) (by omega)) ?_ | refine o_test rfl rfl rfl (OpQ.fn (within_v _ _ _) rfl rfl SubRC.sub) (fun h36 => ?_) (fun h36 => ?_)
                    all_goals
                      refine o_q _ rfl rfl rfl (v_move rfl rfl) ?_
                      first | refine o_gn rfl rfl rfl rfl ?_ | refine o_g _ rfl rfl rfl rfl (v_move rfl rfl) ?_
                      first | refine o_gn rfl rfl rfl rfl ?_ | refine o_g _ rfl rfl rfl rfl (v_fieldAddr rfl Try.underlying26 inf23 rfl rfl rfl rfl) ?_ | refine o_g _ rfl rfl rfl rfl (v_fieldAddrE rfl Try.underlying26 inf23 rfl rfl rfl rfl) ?_
                      first | refine o_gn rfl rfl rfl rfl ?_ | refine o_g _ rfl rfl rfl rfl (v_indexAddrAn rfl Try.underlying23 inf3 rfl rfl (by omega)) ?_ | refine o_g _ rfl rfl rfl rfl (v_indexAddrA rfl Try.underlying23 inf3 rfl rfl (by omega)) ?_ | refine o_g _ rfl rfl rfl rfl (v_indexAddrE rfl Try.underlying23 inf3 rfl rfl (by omega)) ?_
                      first | refine o_gn rfl rfl rfl rfl ?_ | refine o_g _ rfl rfl rfl rfl (v_ld1 rfl Try.underlying3 rfl rfl (F_drn (by omega))) ?_
                      first | refine o_gn rfl rfl rfl rfl ?_ | refine o_g _ rfl rfl rfl rfl (v_true (OpQ.fn (within_v _ _ _) rfl rfl SubRC.sub) (by omega)) ?_ | refine o_g _ rfl rfl rfl rfl (v_false (OpQ.fn (within_v _ _ _) rfl rfl SubRC.sub) (by omega)) ?_ | refine o_gtest rfl rfl rfl rfl (OpQ.fn (within_v _ _ _) rfl rfl SubRC.sub) (fun h42 => ?_) (fun h42 => ?_)
                      all_goals
                        first | refine o_q _ rfl rfl rfl (v_pick_t rfl rfl rfl) ?_ | refine o_q _ rfl rfl rfl (v_pick_f rfl rfl rfl) ?_
                        first | refine o_q _ rfl rfl rfl (OpQ.fn (ask_t _) rfl rfl SubRC.sub) ?_ | refine o_fnx (ask_f _) rfl rfl rfl SubRC.sub ?_
                        repeat (first | with_reducible refine r_then_panic ?_ | with_reducible refine r_in_panic ?_ | with_reducible refine r_sc_panic ?_)
                        try (refine r_panx ?_; (obtain ⟨g1, g2, g3, g4, g5, g6⟩ := g; first | omega | exact absurd rfl (by assumption) | exact norain (by assumption) g4 | (have g9 := g5 k1 (by omega); omega) | (have g9 := g6 k2 (by omega); omega)))
                        all_goals
                          refine o_nil ?_
                          repeat (first | with_reducible refine r_then ?_ | with_reducible refine r_in_normal ?_ | with_reducible refine r_sc_normal ?_)
                          refine r_region ?_
                          refine o_q _ rfl rfl rfl (v_add rfl rfl rfl (by omega)) ?_
                          refine o_q _ rfl rfl rfl (v_move rfl rfl) ?_
                          refine o_nil ?_
                          repeat (first | with_reducible refine r_then ?_ | with_reducible refine r_in_normal ?_ | with_reducible refine r_sc_normal ?_)
                          refine r_next (k1 + 1) ?_ ?_ ?_
                          ·
                            exact r_here (by repeat (first | exact FSub.nil | refine FSub.cons rfl ?_)) SelMC.sel SubRC.sub
                          ·
                            exact ⟨by omega, all_step hI0.2 ⟨by assumption, by assumption⟩⟩
                          ·
                            omega
                ·
                  first
                  | (exfalso; revert hc30; decide)
                  | (exfalso; omega)
                  | skip
                    refine r_exit ?_
                    repeat (first | with_reducible refine r_then_exit ?_ | with_reducible refine r_sc_exit ?_ | with_reducible refine r_in_here ?_ | (with_reducible refine r_in_past (by decide) ?_) | with_reducible refine r_then ?_ | with_reducible refine r_in_normal ?_ | with_reducible refine r_sc_normal ?_)
                    refine r_seq ?_
                    refine r_seq ?_
                    refine r_region ?_
                    first | refine o_q _ rfl rfl rfl (v_fieldAddr rfl Try.underlying26 inf24 rfl rfl rfl rfl) ?_ | refine o_q _ rfl rfl rfl (v_fieldAddrE rfl Try.underlying26 inf24 rfl rfl rfl rfl) ?_
                    first | refine o_q _ rfl rfl rfl (v_ld1 rfl Try.underlying24 rfl rfl rfl) ?_ | refine o_q _ rfl rfl rfl (v_lf1 rfl Try.underlying24 rfl rfl rfl) ?_ | refine o_q _ rfl rfl rfl (v_loadE1 rfl Try.underlying24 rfl rfl (by omega) rfl rfl) ?_
                    refine o_q _ rfl rfl rfl (v_len rfl rfl Try.underlying24 rfl) ?_
                    refine o_q _ rfl rfl rfl (v_move rfl rfl) ?_
                    refine o_nil ?_
                    repeat (first | with_reducible refine r_then ?_ | with_reducible refine r_in_normal ?_ | with_reducible refine r_sc_normal ?_)
                    refine r_block ?_
                    refine r_loop (ι := Nat) (fun k2 => k2 ≤ F.heaps.length ∧ ∀ j, j < k2 → (0 ≤ (F.heaps.getD j default).lo ∧ (F.heaps.getD j default).lo ≤ (F.heaps.getD j default).hi ∧ (F.heaps.getD j default).hi ≤ 60) ∧ (0 ≤ (F.heaps.getD j default).sods ∧ (F.heaps.getD j default).sods ≤ 500)) (fun k2 => [(1, .bool true), (2, pt b2 0), (47, .slice ho F.heaps.length hc), (48, i64 F.heaps.length), (49, i64 k2)]) (fun k2 => bx b2 26 (cellsF F ro rc ho hc) :: M) (fun k2 => [rowD ro 2 encS F.rain, rowD ho 3 encH F.heaps] ++ Rf) (fun k2 => F.heaps.length - k2) 0 ?_ ?_ ?_
                    ·
                      exact r_here (by repeat (first | exact FSub.nil | refine FSub.cons rfl ?_)) SelMC.sel SubRC.sub
                    ·
                      exact ⟨by omega, fun j hj => absurd hj (by omega)⟩
                    ·
                      rintro k2 hI1
                      refine r_seq ?_
                      refine r_region ?_
                      refine o_q _ rfl rfl rfl (v_lss rfl rfl rfl) ?_
                      refine o_nil ?_
                      repeat (first | with_reducible refine r_then ?_ | with_reducible refine r_in_normal ?_ | with_reducible refine r_sc_normal ?_)
                      refine r_seq ?_
                      first | refine r_condd rfl (fun hc50 => ?_) (fun hc50 => ?_) | refine r_cond rfl (fun hc50 => ?_) (fun hc50 => ?_)
                      ·
                        first
                        | (exfalso; revert hc50; decide)
                        | (exfalso; omega)
                        | skip
                          refine r_skip ?_
                          repeat (first | with_reducible refine r_then ?_ | with_reducible refine r_in_normal ?_ | with_reducible refine r_sc_normal ?_)
                          refine r_seq ?_
                          refine r_block ?_
                          refine r_seq ?_
                          refine r_region ?_
                          first | refine o_q _ rfl rfl rfl (v_indexAddrSn rfl Try.underlying24 inf73 rfl rfl rfl (by omega) rfl) ?_ | refine o_q _ rfl rfl rfl (v_indexAddrS rfl Try.underlying24 inf73 rfl rfl rfl (by omega) (by omega) rfl) ?_
                          first | refine o_q _ rfl rfl rfl (v_ldW rfl Try.underlying73 rfl inf73 rfl rfl) ?_ | refine o_q _ rfl rfl rfl (v_lfW rfl Try.underlying73 rfl inf73 rfl rfl) ?_ | refine o_q _ rfl rfl rfl (v_lfN rfl Try.underlying73 rfl inf73 rfl rfl rfl) ?_ | refine o_q _ rfl rfl rfl (v_ldN rfl Try.underlying73 rfl inf73 rfl rfl rfl) ?_ | refine o_q _ rfl rfl rfl (v_loadEN rfl Try.underlying73 rfl inf73 rfl (by omega) rfl rfl rfl) ?_
                          refine o_alloc rfl inf73 rfl rfl rfl rfl rfl (fun b7 => ?_)
                          refine o_st rfl inf73 rfl rfl rfl rfl rfl rfl rfl rfl ?_
                          refine o_nil ?_
                          repeat (first | with_reducible refine r_then ?_ | with_reducible refine r_in_normal ?_ | with_reducible refine r_sc_normal ?_)
                          refine r_region ?_
                          first | refine o_q _ rfl rfl rfl (v_fieldAddr rfl Try.underlying73 inf31 rfl rfl rfl rfl) ?_ | refine o_q _ rfl rfl rfl (v_fieldAddrE rfl Try.underlying73 inf31 rfl rfl rfl rfl) ?_
                          first | refine o_q _ rfl rfl rfl (v_ldW rfl Try.underlying31 rfl inf31 rfl rfl) ?_ | refine o_q _ rfl rfl rfl (v_lfW rfl Try.underlying31 rfl inf31 rfl rfl) ?_ | refine o_q _ rfl rfl rfl (v_lfN rfl Try.underlying31 rfl inf31 rfl rfl rfl) ?_ | refine o_q _ rfl rfl rfl (v_ldN rfl Try.underlying31 rfl inf31 rfl rfl rfl) ?_ | refine o_q _ rfl rfl rfl (v_loadEN rfl Try.underlying31 rfl inf31 rfl (by omega) rfl rfl rfl) ?_
                          first | refine o_q _ rfl rfl rfl (v_true (OpQ.fn (isSpan_v _ _ _ _) rfl rfl SubRC.sub) (by omega)) ?_ | refine o_q _ rfl rfl rfl (v_false (OpQ.fn (isSpan_v _ _ _ _) rfl rfl SubRC.sub) (by omega)) ?_ | refine o_test rfl rfl rfl (OpQ.fn (isSpan_v _ _ _ _) rfl rfl SubRC.sub) (fun h55 => ?_) (fun h55 => ?_)
                          all_goals
                            refine o_q _ rfl rfl rfl (v_move rfl rfl) ?_
                            first | refine o_gn rfl rfl rfl rfl ?_ | refine o_g _ rfl rfl rfl rfl (v_fieldAddr rfl Try.underlying73 inf3 rfl rfl rfl rfl) ?_ | refine o_g _ rfl rfl rfl rfl (v_fieldAddrE rfl Try.underlying73 inf3 rfl rfl rfl rfl) ?_
                            first | refine o_gn rfl rfl rfl rfl ?_ | refine o_g _ rfl rfl rfl rfl (v_ld1 rfl Try.underlying3 rfl rfl rfl) ?_ | refine o_g _ rfl rfl rfl rfl (v_lf1 rfl Try.underlying3 rfl rfl rfl) ?_ | refine o_g _ rfl rfl rfl rfl (v_loadE1 rfl Try.underlying3 rfl rfl (by omega) rfl rfl) ?_
                            first | refine o_gn rfl rfl rfl rfl ?_ | refine o_g _ rfl rfl rfl rfl (v_true (OpQ.fn (within_v _ _ _) rfl rfl SubRC.sub) (by omega)) ?_ | refine o_g _ rfl rfl rfl rfl (v_false (OpQ.fn (within_v _ _ _) rfl rfl SubRC.sub) (by omega)) ?_ | refine o_gtest rfl rfl rfl rfl (OpQ.fn (within_v _ _ _) rfl rfl SubRC.sub) (fun h59 => ?_) (fun h59 => ?_)
                            all_goals
                              first | refine o_q _ rfl rfl rfl (v_pick_t rfl rfl rfl) ?_ | refine o_q _ rfl rfl rfl (v_pick_f rfl rfl rfl) ?_
                              first | refine o_q _ rfl rfl rfl (OpQ.fn (ask_t _) rfl rfl SubRC.sub) ?_ | refine o_fnx (ask_f _) rfl rfl rfl SubRC.sub ?_
                              repeat (first | with_reducible refine r_then_panic ?_ | with_reducible refine r_in_panic ?_ | with_reducible refine r_sc_panic ?_)
                              try (refine r_panx ?_; (obtain ⟨g1, g2, g3, g4, g5, g6⟩ := g; first | omega | exact absurd rfl (by assumption) | exact norain (by assumption) g4 | (have g9 := g5 k1 (by omega); omega) | (have g9 := g6 k2 (by omega); omega)))
                              all_goals
                                refine o_nil ?_
                                repeat (first | with_reducible refine r_then ?_ | with_reducible refine r_in_normal ?_ | with_reducible refine r_sc_normal ?_)
                                refine r_region ?_
                                refine o_q _ rfl rfl rfl (v_add rfl rfl rfl (by omega)) ?_
                                refine o_q _ rfl rfl rfl (v_move rfl rfl) ?_
                                refine o_nil ?_
                                repeat (first | with_reducible refine r_then ?_ | with_reducible refine r_in_normal ?_ | with_reducible refine r_sc_normal ?_)
                                refine r_next (k2 + 1) ?_ ?_ ?_
                                ·
                                  exact r_here (by repeat (first | exact FSub.nil | refine FSub.cons rfl ?_)) SelMC.sel SubRC.sub
                                ·
                                  exact ⟨by omega, all_step hI1.2 ⟨by assumption, by assumption⟩⟩
                                ·
                                  omega
                      ·
                        first
                        | (exfalso; revert hc50; decide)
                        | (exfalso; omega)
                        | skip
                          refine r_exit ?_
                          repeat (first | with_reducible refine r_then_exit ?_ | with_reducible refine r_sc_exit ?_ | with_reducible refine r_in_here ?_ | (with_reducible refine r_in_past (by decide) ?_) | with_reducible refine r_then ?_ | with_reducible refine r_in_normal ?_ | with_reducible refine r_sc_normal ?_)
                          refine r_seq ?_
                          refine r_region ?_
                          first | refine o_q _ rfl rfl rfl (v_true (OpQ.asTest (v_move rfl rfl)) (by omega)) ?_ | refine o_q _ rfl rfl rfl (v_false (OpQ.asTest (v_move rfl rfl)) (by omega)) ?_ | refine o_test rfl rfl rfl (OpQ.asTest (v_move rfl rfl)) (fun h63 => ?_) (fun h63 => ?_)
                          all_goals
                            first | refine o_q _ rfl rfl rfl (OpQ.fn (ask_t _) rfl rfl SubRC.sub) ?_ | refine o_fnx (ask_f _) rfl rfl rfl SubRC.sub ?_
                            repeat (first | with_reducible refine r_then_panic ?_ | with_reducible refine r_in_panic ?_ | with_reducible refine r_sc_panic ?_)
                            try (refine r_panx ?_; (obtain ⟨g1, g2, g3, g4, g5, g6⟩ := g; first | omega | exact absurd rfl (by assumption) | exact norain (by assumption) g4 | (have g9 := g5 k1 (by omega); omega) | (have g9 := g6 k2 (by omega); omega)))
                            all_goals
                              refine o_nil ?_
                              repeat (first | with_reducible refine r_then ?_ | with_reducible refine r_in_normal ?_ | with_reducible refine r_sc_normal ?_)
                              refine r_seq ?_
                              refine r_region ?_
                              first | refine o_q _ rfl rfl rfl (v_ldW rfl Try.underlying26 rfl inf26 rfl rfl) ?_ | refine o_q _ rfl rfl rfl (v_lfW rfl Try.underlying26 rfl inf26 rfl rfl) ?_ | refine o_q _ rfl rfl rfl (v_lfN rfl Try.underlying26 rfl inf26 rfl rfl rfl) ?_ | refine o_q _ rfl rfl rfl (v_ldN rfl Try.underlying26 rfl inf26 rfl rfl rfl) ?_ | refine o_q _ rfl rfl rfl (v_loadEN rfl Try.underlying26 rfl inf26 rfl (by omega) rfl rfl rfl) ?_
                              refine o_q _ rfl rfl rfl (v_bS rfl Try.underlying126 inf126 plt126 rfl rfl rfl (by repeat (first | exact trivial | refine ⟨rfl, ?_⟩)) (by rfl)) ?_
                              refine o_boxA rfl rfl rfl rfl rfl (fun b67 => ?_)
                              refine o_q _ rfl rfl rfl (v_assign rfl rfl) ?_
                              refine o_nil ?_
                              repeat (first | with_reducible refine r_then ?_ | with_reducible refine r_in_normal ?_ | with_reducible refine r_sc_normal ?_)
                              refine r_ret ?_
                              repeat (first | with_reducible refine r_then_ret ?_ | with_reducible refine r_in_ret ?_ | with_reducible refine r_sc_ret ?_)
                              refine Imp.sealB b67 ?_
                              exact r_retr (Rd.tmp rfl rfl) (isP_pt b67) SelMC.sel (fun _ h => h)
set_option maxHeartbeats 4000000 in
theorem open_x (F : Work) (ro ho : Option Addr) (rc hc : Nat) (v : Bool) (hr : F.rain.length ≤ 40) (hh : F.heaps.length ≤ 40) (hx : chk F v ≠ 0) : FnX Try.prog 47 [valF F ro rc ho hc, .bool v] [rowD ro 2 encS F.rain, rowD ho 3 encH F.heaps] (.iface 121 (i64 (chk F v))) := by
  refine FnX.intro Try.call47 Try.func47 rfl Try.ntmps47 rfl ?_
  intro W M Rf
  refine r_seq ?_
  refine r_region ?_
  refine o_boxA rfl rfl rfl rfl rfl (fun b2 => ?_)
  refine o_q _ rfl rfl rfl (v_assign rfl rfl) ?_
  refine o_nil ?_
  repeat (first | with_reducible refine r_then ?_ | with_reducible refine r_in_normal ?_ | with_reducible refine r_sc_normal ?_)
  refine r_seq ?_
  refine r_region ?_
  first | refine o_q _ rfl rfl rfl (v_fieldAddr rfl Try.underlying26 inf22 rfl rfl rfl rfl) ?_ | refine o_q _ rfl rfl rfl (v_fieldAddrE rfl Try.underlying26 inf22 rfl rfl rfl rfl) ?_
  first | refine o_q _ rfl rfl rfl (v_ld1 rfl Try.underlying22 rfl rfl rfl) ?_ | refine o_q _ rfl rfl rfl (v_lf1 rfl Try.underlying22 rfl rfl rfl) ?_ | refine o_q _ rfl rfl rfl (v_loadE1 rfl Try.underlying22 rfl rfl (by omega) rfl rfl) ?_
  refine o_q _ rfl rfl rfl (v_len rfl rfl Try.underlying22 rfl) ?_
  first | refine o_q _ rfl rfl rfl (v_true (OpQ.fn (within_v _ _ _) rfl rfl SubRC.sub) (by omega)) ?_ | refine o_q _ rfl rfl rfl (v_false (OpQ.fn (within_v _ _ _) rfl rfl SubRC.sub) (by omega)) ?_ | refine o_test rfl rfl rfl (OpQ.fn (within_v _ _ _) rfl rfl SubRC.sub) (fun h11 => ?_) (fun h11 => ?_)
  all_goals
    refine o_q _ rfl rfl rfl (v_move rfl rfl) ?_
    first | refine o_gn rfl rfl rfl rfl ?_ | refine o_g _ rfl rfl rfl rfl (v_fieldAddr rfl Try.underlying26 inf3 rfl rfl rfl rfl) ?_ | refine o_g _ rfl rfl rfl rfl (v_fieldAddrE rfl Try.underlying26 inf3 rfl rfl rfl rfl) ?_
    first | refine o_gn rfl rfl rfl rfl ?_ | refine o_g _ rfl rfl rfl rfl (v_ld1 rfl Try.underlying3 rfl rfl rfl) ?_ | refine o_g _ rfl rfl rfl rfl (v_lf1 rfl Try.underlying3 rfl rfl rfl) ?_ | refine o_g _ rfl rfl rfl rfl (v_loadE1 rfl Try.underlying3 rfl rfl (by omega) rfl rfl) ?_
    first | refine o_gn rfl rfl rfl rfl ?_ | refine o_g _ rfl rfl rfl rfl (v_true (OpQ.fn (within_v _ _ _) rfl rfl SubRC.sub) (by omega)) ?_ | refine o_g _ rfl rfl rfl rfl (v_false (OpQ.fn (within_v _ _ _) rfl rfl SubRC.sub) (by omega)) ?_ | refine o_gtest rfl rfl rfl rfl (OpQ.fn (within_v _ _ _) rfl rfl SubRC.sub) (fun h15 => ?_) (fun h15 => ?_)
    all_goals
      first | refine o_q _ rfl rfl rfl (v_pick_t rfl rfl rfl) ?_ | refine o_q _ rfl rfl rfl (v_pick_f rfl rfl rfl) ?_
      refine o_q _ rfl rfl rfl (v_move rfl rfl) ?_
      first | refine o_gn rfl rfl rfl rfl ?_ | refine o_g _ rfl rfl rfl rfl (v_fieldAddr rfl Try.underlying26 inf24 rfl rfl rfl rfl) ?_ | refine o_g _ rfl rfl rfl rfl (v_fieldAddrE rfl Try.underlying26 inf24 rfl rfl rfl rfl) ?_
      first | refine o_gn rfl rfl rfl rfl ?_ | refine o_g _ rfl rfl rfl rfl (v_ld1 rfl Try.underlying24 rfl rfl rfl) ?_ | refine o_g _ rfl rfl rfl rfl (v_lf1 rfl Try.underlying24 rfl rfl rfl) ?_ | refine o_g _ rfl rfl rfl rfl (v_loadE1 rfl Try.underlying24 rfl rfl (by omega) rfl rfl) ?_
      first | refine o_gn rfl rfl rfl rfl ?_ | refine o_g _ rfl rfl rfl rfl (v_len rfl rfl Try.underlying24 rfl) ?_
      first | refine o_gn rfl rfl rfl rfl ?_ | refine o_g _ rfl rfl rfl rfl (v_true (v_leq rfl rfl rfl) (by omega)) ?_ | refine o_g _ rfl rfl rfl rfl (v_false (v_leq rfl rfl rfl) (by omega)) ?_ | refine o_gtest rfl rfl rfl rfl (v_leq rfl rfl rfl) (fun h21 => ?_) (fun h21 => ?_)
      all_goals
        first | refine o_q _ rfl rfl rfl (v_pick_t rfl rfl rfl) ?_ | refine o_q _ rfl rfl rfl (v_pick_f rfl rfl rfl) ?_
        first | refine o_q _ rfl rfl rfl (OpQ.fn (ask_t _) rfl rfl SubRC.sub) ?_ | refine o_fnx (ask_f _) rfl rfl rfl SubRC.sub ?_
        repeat (first | with_reducible refine r_then_panic ?_ | with_reducible refine r_in_panic ?_ | with_reducible refine r_sc_panic ?_)
        try (first | exact r_retx2 (chk_2 (by assumption) ⟨by omega, by omega, by omega, goodrain (by assumption), fun j hj => hI0.2 j (by omega), fun j hj => hI1.2 j (by omega)⟩).symm SelMC.sel SubRC.sub | exact r_retx2 (chk_1 (fun g => by obtain ⟨g1, g2, g3, g4, g5, g6⟩ := g; first | omega | exact absurd rfl (by assumption) | exact norain (by assumption) g4 | (have g9 := g5 k1 (by omega); omega) | (have g9 := g6 k2 (by omega); omega))).symm SelMC.sel SubRC.sub)
        all_goals
          refine o_nil ?_
          repeat (first | with_reducible refine r_then ?_ | with_reducible refine r_in_normal ?_ | with_reducible refine r_sc_normal ?_)
          refine r_seq ?_
          refine r_region ?_
          first | refine o_q _ rfl rfl rfl (v_fieldAddr rfl Try.underlying26 inf22 rfl rfl rfl rfl) ?_ | refine o_q _ rfl rfl rfl (v_fieldAddrE rfl Try.underlying26 inf22 rfl rfl rfl rfl) ?_
          first | refine o_q _ rfl rfl rfl (v_ld1 rfl Try.underlying22 rfl rfl rfl) ?_ | refine o_q _ rfl rfl rfl (v_lf1 rfl Try.underlying22 rfl rfl rfl) ?_ | refine o_q _ rfl rfl rfl (v_loadE1 rfl Try.underlying22 rfl rfl (by omega) rfl rfl) ?_
          first | refine o_q _ rfl rfl rfl (v_true (OpQ.fn (spans_c (fun s => ¬ SpanOk s 10) F.rain ro rc 83 [] [] (by omega) (fun k _ => open1_v _)) rfl rfl SubRC.sub) (by omega)) ?_ | refine o_q _ rfl rfl rfl (v_false (OpQ.fn (spans_c (fun s => ¬ SpanOk s 10) F.rain ro rc 83 [] [] (by omega) (fun k _ => open1_v _)) rfl rfl SubRC.sub) (by omega)) ?_ | refine o_test rfl rfl rfl (OpQ.fn (spans_c (fun s => ¬ SpanOk s 10) F.rain ro rc 83 [] [] (by omega) (fun k _ => open1_v _)) rfl rfl SubRC.sub) (fun h26 => ?_) (fun h26 => ?_)
          all_goals
            refine o_q _ rfl rfl rfl (v_not rfl rfl) ?_
            first | refine o_q _ rfl rfl rfl (OpQ.fn (ask_t _) rfl rfl SubRC.sub) ?_ | refine o_fnx (ask_f _) rfl rfl rfl SubRC.sub ?_
            repeat (first | with_reducible refine r_then_panic ?_ | with_reducible refine r_in_panic ?_ | with_reducible refine r_sc_panic ?_)
            try (first | exact r_retx2 (chk_2 (by assumption) ⟨by omega, by omega, by omega, goodrain (by assumption), fun j hj => hI0.2 j (by omega), fun j hj => hI1.2 j (by omega)⟩).symm SelMC.sel SubRC.sub | exact r_retx2 (chk_1 (fun g => by obtain ⟨g1, g2, g3, g4, g5, g6⟩ := g; first | omega | exact absurd rfl (by assumption) | exact norain (by assumption) g4 | (have g9 := g5 k1 (by omega); omega) | (have g9 := g6 k2 (by omega); omega))).symm SelMC.sel SubRC.sub)
            all_goals
              refine o_nil ?_
              repeat (first | with_reducible refine r_then ?_ | with_reducible refine r_in_normal ?_ | with_reducible refine r_sc_normal ?_)
              refine r_seq ?_
              refine r_seq ?_
              refine r_region ?_
              refine o_q _ rfl rfl rfl (v_move rfl rfl) ?_
              refine o_nil ?_
              repeat (first | with_reducible refine r_then ?_ | with_reducible refine r_in_normal ?_ | with_reducible refine r_sc_normal ?_)
              refine r_block ?_
              refine r_loop (ι := Nat) (fun k1 => k1 ≤ 3 ∧ ∀ j, j < k1 → (0 ≤ F.lim.at j ∧ F.lim.at j ≤ 60) ∧ (0 ≤ F.dr.at j ∧ F.dr.at j ≤ 10)) (fun k1 => [(1, .bool v), (2, pt b2 0), (29, i64 k1)]) (fun k1 => bx b2 26 (cellsF F ro rc ho hc) :: M) (fun k1 => [rowD ro 2 encS F.rain, rowD ho 3 encH F.heaps] ++ Rf) (fun k1 => 3 - k1) 0 ?_ ?_ ?_
              ·
                exact r_here (by repeat (first | exact FSub.nil | refine FSub.cons rfl ?_)) SelMC.sel SubRC.sub
              ·
                exact ⟨by omega, fun j hj => absurd hj (by omega)⟩
              ·
                rintro k1 hI0
                refine r_seq ?_
                refine r_region ?_
                refine o_q _ rfl rfl rfl (v_lss rfl rfl rfl) ?_
                refine o_nil ?_
                repeat (first | with_reducible refine r_then ?_ | with_reducible refine r_in_normal ?_ | with_reducible refine r_sc_normal ?_)
                refine r_seq ?_
                first | refine r_condd rfl (fun hc30 => ?_) (fun hc30 => ?_) | refine r_cond rfl (fun hc30 => ?_) (fun hc30 => ?_)
                ·
                  first
                  | (exfalso; revert hc30; decide)
                  | (exfalso; omega)
                  | skip
                    refine r_skip ?_
                    repeat (first | with_reducible refine r_then ?_ | with_reducible refine r_in_normal ?_ | with_reducible refine r_sc_normal ?_)
                    refine r_seq ?_
                    refine r_block ?_
                    refine r_seq ?_
                    refine r_region ?_
                    refine o_q _ rfl rfl rfl (v_move rfl rfl) ?_
                    refine o_q _ rfl rfl rfl (v_assign rfl rfl) ?_
                    refine o_nil ?_
                    repeat (first | with_reducible refine r_then ?_ | with_reducible refine r_in_normal ?_ | with_reducible refine r_sc_normal ?_)
                    refine r_region ?_
                    refine o_q _ rfl rfl rfl (v_move rfl rfl) ?_
                    first | refine o_q _ rfl rfl rfl (v_fieldAddr rfl Try.underlying26 inf23 rfl rfl rfl rfl) ?_ | refine o_q _ rfl rfl rfl (v_fieldAddrE rfl Try.underlying26 inf23 rfl rfl rfl rfl) ?_
                    first | refine o_q _ rfl rfl rfl (v_indexAddrAn rfl Try.underlying23 inf3 rfl rfl (by omega)) ?_ | refine o_q _ rfl rfl rfl (v_indexAddrA rfl Try.underlying23 inf3 rfl rfl (by omega)) ?_ | refine o_q _ rfl rfl rfl (v_indexAddrE rfl Try.underlying23 inf3 rfl rfl (by omega)) ?_
                    refine o_q _ rfl rfl rfl (v_ld1 rfl Try.underlying3 rfl rfl (F_limn (by omega))) ?_
                    first | refine o_q _ rfl rfl rfl (v_true (OpQ.fn (within_v _ _ _) rfl rfl SubRC.sub) (by omega)) ?_ | refine o_q _ rfl rfl rfl (v_false (OpQ.fn (within_v _ _ _) rfl rfl SubRC.sub) (by omega)) ?_ | refine o_test rfl rfl rfl (OpQ.fn (within_v _ _ _) rfl rfl SubRC.sub) (fun h36 => ?_) (fun h36 => ?_)
                    all_goals
                      refine o_q _ rfl rfl rfl (v_move rfl rfl) ?_
                      first | refine o_gn rfl rfl rfl rfl ?_ | refine o_g _ rfl rfl rfl rfl (v_move rfl rfl) ?_
                      first | refine o_gn rfl rfl rfl rfl ?_ | refine o_g _ rfl rfl rfl rfl (v_fieldAddr rfl Try.underlying26 inf23 rfl rfl rfl rfl) ?_ | refine o_g _ rfl rfl rfl rfl (v_fieldAddrE rfl Try.underlying26 inf23 rfl rfl rfl rfl) ?_
                      first | refine o_gn rfl rfl rfl rfl ?_ | refine o_g _ rfl rfl rfl rfl (v_indexAddrAn rfl Try.underlying23 inf3 rfl rfl (by omega)) ?_ | refine o_g _ rfl rfl rfl rfl (v_indexAddrA rfl Try.underlying23 inf3 rfl rfl (by omega)) ?_ | refine o_g _ rfl rfl rfl rfl (v_indexAddrE rfl Try.underlying23 inf3 rfl rfl (by omega)) ?_
                      first | refine o_gn rfl rfl rfl rfl ?_ | refine o_g _ rfl rfl rfl rfl (v_ld1 rfl Try.underlying3 rfl rfl (F_drn (by omega))) ?_
                      first | refine o_gn rfl rfl rfl rfl ?_ | refine o_g _ rfl rfl rfl rfl (v_true (OpQ.fn (within_v _ _ _) rfl rfl SubRC.sub) (by omega)) ?_ | refine o_g _ rfl rfl rfl rfl (v_false (OpQ.fn (within_v _ _ _) rfl rfl SubRC.sub) (by omega)) ?_ | refine o_gtest rfl rfl rfl rfl (OpQ.fn (within_v _ _ _) rfl rfl SubRC.sub) (fun h42 => ?_) (fun h42 => ?_)
                      all_goals
                        first | refine o_q _ rfl rfl rfl (v_pick_t rfl rfl rfl) ?_ | refine o_q _ rfl rfl rfl (v_pick_f rfl rfl rfl) ?_
                        first | refine o_q _ rfl rfl rfl (OpQ.fn (ask_t _) rfl rfl SubRC.sub) ?_ | refine o_fnx (ask_f _) rfl rfl rfl SubRC.sub ?_
                        repeat (first | with_reducible refine r_then_panic ?_ | with_reducible refine r_in_panic ?_ | with_reducible refine r_sc_panic ?_)
                        try (first | exact r_retx2 (chk_2 (by assumption) ⟨by omega, by omega, by omega, goodrain (by assumption), fun j hj => hI0.2 j (by omega), fun j hj => hI1.2 j (by omega)⟩).symm SelMC.sel SubRC.sub | exact r_retx2 (chk_1 (fun g => by obtain ⟨g1, g2, g3, g4, g5, g6⟩ := g; first | omega | exact absurd rfl (by assumption) | exact norain (by assumption) g4 | (have g9 := g5 k1 (by omega); omega) | (have g9 := g6 k2 (by omega); omega))).symm SelMC.sel SubRC.sub)
                        all_goals
                          refine o_nil ?_
                          repeat (first | with_reducible refine r_then ?_ | with_reducible refine r_in_normal ?_ | with_reducible refine r_sc_normal ?_)
                          refine r_region ?_
                          refine o_q _ rfl rfl rfl (v_add rfl rfl rfl (by omega)) ?_
                          refine o_q _ rfl rfl rfl (v_move rfl rfl) ?_
                          refine o_nil ?_
                          repeat (first | with_reducible refine r_then ?_ | with_reducible refine r_in_normal ?_ | with_reducible refine r_sc_normal ?_)
                          refine r_next (k1 + 1) ?_ ?_ ?_
                          ·
                            exact r_here (by repeat (first | exact FSub.nil | refine FSub.cons rfl ?_)) SelMC.sel SubRC.sub
                          ·
                            exact ⟨by omega, all_step hI0.2 ⟨by assumption, by assumption⟩⟩
                          ·
                            omega
                ·
                  first
                  | (exfalso; revert hc30; decide)
                  | (exfalso; omega)
                  | skip
                    refine r_exit ?_
                    repeat (first | with_reducible refine r_then_exit ?_ | with_reducible refine r_sc_exit ?_ | with_reducible refine r_in_here ?_ | (with_reducible refine r_in_past (by decide) ?_) | with_reducible refine r_then ?_ | with_reducible refine r_in_normal ?_ | with_reducible refine r_sc_normal ?_)
                    refine r_seq ?_
                    refine r_seq ?_
                    refine r_region ?_
                    first | refine o_q _ rfl rfl rfl (v_fieldAddr rfl Try.underlying26 inf24 rfl rfl rfl rfl) ?_ | refine o_q _ rfl rfl rfl (v_fieldAddrE rfl Try.underlying26 inf24 rfl rfl rfl rfl) ?_
                    first | refine o_q _ rfl rfl rfl (v_ld1 rfl Try.underlying24 rfl rfl rfl) ?_ | refine o_q _ rfl rfl rfl (v_lf1 rfl Try.underlying24 rfl rfl rfl) ?_ | refine o_q _ rfl rfl rfl (v_loadE1 rfl Try.underlying24 rfl rfl (by omega) rfl rfl) ?_
                    refine o_q _ rfl rfl rfl (v_len rfl rfl Try.underlying24 rfl) ?_
                    refine o_q _ rfl rfl rfl (v_move rfl rfl) ?_
                    refine o_nil ?_
                    repeat (first | with_reducible refine r_then ?_ | with_reducible refine r_in_normal ?_ | with_reducible refine r_sc_normal ?_)
                    refine r_block ?_
                    refine r_loop (ι := Nat) (fun k2 => k2 ≤ F.heaps.length ∧ ∀ j, j < k2 → (0 ≤ (F.heaps.getD j default).lo ∧ (F.heaps.getD j default).lo ≤ (F.heaps.getD j default).hi ∧ (F.heaps.getD j default).hi ≤ 60) ∧ (0 ≤ (F.heaps.getD j default).sods ∧ (F.heaps.getD j default).sods ≤ 500)) (fun k2 => [(1, .bool v), (2, pt b2 0), (47, .slice ho F.heaps.length hc), (48, i64 F.heaps.length), (49, i64 k2)]) (fun k2 => bx b2 26 (cellsF F ro rc ho hc) :: M) (fun k2 => [rowD ro 2 encS F.rain, rowD ho 3 encH F.heaps] ++ Rf) (fun k2 => F.heaps.length - k2) 0 ?_ ?_ ?_
                    ·
                      exact r_here (by repeat (first | exact FSub.nil | refine FSub.cons rfl ?_)) SelMC.sel SubRC.sub
                    ·
                      exact ⟨by omega, fun j hj => absurd hj (by omega)⟩
                    ·
                      rintro k2 hI1
                      refine r_seq ?_
                      refine r_region ?_
                      refine o_q _ rfl rfl rfl (v_lss rfl rfl rfl) ?_
                      refine o_nil ?_
                      repeat (first | with_reducible refine r_then ?_ | with_reducible refine r_in_normal ?_ | with_reducible refine r_sc_normal ?_)
                      refine r_seq ?_
                      first | refine r_condd rfl (fun hc50 => ?_) (fun hc50 => ?_) | refine r_cond rfl (fun hc50 => ?_) (fun hc50 => ?_)
                      ·
                        first
                        | (exfalso; revert hc50; decide)
                        | (exfalso; omega)
                        | skip
                          refine r_skip ?_
                          repeat (first | with_reducible refine r_then ?_ | with_reducible refine r_in_normal ?_ | with_reducible refine r_sc_normal ?_)
                          refine r_seq ?_
                          refine r_block ?_
                          refine r_seq ?_
                          refine r_region ?_
                          first | refine o_q _ rfl rfl rfl (v_indexAddrSn rfl Try.underlying24 inf73 rfl rfl rfl (by omega) rfl) ?_ | refine o_q _ rfl rfl rfl (v_indexAddrS rfl Try.underlying24 inf73 rfl rfl rfl (by omega) (by omega) rfl) ?_
                          first | refine o_q _ rfl rfl rfl (v_ldW rfl Try.underlying73 rfl inf73 rfl rfl) ?_ | refine o_q _ rfl rfl rfl (v_lfW rfl Try.underlying73 rfl inf73 rfl rfl) ?_ | refine o_q _ rfl rfl rfl (v_lfN rfl Try.underlying73 rfl inf73 rfl rfl rfl) ?_ | refine o_q _ rfl rfl rfl (v_ldN rfl Try.underlying73 rfl inf73 rfl rfl rfl) ?_ | refine o_q _ rfl rfl rfl (v_loadEN rfl Try.underlying73 rfl inf73 rfl (by omega) rfl rfl rfl) ?_
                          refine o_alloc rfl inf73 rfl rfl rfl rfl rfl (fun b7 => ?_)
                          refine o_st rfl inf73 rfl rfl rfl rfl rfl rfl rfl rfl ?_
                          refine o_nil ?_
                          repeat (first | with_reducible refine r_then ?_ | with_reducible refine r_in_normal ?_ | with_reducible refine r_sc_normal ?_)
                          refine r_region ?_
                          first | refine o_q _ rfl rfl rfl (v_fieldAddr rfl Try.underlying73 inf31 rfl rfl rfl rfl) ?_ | refine o_q _ rfl rfl rfl (v_fieldAddrE rfl Try.underlying73 inf31 rfl rfl rfl rfl) ?_
                          first | refine o_q _ rfl rfl rfl (v_ldW rfl Try.underlying31 rfl inf31 rfl rfl) ?_ | refine o_q _ rfl rfl rfl (v_lfW rfl Try.underlying31 rfl inf31 rfl rfl) ?_ | refine o_q _ rfl rfl rfl (v_lfN rfl Try.underlying31 rfl inf31 rfl rfl rfl) ?_ | refine o_q _ rfl rfl rfl (v_ldN rfl Try.underlying31 rfl inf31 rfl rfl rfl) ?_ | refine o_q _ rfl rfl rfl (v_loadEN rfl Try.underlying31 rfl inf31 rfl (by omega) rfl rfl rfl) ?_
                          first | refine o_q _ rfl rfl rfl (v_true (OpQ.fn (isSpan_v _ _ _ _) rfl rfl SubRC.sub) (by omega)) ?_ | refine o_q _ rfl rfl rfl (v_false (OpQ.fn (isSpan_v _ _ _ _) rfl rfl SubRC.sub) (by omega)) ?_ | refine o_test rfl rfl rfl (OpQ.fn (isSpan_v _ _ _ _) rfl rfl SubRC.sub) (fun h55 => ?_) (fun h55 => ?_)
                          all_goals
                            refine o_q _ rfl rfl rfl (v_move rfl rfl) ?_
                            first | refine o_gn rfl rfl rfl rfl ?_ | refine o_g _ rfl rfl rfl rfl (v_fieldAddr rfl Try.underlying73 inf3 rfl rfl rfl rfl) ?_ | refine o_g _ rfl rfl rfl rfl (v_fieldAddrE rfl Try.underlying73 inf3 rfl rfl rfl rfl) ?_
                            first | refine o_gn rfl rfl rfl rfl ?_ | refine o_g _ rfl rfl rfl rfl (v_ld1 rfl Try.underlying3 rfl rfl rfl) ?_ | refine o_g _ rfl rfl rfl rfl (v_lf1 rfl Try.underlying3 rfl rfl rfl) ?_ | refine o_g _ rfl rfl rfl rfl (v_loadE1 rfl Try.underlying3 rfl rfl (by omega) rfl rfl) ?_
                            first | refine o_gn rfl rfl rfl rfl ?_ | refine o_g _ rfl rfl rfl rfl (v_true (OpQ.fn (within_v _ _ _) rfl rfl SubRC.sub) (by omega)) ?_ | refine o_g _ rfl rfl rfl rfl (v_false (OpQ.fn (within_v _ _ _) rfl rfl SubRC.sub) (by omega)) ?_ | refine o_gtest rfl rfl rfl rfl (OpQ.fn (within_v _ _ _) rfl rfl SubRC.sub) (fun h59 => ?_) (fun h59 => ?_)
                            all_goals
                              first | refine o_q _ rfl rfl rfl (v_pick_t rfl rfl rfl) ?_ | refine o_q _ rfl rfl rfl (v_pick_f rfl rfl rfl) ?_
                              first | refine o_q _ rfl rfl rfl (OpQ.fn (ask_t _) rfl rfl SubRC.sub) ?_ | refine o_fnx (ask_f _) rfl rfl rfl SubRC.sub ?_
                              repeat (first | with_reducible refine r_then_panic ?_ | with_reducible refine r_in_panic ?_ | with_reducible refine r_sc_panic ?_)
                              try (first | exact r_retx2 (chk_2 (by assumption) ⟨by omega, by omega, by omega, goodrain (by assumption), fun j hj => hI0.2 j (by omega), fun j hj => hI1.2 j (by omega)⟩).symm SelMC.sel SubRC.sub | exact r_retx2 (chk_1 (fun g => by obtain ⟨g1, g2, g3, g4, g5, g6⟩ := g; first | omega | exact absurd rfl (by assumption) | exact norain (by assumption) g4 | (have g9 := g5 k1 (by omega); omega) | (have g9 := g6 k2 (by omega); omega))).symm SelMC.sel SubRC.sub)
                              all_goals
                                refine o_nil ?_
                                repeat (first | with_reducible refine r_then ?_ | with_reducible refine r_in_normal ?_ | with_reducible refine r_sc_normal ?_)
                                refine r_region ?_
                                refine o_q _ rfl rfl rfl (v_add rfl rfl rfl (by omega)) ?_
                                refine o_q _ rfl rfl rfl (v_move rfl rfl) ?_
                                refine o_nil ?_
                                repeat (first | with_reducible refine r_then ?_ | with_reducible refine r_in_normal ?_ | with_reducible refine r_sc_normal ?_)
                                refine r_next (k2 + 1) ?_ ?_ ?_
                                ·
                                  exact r_here (by repeat (first | exact FSub.nil | refine FSub.cons rfl ?_)) SelMC.sel SubRC.sub
                                ·
                                  exact ⟨by omega, all_step hI1.2 ⟨by assumption, by assumption⟩⟩
                                ·
                                  omega
                      ·
                        first
                        | (exfalso; revert hc50; decide)
                        | (exfalso; omega)
                        | skip
                          refine r_exit ?_
                          repeat (first | with_reducible refine r_then_exit ?_ | with_reducible refine r_sc_exit ?_ | with_reducible refine r_in_here ?_ | (with_reducible refine r_in_past (by decide) ?_) | with_reducible refine r_then ?_ | with_reducible refine r_in_normal ?_ | with_reducible refine r_sc_normal ?_)
                          refine r_seq ?_
                          refine r_region ?_
                          first | refine o_q _ rfl rfl rfl (v_true (OpQ.asTest (v_move rfl rfl)) (by omega)) ?_ | refine o_q _ rfl rfl rfl (v_false (OpQ.asTest (v_move rfl rfl)) (by omega)) ?_ | refine o_test rfl rfl rfl (OpQ.asTest (v_move rfl rfl)) (fun h63 => ?_) (fun h63 => ?_)
                          all_goals
                            first | refine o_q _ rfl rfl rfl (OpQ.fn (ask_t _) rfl rfl SubRC.sub) ?_ | refine o_fnx (ask_f _) rfl rfl rfl SubRC.sub ?_
                            repeat (first | with_reducible refine r_then_panic ?_ | with_reducible refine r_in_panic ?_ | with_reducible refine r_sc_panic ?_)
                            try (first | exact r_retx2 (chk_2 (by assumption) ⟨by omega, by omega, by omega, goodrain (by assumption), fun j hj => hI0.2 j (by omega), fun j hj => hI1.2 j (by omega)⟩).symm SelMC.sel SubRC.sub | exact r_retx2 (chk_1 (fun g => by obtain ⟨g1, g2, g3, g4, g5, g6⟩ := g; first | omega | exact absurd rfl (by assumption) | exact norain (by assumption) g4 | (have g9 := g5 k1 (by omega); omega) | (have g9 := g6 k2 (by omega); omega))).symm SelMC.sel SubRC.sub)
                            all_goals
                              refine o_nil ?_
                              repeat (first | with_reducible refine r_then ?_ | with_reducible refine r_in_normal ?_ | with_reducible refine r_sc_normal ?_)
                              refine r_seq ?_
                              refine r_region ?_
                              first | refine o_q _ rfl rfl rfl (v_ldW rfl Try.underlying26 rfl inf26 rfl rfl) ?_ | refine o_q _ rfl rfl rfl (v_lfW rfl Try.underlying26 rfl inf26 rfl rfl) ?_ | refine o_q _ rfl rfl rfl (v_lfN rfl Try.underlying26 rfl inf26 rfl rfl rfl) ?_ | refine o_q _ rfl rfl rfl (v_ldN rfl Try.underlying26 rfl inf26 rfl rfl rfl) ?_ | refine o_q _ rfl rfl rfl (v_loadEN rfl Try.underlying26 rfl inf26 rfl (by omega) rfl rfl rfl) ?_
                              refine o_q _ rfl rfl rfl (v_bS rfl Try.underlying126 inf126 plt126 rfl rfl rfl (by repeat (first | exact trivial | refine ⟨rfl, ?_⟩)) (by rfl)) ?_
                              refine o_boxA rfl rfl rfl rfl rfl (fun b67 => ?_)
                              refine o_q _ rfl rfl rfl (v_assign rfl rfl) ?_
                              refine o_nil ?_
                              repeat (first | with_reducible refine r_then ?_ | with_reducible refine r_in_normal ?_ | with_reducible refine r_sc_normal ?_)
                              refine r_ret ?_
                              repeat (first | with_reducible refine r_then_ret ?_ | with_reducible refine r_in_ret ?_ | with_reducible refine r_sc_ret ?_)
                              exfalso
                              apply hx
                              exact chk_0 (by assumption) ⟨by omega, by omega, by omega, goodrain (by assumption), fun j hj => hI0.2 j (by omega), fun j hj => hI1.2 j (by omega)⟩
end Go.Proofs.Ytienjlmnakbfmaa
