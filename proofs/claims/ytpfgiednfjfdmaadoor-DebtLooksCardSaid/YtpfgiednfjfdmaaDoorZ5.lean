/- Part 5 of 6 of what the proofs of this seat stand on: a small logic for walks, what the functions come to, and the walks themselves. No condition of its own. -/
import Derived.Test.YtpfgiednfjfdmaaDoorZ4
import Derived.Test.YtpfgiednfjfdmaaDoorZ3
set_option linter.unusedVariables false
set_option linter.unusedSimpArgs false
set_option linter.unusedSectionVars false
namespace Go.Proofs.YtpfgiednfjfdmaaDoor
open Go.G Debt10
set_option maxRecDepth 1000000
attribute [local irreducible] G.ParO G.Fin
set_option maxHeartbeats 4000000 in
theorem part_v (l : List Nat) (hl : l.length ≤ 1000) (bb cap : Nat) (sp : List Value) (a b p : Nat) (hab : a < b) (hb : b ≤ l.length) (hp1 : a ≤ p) (hp2 : p < b) : FnC Tryd.prog 95 [.slice (some ⟨bb, 0, none⟩) l.length cap, i64 (a : Int), i64 (b : Int), i64 (p : Int)] (bx bb 89 ((l).flatMap encU ++ sp)) [] (.tuple #[i64 ((partT l a b p).2.1 : Nat), .bool (partT l a b p).2.2]) (bx bb 89 (((partT l a b p).1).flatMap encU ++ sp)) := by
 refine FnC.intro Tryd.call95 Tryd.func95 rfl Tryd.ntmps95 rfl ?_
 intro W M Rf
 refine r_seq ?_
 refine r_region ?_
 refine o_q _ rfl rfl rfl (v_assign rfl rfl) ?_
 refine o_q _ rfl rfl rfl (v_assign rfl rfl) ?_
 refine o_nil ?_
 with_reducible refine r_then ?_
 refine r_seq ?_
 refine r_parF [2, 3] 12 (by kernel_rfl) (by kernel_rfl) (by kernel_rfl) (by kernel_rfl) (by kernel_rfl) mixed (by kernel_rfl) (by rfl) ?_
 refine p_q _ rfl rfl rfl (fun _ _ => v_move rfl rfl) ?_
 refine p_q _ rfl rfl rfl (fun _ _ => v_move rfl rfl) ?_
 refine p_q _ rfl rfl rfl (fun _ _ => v_move rfl rfl) ?_
 refine p_q _ rfl rfl rfl (fun _ _ => v_move rfl rfl) ?_
 refine p_q _ rfl rfl rfl (fun _ _ => v_move rfl rfl) ?_
 refine p_q _ rfl rfl rfl (fun _ _ => v_move rfl rfl) ?_
 refine p_q _ rfl rfl rfl (fun _ _ => v_indexAddrB rfl Tryd.underlying87 inf89 rfl rfl (by omega)) ?_
 refine p_q _ rfl rfl rfl (fun _ _ => v_ld1 (v := u64 (l.getD p default)) rfl Tryd.underlying89 rfl rfl (boxU_get (by omega))) ?_
 refine p_q _ rfl rfl rfl (fun _ _ => v_move rfl rfl) ?_
 refine p_q _ rfl rfl rfl (fun _ _ => v_move rfl rfl) ?_
 refine p_q _ rfl rfl rfl (fun _ _ => v_indexAddrB rfl Tryd.underlying87 inf89 rfl rfl (by omega)) ?_
 refine p_q _ rfl rfl rfl (fun _ _ => v_ld1 (v := u64 (l.getD a default)) rfl Tryd.underlying89 rfl rfl (boxU_get (by omega))) ?_
 refine p_nilF (by simp only [List.nil_append, List.cons_append]; rfl) rfl ⟨⟨_, _, _, rfl, rfl, rfl, rfl, rfl, float_move rfl rfl⟩, ⟨_, _, _, rfl, rfl, rfl, rfl, rfl, float_move rfl rfl⟩, trivial⟩ ?_
 refine f_q rfl ?_
 refine f_q rfl ?_
 refine f_q rfl ?_
 refine f_q rfl ?_
 refine f_q rfl ?_
 refine f_q rfl ?_
 refine f_q rfl ?_
 refine f_q rfl ?_
 refine f_q rfl ?_
 refine f_q rfl ?_
 refine f_q rfl ?_
 refine f_q rfl ?_
 refine f_nil ?_
 refine o_q _ rfl rfl rfl (v_indexAddrB rfl Tryd.underlying87 inf89 rfl rfl (by omega)) ?_
 refine o_st rfl inf89 rfl rfl rfl rfl rfl rfl rfl (boxU_ble (by omega)) ?_
 refine Imp.box_to bb ((l.set a (l.getD p default)).flatMap encU ++ sp) (boxU_set (by omega)) ?_
 refine o_q _ rfl rfl rfl (v_indexAddrB rfl Tryd.underlying87 inf89 rfl rfl (by omega)) ?_
 refine o_st rfl inf89 rfl rfl rfl rfl rfl rfl rfl (boxU_ble (by rw [List.length_set]; omega)) ?_
 refine o_nil ?_
 refine r_nop ?_
 with_reducible refine r_then ?_
 refine r_seq ?_
 refine Imp.box_to bb ((swp l a p).flatMap encU ++ sp) (boxU_set (by rw [List.length_set]; omega)) ?_
 refine r_region ?_
 refine o_q _ rfl rfl rfl (v_move rfl rfl) ?_
 refine o_q _ rfl rfl rfl (v_add rfl rfl rfl (by omega)) ?_
 refine o_q _ rfl rfl rfl (v_move rfl rfl) ?_
 refine o_q _ rfl rfl rfl (v_cast (v := i64 ((b - 1 : Nat) : Int)) (v_sub rfl rfl rfl (by omega)) (congrArg (Value.int .i64) (by omega))) ?_
 refine o_q _ rfl rfl rfl (v_assign rfl rfl) ?_
 refine o_q _ rfl rfl rfl (v_assign rfl rfl) ?_
 refine o_nil ?_
 with_reducible refine r_then ?_
 refine r_seq ?_
 refine r_block ?_
 refine r_loop (ι := Nat) (fun i => a < i ∧ i ≤ b ∧ upI (swp l a p) a (b - 1) (b - 1 + 1 - i) i = upI (swp l a p) a (b - 1) (b - 1 + 1 - (a + 1)) (a + 1)) (fun i => [(0, .slice (some ⟨bb, 0, none⟩) l.length cap), (1, i64 (a : Int)), (2, i64 (b : Int)), (3, i64 (p : Int)), (8, i64 0), (9, .bool false), (10, i64 (((i : Nat) : Int))), (11, i64 (((b - 1 : Nat) : Int)))]) (fun i => bx bb 89 (((swp l a p)).flatMap encU ++ sp) :: M) (fun i => Rf) (fun i => b - i) (a + 1) ?_ ?_ ?_
 ·
  exact r_here (by repeat (first | exact FSub.nil | refine FSub.cons rfl ?_ | refine FSub.cons2 rfl (congrArg (Value.int .i64) (by omega)) ?_)) SelMC.sel SubRC.sub
 ·
  exact ⟨by omega, by omega, rfl⟩
 ·
  rintro i hI0
  have hC := swp_len l a p
  have hi1 := hI0.1
  have hi2 := hI0.2.1
  refine r_seq ?_
  refine r_seq ?_
  refine r_region_q mixed (by kernel_rfl) ?_
  refine q_q _ rfl rfl rfl (v_move rfl rfl) ?_
  refine q_q _ rfl rfl rfl (v_move rfl rfl) ?_
  refine q_test rfl rfl rfl (v_leq rfl rfl rfl) (fun h32 => ?_) (fun h32 => ?_)
  all_goals
   refine q_q _ rfl rfl rfl (v_move rfl rfl) ?_
   first | refine q_gn rfl rfl rfl rfl ?_ | refine q_g _ rfl rfl rfl rfl (v_move rfl rfl) ?_
   first | refine q_gn rfl rfl rfl rfl ?_ | refine q_g _ rfl rfl rfl rfl (v_move rfl rfl) ?_
   first | refine q_gn rfl rfl rfl rfl ?_ | refine q_g _ rfl rfl rfl rfl (v_indexAddrB rfl Tryd.underlying87 inf89 rfl rfl (by omega)) ?_
   first | refine q_gn rfl rfl rfl rfl ?_ | refine q_g _ rfl rfl rfl rfl (v_ld1 (v := u64 ((swp l a p).getD i default)) rfl Tryd.underlying89 rfl rfl (boxU_get (by omega))) ?_
   first | refine q_gn rfl rfl rfl rfl ?_ | refine q_g _ rfl rfl rfl rfl (v_move rfl rfl) ?_
   first | refine q_gn rfl rfl rfl rfl ?_ | refine q_g _ rfl rfl rfl rfl (v_move rfl rfl) ?_
   first | refine q_gn rfl rfl rfl rfl ?_ | refine q_g _ rfl rfl rfl rfl (v_indexAddrB rfl Tryd.underlying87 inf89 rfl rfl (by omega)) ?_
   first | refine q_gn rfl rfl rfl rfl ?_ | refine q_g _ rfl rfl rfl rfl (v_ld1 (v := u64 ((swp l a p).getD a default)) rfl Tryd.underlying89 rfl rfl (boxU_get (by omega))) ?_
   first | refine q_gn rfl rfl rfl rfl ?_ | refine q_gtest rfl rfl rfl rfl (OpQ.fn (lessU_v ((swp l a p).getD i default) ((swp l a p).getD a default)) rfl rfl SubRC.sub) (fun h42 => ?_) (fun h42 => ?_)
   all_goals
    first | refine q_q _ rfl rfl rfl (v_pick_t rfl rfl rfl) ?_ | refine q_q _ rfl rfl rfl (v_pick_f rfl rfl rfl) ?_
    refine q_nil ?_
    with_reducible refine r_then ?_
    refine r_cond rfl (fun hc43 => ?_) (fun hc43 => ?_)
    ·
     first
     | (exfalso; revert hc43; decide)
     |
      skip
      refine r_skip ?_
      with_reducible refine r_then ?_
      refine r_block ?_
      refine r_region ?_
      refine o_q _ rfl rfl rfl (v_move rfl rfl) ?_
      refine o_q _ rfl rfl rfl (v_add rfl rfl rfl (by omega)) ?_
      refine o_q _ rfl rfl rfl (v_assign rfl rfl) ?_
      refine o_nil ?_
      with_reducible refine r_in_normal ?_; refine r_then ?_
      refine r_next (i + 1) ?_ ?_ ?_
      ·
       exact r_here (by repeat (first | exact FSub.nil | refine FSub.cons rfl ?_ | refine FSub.cons2 rfl (congrArg (Value.int .i64) (by omega)) ?_)) SelMC.sel SubRC.sub
      ·
       exact ⟨by omega, by omega, by rw [← hI0.2.2]; exact upI_y (by omega) (by omega)⟩
      ·
       omega
    ·
     first
     | (exfalso; revert hc43; decide)
     |
      skip
      refine r_exit ?_
      with_reducible refine r_then_exit ?_; refine r_then_exit ?_; refine r_in_here ?_; refine r_then ?_
      refine r_seq ?_
      refine r_block ?_
      refine r_loop (ι := Nat) (fun j => i ≤ j + 1 ∧ j < b ∧ dnJ (swp l a p) a i (j + 1 - i) j = dnJ (swp l a p) a i (b - 1 + 1 - i) (b - 1)) (fun j => [(0, .slice (some ⟨bb, 0, none⟩) l.length cap), (1, i64 (a : Int)), (2, i64 (b : Int)), (3, i64 (p : Int)), (8, i64 0), (9, .bool false), (10, i64 (((i : Nat) : Int))), (11, i64 (((j : Nat) : Int)))]) (fun j => bx bb 89 (((swp l a p)).flatMap encU ++ sp) :: M) (fun j => Rf) (fun j => j) (b - 1) ?_ ?_ ?_
      ·
       exact r_here (by repeat (first | exact FSub.nil | refine FSub.cons rfl ?_ | refine FSub.cons2 rfl (congrArg (Value.int .i64) (by omega)) ?_)) SelMC.sel SubRC.sub
      ·
       exact ⟨by omega, by omega, rfl⟩
      ·
       rintro j hI1
       have hU2 : upI (swp l a p) a (b - 1) (b - 1 + 1 - (a + 1)) (a + 1) = i := by rw [← hI0.2.2]; exact upI_n (by omega)
       have hj1 := hI1.1
       have hj2 := hI1.2.1
       refine r_seq ?_
       refine r_seq ?_
       refine r_region_q mixed (by kernel_rfl) ?_
       refine q_q _ rfl rfl rfl (v_move rfl rfl) ?_
       refine q_q _ rfl rfl rfl (v_move rfl rfl) ?_
       first | refine q_q _ rfl rfl rfl (v_false (v_leq rfl rfl rfl) (by omega)) ?_ | refine q_test rfl rfl rfl (v_leq rfl rfl rfl) (fun h48 => ?_) (fun h48 => ?_)
       all_goals
        refine q_q _ rfl rfl rfl (v_move rfl rfl) ?_
        first | refine q_gn rfl rfl rfl rfl ?_ | refine q_g _ rfl rfl rfl rfl (v_move rfl rfl) ?_
        first | refine q_gn rfl rfl rfl rfl ?_ | refine q_g _ rfl rfl rfl rfl (v_move rfl rfl) ?_
        first | refine q_gn rfl rfl rfl rfl ?_ | refine q_g _ rfl rfl rfl rfl (v_indexAddrB rfl Tryd.underlying87 inf89 rfl rfl (by omega)) ?_
        first | refine q_gn rfl rfl rfl rfl ?_ | refine q_g _ rfl rfl rfl rfl (v_ld1 (v := u64 ((swp l a p).getD j default)) rfl Tryd.underlying89 rfl rfl (boxU_get (by omega))) ?_
        first | refine q_gn rfl rfl rfl rfl ?_ | refine q_g _ rfl rfl rfl rfl (v_move rfl rfl) ?_
        first | refine q_gn rfl rfl rfl rfl ?_ | refine q_g _ rfl rfl rfl rfl (v_move rfl rfl) ?_
        first | refine q_gn rfl rfl rfl rfl ?_ | refine q_g _ rfl rfl rfl rfl (v_indexAddrB rfl Tryd.underlying87 inf89 rfl rfl (by omega)) ?_
        first | refine q_gn rfl rfl rfl rfl ?_ | refine q_g _ rfl rfl rfl rfl (v_ld1 (v := u64 ((swp l a p).getD a default)) rfl Tryd.underlying89 rfl rfl (boxU_get (by omega))) ?_
        first | refine q_gn rfl rfl rfl rfl ?_ | refine q_gtest rfl rfl rfl rfl (OpQ.fn (lessU_v ((swp l a p).getD j default) ((swp l a p).getD a default)) rfl rfl SubRC.sub) (fun h58 => ?_) (fun h58 => ?_)
        all_goals
         first | refine q_gn rfl rfl rfl rfl ?_ | refine q_g _ rfl rfl rfl rfl (v_not rfl rfl) ?_
         first | refine q_q _ rfl rfl rfl (v_pick_t rfl rfl rfl) ?_ | refine q_q _ rfl rfl rfl (v_pick_f rfl rfl rfl) ?_
         refine q_nil ?_
         with_reducible refine r_then ?_
         refine r_cond rfl (fun hc60 => ?_) (fun hc60 => ?_)
         ·
          first
          | (exfalso; revert hc60; decide)
          |
           skip
           refine r_skip ?_
           with_reducible refine r_then ?_
           refine r_block ?_
           refine r_region ?_
           refine o_q _ rfl rfl rfl (v_move rfl rfl) ?_
           refine o_q _ rfl rfl rfl (v_cast (v := i64 ((j - 1 : Nat) : Int)) (v_sub rfl rfl rfl (by omega)) (congrArg (Value.int .i64) (by omega))) ?_
           refine o_q _ rfl rfl rfl (v_assign rfl rfl) ?_
           refine o_nil ?_
           with_reducible refine r_in_normal ?_; refine r_then ?_
           refine r_next (j - 1) ?_ ?_ ?_
           ·
            exact r_here (by repeat (first | exact FSub.nil | refine FSub.cons rfl ?_ | refine FSub.cons2 rfl (congrArg (Value.int .i64) (by omega)) ?_)) SelMC.sel SubRC.sub
           ·
            exact ⟨by omega, by omega, by rw [← hI1.2.2]; exact dnJ_y (by omega) (by omega) (by omega)⟩
           ·
            omega
         ·
          first
          | (exfalso; revert hc60; decide)
          |
           skip
           refine r_exit ?_
           with_reducible refine r_then_exit ?_; refine r_then_exit ?_; refine r_in_here ?_; refine r_then ?_
           refine r_seq ?_
           refine r_seq ?_
           have hJ := hI1.2.2
           have hJ2 : dnJ (swp l a p) a i (b - 1 + 1 - i) (b - 1) = j := by rw [← hJ]; exact dnJ_n (by omega)
           refine r_region ?_
           refine o_q _ rfl rfl rfl (v_move rfl rfl) ?_
           refine o_q _ rfl rfl rfl (v_move rfl rfl) ?_
           refine o_q _ rfl rfl rfl (v_gtr rfl rfl rfl) ?_
           refine o_nil ?_
           with_reducible refine r_then ?_
           refine r_condd rfl (fun hc65 => ?_) (fun hc65 => ?_)
           ·
            first
            | (exfalso; omega)
            |
             skip
             refine r_seq ?_
             refine r_parF [2, 3] 12 (by kernel_rfl) (by kernel_rfl) (by kernel_rfl) (by kernel_rfl) (by kernel_rfl) mixed (by kernel_rfl) (by rfl) ?_
             refine p_q _ rfl rfl rfl (fun _ _ => v_move rfl rfl) ?_
             refine p_q _ rfl rfl rfl (fun _ _ => v_move rfl rfl) ?_
             refine p_q _ rfl rfl rfl (fun _ _ => v_move rfl rfl) ?_
             refine p_q _ rfl rfl rfl (fun _ _ => v_move rfl rfl) ?_
             refine p_q _ rfl rfl rfl (fun _ _ => v_move rfl rfl) ?_
             refine p_q _ rfl rfl rfl (fun _ _ => v_move rfl rfl) ?_
             refine p_q _ rfl rfl rfl (fun _ _ => v_indexAddrB rfl Tryd.underlying87 inf89 rfl rfl (by omega)) ?_
             refine p_q _ rfl rfl rfl (fun _ _ => v_ld1 (v := u64 ((swp l a p).getD a default)) rfl Tryd.underlying89 rfl rfl (boxU_get (by omega))) ?_
             refine p_q _ rfl rfl rfl (fun _ _ => v_move rfl rfl) ?_
             refine p_q _ rfl rfl rfl (fun _ _ => v_move rfl rfl) ?_
             refine p_q _ rfl rfl rfl (fun _ _ => v_indexAddrB rfl Tryd.underlying87 inf89 rfl rfl (by omega)) ?_
             refine p_q _ rfl rfl rfl (fun _ _ => v_ld1 (v := u64 ((swp l a p).getD j default)) rfl Tryd.underlying89 rfl rfl (boxU_get (by omega))) ?_
             refine p_nilF (by simp only [List.nil_append, List.cons_append]; rfl) rfl ⟨⟨_, _, _, rfl, rfl, rfl, rfl, rfl, float_move rfl rfl⟩, ⟨_, _, _, rfl, rfl, rfl, rfl, rfl, float_move rfl rfl⟩, trivial⟩ ?_
             refine f_q rfl ?_
             refine f_q rfl ?_
             refine f_q rfl ?_
             refine f_q rfl ?_
             refine f_q rfl ?_
             refine f_q rfl ?_
             refine f_q rfl ?_
             refine f_q rfl ?_
             refine f_q rfl ?_
             refine f_q rfl ?_
             refine f_q rfl ?_
             refine f_q rfl ?_
             refine f_nil ?_
             refine o_q _ rfl rfl rfl (v_indexAddrB rfl Tryd.underlying87 inf89 rfl rfl (by omega)) ?_
             refine o_st rfl inf89 rfl rfl rfl rfl rfl rfl rfl (boxU_ble (by omega)) ?_
             refine Imp.box_to bb (((swp l a p).set j ((swp l a p).getD a default)).flatMap encU ++ sp) (boxU_set (by omega)) ?_
             refine o_q _ rfl rfl rfl (v_indexAddrB rfl Tryd.underlying87 inf89 rfl rfl (by omega)) ?_
             refine o_st rfl inf89 rfl rfl rfl rfl rfl rfl rfl (boxU_ble (by rw [List.length_set]; omega)) ?_
             refine o_nil ?_
             refine r_nop ?_
             with_reducible refine r_then ?_
             refine r_seq ?_
             refine Imp.box_to bb ((swp (swp l a p) j a).flatMap encU ++ sp) (boxU_set (by rw [List.length_set]; omega)) ?_
             have hP : (partT l a b p) = (swp (swp l a p) j a, j, true) := part_t hU2 hJ2 (by omega)
             rw [hP]
             refine r_region ?_
             refine o_q _ rfl rfl rfl (v_move rfl rfl) ?_
             refine o_q _ rfl rfl rfl (v_assign rfl rfl) ?_
             refine o_q _ rfl rfl rfl (v_assign rfl rfl) ?_
             refine o_nil ?_
             with_reducible refine r_then ?_
             refine r_ret ?_
             with_reducible refine r_then_ret ?_
             exact r_rete [bx bb 89 ((swp (swp l a p) j a).flatMap encU ++ sp)] [] (Rd.two rfl (RdI.tmp rfl) (RdI.tmp rfl)) ⟨rfl, rfl, rfl⟩ SelMC.sel SubRC.sub
           ·
            first
            | (exfalso; omega)
            |
             skip
             refine r_skip ?_
             with_reducible refine r_then ?_
             refine r_seq ?_
             refine r_parF [2, 3] 12 (by kernel_rfl) (by kernel_rfl) (by kernel_rfl) (by kernel_rfl) (by kernel_rfl) mixed (by kernel_rfl) (by rfl) ?_
             refine p_q _ rfl rfl rfl (fun _ _ => v_move rfl rfl) ?_
             refine p_q _ rfl rfl rfl (fun _ _ => v_move rfl rfl) ?_
             refine p_q _ rfl rfl rfl (fun _ _ => v_move rfl rfl) ?_
             refine p_q _ rfl rfl rfl (fun _ _ => v_move rfl rfl) ?_
             refine p_q _ rfl rfl rfl (fun _ _ => v_move rfl rfl) ?_
             refine p_q _ rfl rfl rfl (fun _ _ => v_move rfl rfl) ?_
             refine p_q _ rfl rfl rfl (fun _ _ => v_indexAddrB rfl Tryd.underlying87 inf89 rfl rfl (by omega)) ?_
             refine p_q _ rfl rfl rfl (fun _ _ => v_ld1 (v := u64 ((swp l a p).getD j default)) rfl Tryd.underlying89 rfl rfl (boxU_get (by omega))) ?_
             refine p_q _ rfl rfl rfl (fun _ _ => v_move rfl rfl) ?_
             refine p_q _ rfl rfl rfl (fun _ _ => v_move rfl rfl) ?_
             refine p_q _ rfl rfl rfl (fun _ _ => v_indexAddrB rfl Tryd.underlying87 inf89 rfl rfl (by omega)) ?_
             refine p_q _ rfl rfl rfl (fun _ _ => v_ld1 (v := u64 ((swp l a p).getD i default)) rfl Tryd.underlying89 rfl rfl (boxU_get (by omega))) ?_
             refine p_nilF (by simp only [List.nil_append, List.cons_append]; rfl) rfl ⟨⟨_, _, _, rfl, rfl, rfl, rfl, rfl, float_move rfl rfl⟩, ⟨_, _, _, rfl, rfl, rfl, rfl, rfl, float_move rfl rfl⟩, trivial⟩ ?_
             refine f_q rfl ?_
             refine f_q rfl ?_
             refine f_q rfl ?_
             refine f_q rfl ?_
             refine f_q rfl ?_
             refine f_q rfl ?_
             refine f_q rfl ?_
             refine f_q rfl ?_
             refine f_q rfl ?_
             refine f_q rfl ?_
             refine f_q rfl ?_
             refine f_q rfl ?_
             refine f_nil ?_
             refine o_q _ rfl rfl rfl (v_indexAddrB rfl Tryd.underlying87 inf89 rfl rfl (by omega)) ?_
             refine o_st rfl inf89 rfl rfl rfl rfl rfl rfl rfl (boxU_ble (by omega)) ?_
             refine Imp.box_to bb (((swp l a p).set i ((swp l a p).getD j default)).flatMap encU ++ sp) (boxU_set (by omega)) ?_
             refine o_q _ rfl rfl rfl (v_indexAddrB rfl Tryd.underlying87 inf89 rfl rfl (by omega)) ?_
             refine o_st rfl inf89 rfl rfl rfl rfl rfl rfl rfl (boxU_ble (by rw [List.length_set]; omega)) ?_
             refine o_nil ?_
             refine r_nop ?_
             with_reducible refine r_then ?_
             refine r_seq ?_
             refine Imp.box_to bb ((swp (swp l a p) i j).flatMap encU ++ sp) (boxU_set (by rw [List.length_set]; omega)) ?_
             have hswl := swp_len (swp l a p) i j
             refine r_region ?_
             refine o_q _ rfl rfl rfl (v_move rfl rfl) ?_
             refine o_q _ rfl rfl rfl (v_add rfl rfl rfl (by omega)) ?_
             refine o_q _ rfl rfl rfl (v_assign rfl rfl) ?_
             refine o_nil ?_
             with_reducible refine r_then ?_
             refine r_seq ?_
             refine r_region ?_
             refine o_q _ rfl rfl rfl (v_move rfl rfl) ?_
             refine o_q _ rfl rfl rfl (v_cast (v := i64 ((j - 1 : Nat) : Int)) (v_sub rfl rfl rfl (by omega)) (congrArg (Value.int .i64) (by omega))) ?_
             refine o_q _ rfl rfl rfl (v_assign rfl rfl) ?_
             refine o_nil ?_
             with_reducible refine r_then ?_
             refine r_seq ?_
             refine r_block ?_
             refine r_loop (ι := Nat × List Nat × Nat × Nat) (fun gh => a + 2 ≤ gh.2.2.1 ∧ gh.2.2.1 ≤ gh.2.2.2 + 2 ∧ gh.2.2.2 < b ∧ gh.2.1.length = l.length ∧ gh.2.2.2 + 1 - gh.2.2.1 ≤ gh.1 ∧ parK a gh.1 gh.2.1 gh.2.2.1 gh.2.2.2 = parK a b (swp (swp l a p) i j) (i + 1) (j - 1)) (fun gh => [(0, .slice (some ⟨bb, 0, none⟩) l.length cap), (1, i64 (a : Int)), (2, i64 (b : Int)), (3, i64 (p : Int)), (8, i64 0), (9, .bool false), (10, i64 (((gh.2.2.1 : Nat) : Int))), (11, i64 (((gh.2.2.2 : Nat) : Int)))]) (fun gh => bx bb 89 ((gh.2.1).flatMap encU ++ sp) :: M) (fun gh => Rf) (fun gh => gh.2.2.2 + 2 - gh.2.2.1) (b, swp (swp l a p) i j, i + 1, j - 1) ?_ ?_ ?_
             ·
              exact r_here (by repeat (first | exact FSub.nil | refine FSub.cons rfl ?_ | refine FSub.cons2 rfl (congrArg (Value.int .i64) (by omega)) ?_)) SelMC.sel SubRC.sub
             ·
              exact ⟨by show a + 2 ≤ i + 1; omega, by show i + 1 ≤ j - 1 + 2; omega, by show j - 1 < b; omega, by show (swp _ _ _).length = _; omega, by show j - 1 + 1 - (i + 1) ≤ b; omega, rfl⟩
             ·
              rintro ⟨k, c, x, y⟩ hI2
              dsimp only at hI2
              dsimp only
              obtain ⟨hx1, hx2, hx3, hx4, hI2e, hI2f⟩ := hI2
              refine r_block ?_
              refine r_seq ?_
              refine r_block ?_
              refine r_loop (ι := Nat) (fun z => x ≤ z ∧ z ≤ y + 2 ∧ upI c a y (y + 1 - z) z = upI c a y (y + 1 - x) x) (fun z => [(0, .slice (some ⟨bb, 0, none⟩) l.length cap), (1, i64 (a : Int)), (2, i64 (b : Int)), (3, i64 (p : Int)), (8, i64 0), (9, .bool false), (10, i64 (((z : Nat) : Int))), (11, i64 (((y : Nat) : Int)))]) (fun z => bx bb 89 ((c).flatMap encU ++ sp) :: M) (fun z => Rf) (fun z => y + 2 - z) x ?_ ?_ ?_
              ·
               exact r_here (by repeat (first | exact FSub.nil | refine FSub.cons rfl ?_ | refine FSub.cons2 rfl (congrArg (Value.int .i64) (by omega)) ?_)) SelMC.sel SubRC.sub
              ·
               exact ⟨by omega, by omega, rfl⟩
              ·
               rintro z hI3
               have hz1 := hI3.1
               have hz2 := hI3.2.1
               refine r_seq ?_
               refine r_seq ?_
               refine r_region_q mixed (by kernel_rfl) ?_
               refine q_q _ rfl rfl rfl (v_move rfl rfl) ?_
               refine q_q _ rfl rfl rfl (v_move rfl rfl) ?_
               refine q_test rfl rfl rfl (v_leq rfl rfl rfl) (fun h101 => ?_) (fun h101 => ?_)
               all_goals
                refine q_q _ rfl rfl rfl (v_move rfl rfl) ?_
                first | refine q_gn rfl rfl rfl rfl ?_ | refine q_g _ rfl rfl rfl rfl (v_move rfl rfl) ?_
                first | refine q_gn rfl rfl rfl rfl ?_ | refine q_g _ rfl rfl rfl rfl (v_move rfl rfl) ?_
                first | refine q_gn rfl rfl rfl rfl ?_ | refine q_g _ rfl rfl rfl rfl (v_indexAddrB rfl Tryd.underlying87 inf89 rfl rfl (by omega)) ?_
                first | refine q_gn rfl rfl rfl rfl ?_ | refine q_g _ rfl rfl rfl rfl (v_ld1 (v := u64 (c.getD z default)) rfl Tryd.underlying89 rfl rfl (boxU_get (by omega))) ?_
                first | refine q_gn rfl rfl rfl rfl ?_ | refine q_g _ rfl rfl rfl rfl (v_move rfl rfl) ?_
                first | refine q_gn rfl rfl rfl rfl ?_ | refine q_g _ rfl rfl rfl rfl (v_move rfl rfl) ?_
                first | refine q_gn rfl rfl rfl rfl ?_ | refine q_g _ rfl rfl rfl rfl (v_indexAddrB rfl Tryd.underlying87 inf89 rfl rfl (by omega)) ?_
                first | refine q_gn rfl rfl rfl rfl ?_ | refine q_g _ rfl rfl rfl rfl (v_ld1 (v := u64 (c.getD a default)) rfl Tryd.underlying89 rfl rfl (boxU_get (by omega))) ?_
                first | refine q_gn rfl rfl rfl rfl ?_ | refine q_gtest rfl rfl rfl rfl (OpQ.fn (lessU_v (c.getD z default) (c.getD a default)) rfl rfl SubRC.sub) (fun h111 => ?_) (fun h111 => ?_)
                all_goals
                 first | refine q_q _ rfl rfl rfl (v_pick_t rfl rfl rfl) ?_ | refine q_q _ rfl rfl rfl (v_pick_f rfl rfl rfl) ?_
                 refine q_nil ?_
                 with_reducible refine r_then ?_
                 refine r_cond rfl (fun hc112 => ?_) (fun hc112 => ?_)
                 ·
                  first
                  | (exfalso; revert hc112; decide)
                  |
                   skip
                   refine r_skip ?_
                   with_reducible refine r_then ?_
                   refine r_block ?_
                   refine r_region ?_
                   refine o_q _ rfl rfl rfl (v_move rfl rfl) ?_
                   refine o_q _ rfl rfl rfl (v_add rfl rfl rfl (by omega)) ?_
                   refine o_q _ rfl rfl rfl (v_assign rfl rfl) ?_
                   refine o_nil ?_
                   with_reducible refine r_in_normal ?_; refine r_then ?_
                   refine r_next (z + 1) ?_ ?_ ?_
                   ·
                    exact r_here (by repeat (first | exact FSub.nil | refine FSub.cons rfl ?_ | refine FSub.cons2 rfl (congrArg (Value.int .i64) (by omega)) ?_)) SelMC.sel SubRC.sub
                   ·
                    exact ⟨by omega, by omega, by rw [← hI3.2.2]; exact upI_y (by omega) (by omega)⟩
                   ·
                    omega
                 ·
                  first
                  | (exfalso; revert hc112; decide)
                  |
                   skip
                   refine r_exit ?_
                   with_reducible refine r_then_exit ?_; refine r_then_exit ?_; refine r_in_here ?_; refine r_then ?_
                   refine r_seq ?_
                   refine r_block ?_
                   refine r_loop (ι := Nat) (fun w => z ≤ w + 2 ∧ w ≤ y ∧ dnJ c a z (w + 1 - z) w = dnJ c a z (y + 1 - z) y) (fun w => [(0, .slice (some ⟨bb, 0, none⟩) l.length cap), (1, i64 (a : Int)), (2, i64 (b : Int)), (3, i64 (p : Int)), (8, i64 0), (9, .bool false), (10, i64 (((z : Nat) : Int))), (11, i64 (((w : Nat) : Int)))]) (fun w => bx bb 89 ((c).flatMap encU ++ sp) :: M) (fun w => Rf) (fun w => w) y ?_ ?_ ?_
                   ·
                    exact r_here (by repeat (first | exact FSub.nil | refine FSub.cons rfl ?_ | refine FSub.cons2 rfl (congrArg (Value.int .i64) (by omega)) ?_)) SelMC.sel SubRC.sub
                   ·
                    exact ⟨by omega, by omega, rfl⟩
                   ·
                    rintro w hI4
                    have hw1 := hI4.1
                    have hw2 := hI4.2.1
                    refine r_seq ?_
                    refine r_seq ?_
                    refine r_region_q mixed (by kernel_rfl) ?_
                    refine q_q _ rfl rfl rfl (v_move rfl rfl) ?_
                    refine q_q _ rfl rfl rfl (v_move rfl rfl) ?_
                    first | refine q_q _ rfl rfl rfl (v_false (v_leq rfl rfl rfl) (by omega)) ?_ | refine q_test rfl rfl rfl (v_leq rfl rfl rfl) (fun h117 => ?_) (fun h117 => ?_)
                    all_goals
                     refine q_q _ rfl rfl rfl (v_move rfl rfl) ?_
                     first | refine q_gn rfl rfl rfl rfl ?_ | refine q_g _ rfl rfl rfl rfl (v_move rfl rfl) ?_
                     first | refine q_gn rfl rfl rfl rfl ?_ | refine q_g _ rfl rfl rfl rfl (v_move rfl rfl) ?_
                     first | refine q_gn rfl rfl rfl rfl ?_ | refine q_g _ rfl rfl rfl rfl (v_indexAddrB rfl Tryd.underlying87 inf89 rfl rfl (by omega)) ?_
                     first | refine q_gn rfl rfl rfl rfl ?_ | refine q_g _ rfl rfl rfl rfl (v_ld1 (v := u64 (c.getD w default)) rfl Tryd.underlying89 rfl rfl (boxU_get (by omega))) ?_
                     first | refine q_gn rfl rfl rfl rfl ?_ | refine q_g _ rfl rfl rfl rfl (v_move rfl rfl) ?_
                     first | refine q_gn rfl rfl rfl rfl ?_ | refine q_g _ rfl rfl rfl rfl (v_move rfl rfl) ?_
                     first | refine q_gn rfl rfl rfl rfl ?_ | refine q_g _ rfl rfl rfl rfl (v_indexAddrB rfl Tryd.underlying87 inf89 rfl rfl (by omega)) ?_
                     first | refine q_gn rfl rfl rfl rfl ?_ | refine q_g _ rfl rfl rfl rfl (v_ld1 (v := u64 (c.getD a default)) rfl Tryd.underlying89 rfl rfl (boxU_get (by omega))) ?_
                     first | refine q_gn rfl rfl rfl rfl ?_ | refine q_gtest rfl rfl rfl rfl (OpQ.fn (lessU_v (c.getD w default) (c.getD a default)) rfl rfl SubRC.sub) (fun h127 => ?_) (fun h127 => ?_)
                     all_goals
                      first | refine q_gn rfl rfl rfl rfl ?_ | refine q_g _ rfl rfl rfl rfl (v_not rfl rfl) ?_
                      first | refine q_q _ rfl rfl rfl (v_pick_t rfl rfl rfl) ?_ | refine q_q _ rfl rfl rfl (v_pick_f rfl rfl rfl) ?_
                      refine q_nil ?_
                      with_reducible refine r_then ?_
                      refine r_cond rfl (fun hc129 => ?_) (fun hc129 => ?_)
                      ·
                       first
                       | (exfalso; revert hc129; decide)
                       |
                        skip
                        refine r_skip ?_
                        with_reducible refine r_then ?_
                        refine r_block ?_
                        refine r_region ?_
                        refine o_q _ rfl rfl rfl (v_move rfl rfl) ?_
                        refine o_q _ rfl rfl rfl (v_cast (v := i64 ((w - 1 : Nat) : Int)) (v_sub rfl rfl rfl (by omega)) (congrArg (Value.int .i64) (by omega))) ?_
                        refine o_q _ rfl rfl rfl (v_assign rfl rfl) ?_
                        refine o_nil ?_
                        with_reducible refine r_in_normal ?_; refine r_then ?_
                        refine r_next (w - 1) ?_ ?_ ?_
                        ·
                         exact r_here (by repeat (first | exact FSub.nil | refine FSub.cons rfl ?_ | refine FSub.cons2 rfl (congrArg (Value.int .i64) (by omega)) ?_)) SelMC.sel SubRC.sub
                        ·
                         exact ⟨by omega, by omega, by rw [← hI4.2.2]; exact dnJ_y (by omega) (by omega) (by omega)⟩
                        ·
                         omega
                      ·
                       first
                       | (exfalso; revert hc129; decide)
                       |
                        skip
                        refine r_exit ?_
                        with_reducible refine r_then_exit ?_; refine r_then_exit ?_; refine r_in_here ?_; refine r_then ?_
                        refine r_seq ?_
                        refine r_seq ?_
                        have hK1 : upI c a y (y + 1 - x) x = z := by rw [← hI3.2.2]; exact upI_n (by omega)
                        have hK2 : dnJ c a z (y + 1 - z) y = w := by rw [← hI4.2.2]; exact dnJ_n (by omega)
                        refine r_region ?_
                        refine o_q _ rfl rfl rfl (v_move rfl rfl) ?_
                        refine o_q _ rfl rfl rfl (v_move rfl rfl) ?_
                        refine o_q _ rfl rfl rfl (v_gtr rfl rfl rfl) ?_
                        refine o_nil ?_
                        with_reducible refine r_then ?_
                        refine r_condd rfl (fun hc134 => ?_) (fun hc134 => ?_)
                        ·
                         first
                         | (exfalso; omega)
                         |
                          skip
                          refine r_exit ?_
                          with_reducible refine r_then_exit ?_; (refine r_in_past (by decide) ?_); refine r_then_exit ?_; refine r_in_here ?_; refine r_then ?_
                          refine r_seq ?_
                          refine r_parF [2, 3] 12 (by kernel_rfl) (by kernel_rfl) (by kernel_rfl) (by kernel_rfl) (by kernel_rfl) mixed (by kernel_rfl) (by rfl) ?_
                          refine p_q _ rfl rfl rfl (fun _ _ => v_move rfl rfl) ?_
                          refine p_q _ rfl rfl rfl (fun _ _ => v_move rfl rfl) ?_
                          refine p_q _ rfl rfl rfl (fun _ _ => v_move rfl rfl) ?_
                          refine p_q _ rfl rfl rfl (fun _ _ => v_move rfl rfl) ?_
                          refine p_q _ rfl rfl rfl (fun _ _ => v_move rfl rfl) ?_
                          refine p_q _ rfl rfl rfl (fun _ _ => v_move rfl rfl) ?_
                          refine p_q _ rfl rfl rfl (fun _ _ => v_indexAddrB rfl Tryd.underlying87 inf89 rfl rfl (by omega)) ?_
                          refine p_q _ rfl rfl rfl (fun _ _ => v_ld1 (v := u64 (c.getD a default)) rfl Tryd.underlying89 rfl rfl (boxU_get (by omega))) ?_
                          refine p_q _ rfl rfl rfl (fun _ _ => v_move rfl rfl) ?_
                          refine p_q _ rfl rfl rfl (fun _ _ => v_move rfl rfl) ?_
                          refine p_q _ rfl rfl rfl (fun _ _ => v_indexAddrB rfl Tryd.underlying87 inf89 rfl rfl (by omega)) ?_
                          refine p_q _ rfl rfl rfl (fun _ _ => v_ld1 (v := u64 (c.getD w default)) rfl Tryd.underlying89 rfl rfl (boxU_get (by omega))) ?_
                          refine p_nilF (by simp only [List.nil_append, List.cons_append]; rfl) rfl ⟨⟨_, _, _, rfl, rfl, rfl, rfl, rfl, float_move rfl rfl⟩, ⟨_, _, _, rfl, rfl, rfl, rfl, rfl, float_move rfl rfl⟩, trivial⟩ ?_
                          refine f_q rfl ?_
                          refine f_q rfl ?_
                          refine f_q rfl ?_
                          refine f_q rfl ?_
                          refine f_q rfl ?_
                          refine f_q rfl ?_
                          refine f_q rfl ?_
                          refine f_q rfl ?_
                          refine f_q rfl ?_
                          refine f_q rfl ?_
                          refine f_q rfl ?_
                          refine f_q rfl ?_
                          refine f_nil ?_
                          refine o_q _ rfl rfl rfl (v_indexAddrB rfl Tryd.underlying87 inf89 rfl rfl (by omega)) ?_
                          refine o_st rfl inf89 rfl rfl rfl rfl rfl rfl rfl (boxU_ble (by omega)) ?_
                          refine Imp.box_to bb ((c.set w (c.getD a default)).flatMap encU ++ sp) (boxU_set (by omega)) ?_
                          refine o_q _ rfl rfl rfl (v_indexAddrB rfl Tryd.underlying87 inf89 rfl rfl (by omega)) ?_
                          refine o_st rfl inf89 rfl rfl rfl rfl rfl rfl rfl (boxU_ble (by rw [List.length_set]; omega)) ?_
                          refine o_nil ?_
                          refine r_nop ?_
                          with_reducible refine r_then ?_
                          refine r_seq ?_
                          refine Imp.box_to bb ((swp c w a).flatMap encU ++ sp) (boxU_set (by rw [List.length_set]; omega)) ?_
                          have hP : (partT l a b p) = (swp c w a, w, false) := part_f hU2 hJ2 (by omega) (by rw [← hI2f]; exact parK_n hI2e hK1 hK2 (by omega))
                          rw [hP]
                          refine r_region ?_
                          refine o_q _ rfl rfl rfl (v_move rfl rfl) ?_
                          refine o_q _ rfl rfl rfl (v_assign rfl rfl) ?_
                          refine o_q _ rfl rfl rfl (v_assign rfl rfl) ?_
                          refine o_nil ?_
                          with_reducible refine r_then ?_
                          refine r_ret ?_
                          exact r_rete [bx bb 89 ((swp c w a).flatMap encU ++ sp)] [] (Rd.two rfl (RdI.tmp rfl) (RdI.tmp rfl)) ⟨rfl, rfl, rfl⟩ SelMC.sel SubRC.sub
                        ·
                         first
                         | (exfalso; omega)
                         |
                          skip
                          refine r_skip ?_
                          with_reducible refine r_then ?_
                          refine r_seq ?_
                          refine r_parF [2, 3] 12 (by kernel_rfl) (by kernel_rfl) (by kernel_rfl) (by kernel_rfl) (by kernel_rfl) mixed (by kernel_rfl) (by rfl) ?_
                          refine p_q _ rfl rfl rfl (fun _ _ => v_move rfl rfl) ?_
                          refine p_q _ rfl rfl rfl (fun _ _ => v_move rfl rfl) ?_
                          refine p_q _ rfl rfl rfl (fun _ _ => v_move rfl rfl) ?_
                          refine p_q _ rfl rfl rfl (fun _ _ => v_move rfl rfl) ?_
                          refine p_q _ rfl rfl rfl (fun _ _ => v_move rfl rfl) ?_
                          refine p_q _ rfl rfl rfl (fun _ _ => v_move rfl rfl) ?_
                          refine p_q _ rfl rfl rfl (fun _ _ => v_indexAddrB rfl Tryd.underlying87 inf89 rfl rfl (by omega)) ?_
                          refine p_q _ rfl rfl rfl (fun _ _ => v_ld1 (v := u64 (c.getD w default)) rfl Tryd.underlying89 rfl rfl (boxU_get (by omega))) ?_
                          refine p_q _ rfl rfl rfl (fun _ _ => v_move rfl rfl) ?_
                          refine p_q _ rfl rfl rfl (fun _ _ => v_move rfl rfl) ?_
                          refine p_q _ rfl rfl rfl (fun _ _ => v_indexAddrB rfl Tryd.underlying87 inf89 rfl rfl (by omega)) ?_
                          refine p_q _ rfl rfl rfl (fun _ _ => v_ld1 (v := u64 (c.getD z default)) rfl Tryd.underlying89 rfl rfl (boxU_get (by omega))) ?_
                          refine p_nilF (by simp only [List.nil_append, List.cons_append]; rfl) rfl ⟨⟨_, _, _, rfl, rfl, rfl, rfl, rfl, float_move rfl rfl⟩, ⟨_, _, _, rfl, rfl, rfl, rfl, rfl, float_move rfl rfl⟩, trivial⟩ ?_
                          refine f_q rfl ?_
                          refine f_q rfl ?_
                          refine f_q rfl ?_
                          refine f_q rfl ?_
                          refine f_q rfl ?_
                          refine f_q rfl ?_
                          refine f_q rfl ?_
                          refine f_q rfl ?_
                          refine f_q rfl ?_
                          refine f_q rfl ?_
                          refine f_q rfl ?_
                          refine f_q rfl ?_
                          refine f_nil ?_
                          refine o_q _ rfl rfl rfl (v_indexAddrB rfl Tryd.underlying87 inf89 rfl rfl (by omega)) ?_
                          refine o_st rfl inf89 rfl rfl rfl rfl rfl rfl rfl (boxU_ble (by omega)) ?_
                          refine Imp.box_to bb ((c.set z (c.getD w default)).flatMap encU ++ sp) (boxU_set (by omega)) ?_
                          refine o_q _ rfl rfl rfl (v_indexAddrB rfl Tryd.underlying87 inf89 rfl rfl (by omega)) ?_
                          refine o_st rfl inf89 rfl rfl rfl rfl rfl rfl rfl (boxU_ble (by rw [List.length_set]; omega)) ?_
                          refine o_nil ?_
                          refine r_nop ?_
                          with_reducible refine r_then ?_
                          refine r_seq ?_
                          refine Imp.box_to bb ((swp c z w).flatMap encU ++ sp) (boxU_set (by rw [List.length_set]; omega)) ?_
                          have hswl2 := swp_len c z w
                          refine r_region ?_
                          refine o_q _ rfl rfl rfl (v_move rfl rfl) ?_
                          refine o_q _ rfl rfl rfl (v_add rfl rfl rfl (by omega)) ?_
                          refine o_q _ rfl rfl rfl (v_assign rfl rfl) ?_
                          refine o_nil ?_
                          with_reducible refine r_then ?_
                          refine r_region ?_
                          refine o_q _ rfl rfl rfl (v_move rfl rfl) ?_
                          refine o_q _ rfl rfl rfl (v_cast (v := i64 ((w - 1 : Nat) : Int)) (v_sub rfl rfl rfl (by omega)) (congrArg (Value.int .i64) (by omega))) ?_
                          refine o_q _ rfl rfl rfl (v_assign rfl rfl) ?_
                          refine o_nil ?_
                          with_reducible refine r_in_normal ?_; refine r_then ?_
                          exact r_next ((k - 1, swp c z w, z + 1, w - 1)) (by exact r_here (by repeat (first | exact FSub.nil | refine FSub.cons rfl ?_ | refine FSub.cons2 rfl (congrArg (Value.int .i64) (by omega)) ?_)) SelMC.sel SubRC.sub) (by exact ⟨by show a + 2 ≤ z + 1; omega, by show z + 1 ≤ w - 1 + 2; omega, by show w - 1 < b; omega, by show (swp c z w).length = _; omega, by show w - 1 + 1 - (z + 1) ≤ k - 1; omega, by show parK a (k - 1) (swp c z w) (z + 1) (w - 1) = _; rw [← hI2f]; exact (parK_y (by omega) hK1 hK2 (by omega)).symm⟩) (by show w - 1 + 2 - (z + 1) < y + 2 - x; omega)
end Go.Proofs.YtpfgiednfjfdmaaDoor


namespace Go.Proofs.YtpfgiednfjfdmaaDoor
open Go.G Debt10
set_option maxRecDepth 1000000
attribute [local irreducible] G.ParO G.Fin
theorem insU_n {c : List Nat} {n : Nat} (hn : c.length = n) (hl : c.length ≤ 1000) (bb cap : Nat) (sp : List Value) (a b : Nat) (hab : a ≤ b) (hb : b ≤ n) : FnC Tryd.prog 87 [.slice (some ⟨bb, 0, none⟩) n cap, i64 (a : Int), i64 (b : Int)] (bx bb 89 ((c).flatMap encU ++ sp)) [] (.tuple #[]) (bx bb 89 ((insA a c (b - a - 1)).flatMap encU ++ sp)) := by
  subst hn
  exact insertU_s c hl bb cap sp a b hab hb
theorem pdq_n {c : List Nat} {n : Nat} (hn : c.length = n) (hl : c.length ≤ 1000) (bb cap : Nat) (sp : List Value) (a b : Nat) (m : Int) (hab : a ≤ b) (hb : b ≤ n) (hs : b - a ≤ 12) : FnC Tryd.prog 76 [.slice (some ⟨bb, 0, none⟩) n cap, i64 (a : Int), i64 (b : Int), i64 m] (bx bb 89 ((c).flatMap encU ++ sp)) [] (.tuple #[]) (bx bb 89 ((insA a c (b - a - 1)).flatMap encU ++ sp)) := by
  subst hn
  exact pdq_ins c hl bb cap sp a b m hab hb hs
theorem choose_n {c : List Nat} {n : Nat} (hn : c.length = n) (hl : c.length ≤ 1000) (bb cap : Nat) (sp : List Value) (a b : Nat) (hab : a + 8 ≤ b) (hb : b ≤ n) (h50 : b - a < 50) (hm0 : (medA c a b).2 ≠ 0) (hm1 : (medA c a b).2 ≠ 12) : FnC Tryd.prog 90 [.slice (some ⟨bb, 0, none⟩) n cap, i64 (a : Int), i64 (b : Int)] (bx bb 89 ((c).flatMap encU ++ sp)) [] (.tuple #[i64 ((medA c a b).1 : Nat), i64 0]) (bx bb 89 ((c).flatMap encU ++ sp)) := by
  subst hn
  exact choose_v c hl bb cap sp a b hab hb h50 hm0 hm1
theorem part_n {c : List Nat} {n : Nat} (hn : c.length = n) (hl : c.length ≤ 1000) (bb cap : Nat) (sp : List Value) (a b p : Nat) (hab : a < b) (hb : b ≤ n) (hp1 : a ≤ p) (hp2 : p < b) (hal : (partT c a b p).2.2 = false) : FnC Tryd.prog 95 [.slice (some ⟨bb, 0, none⟩) n cap, i64 (a : Int), i64 (b : Int), i64 (p : Int)] (bx bb 89 ((c).flatMap encU ++ sp)) [] (.tuple #[i64 ((partT c a b p).2.1 : Nat), .bool false]) (bx bb 89 (((partT c a b p).1).flatMap encU ++ sp)) := by
  subst hn
  rw [← hal]; exact part_v c hl bb cap sp a b p hab hb hp1 hp2
theorem ordT_in {l : List Nat} {a b s n : Nat} (ha : n ≤ a) (hb : n ≤ b) : n ≤ (ordT l a b s).1.1 ∧ n ≤ (ordT l a b s).1.2 := by
  unfold ordT
  split
  · exact ⟨hb, ha⟩
  · exact ⟨ha, hb⟩
theorem medT_in {l : List Nat} {a b c n : Nat} (ha : n ≤ a) (hb : n ≤ b) (hc : n ≤ c) : n ≤ (medT l a b c).1 := by
  have h1 := ordT_in (l := l) (s := 0) ha hb
  have h2 := ordT_in (l := l) (s := (ordT l a b 0).2) h1.2 hc
  exact (ordT_in (l := l) (s := (ordT l (ordT l a b 0).1.2 c (ordT l a b 0).2).2) h1.1 h2.1).2
theorem medA_in (l : List Nat) {a b : Nat} (h : a + 4 ≤ b) : a ≤ (medA l a b).1 ∧ (medA l a b).1 < b := ⟨medT_in (by omega) (by omega) (by omega), (medT_bd (by omega) (by omega) (by omega)).1⟩
theorem bitL_pos : ∀ k, k < 17 → 0 < k → 0 < bitL k := by decide
set_option maxHeartbeats 4000000 in
theorem pdq_run (l : List Nat) (hl : l.length ≤ 1000) (bb cap : Nat) (sp : List Value) (k0 a b : Nat) (m : Int) (l' : List Nat) (hab : a ≤ b) (hb : b ≤ l.length) (hm : 0 < m) (h : pdqK k0 l a b = some l') : FnC Tryd.prog 76 [.slice (some ⟨bb, 0, none⟩) l.length cap, i64 (a : Int), i64 (b : Int), i64 m] (bx bb 89 ((l).flatMap encU ++ sp)) [] (.tuple #[]) (bx bb 89 ((l').flatMap encU ++ sp)) := by
 refine FnC.intro Tryd.call76 Tryd.func76 rfl Tryd.ntmps76 rfl ?_
 intro W M Rf
 refine r_seq ?_
 refine r_region ?_
 refine o_q _ rfl rfl rfl (v_assign rfl rfl) ?_
 refine o_nil ?_
 with_reducible refine r_then ?_
 refine r_seq ?_
 refine r_region ?_
 refine o_q _ rfl rfl rfl (v_assign rfl rfl) ?_
 refine o_nil ?_
 with_reducible refine r_then ?_
 refine r_block ?_
 refine r_loop (ι := Nat × List Nat × Nat × Nat × Bool) (fun gh => gh.2.2.1 ≤ gh.2.2.2.1 ∧ gh.2.2.2.1 ≤ l.length ∧ gh.2.1.length = l.length ∧ pdqK gh.1 gh.2.1 gh.2.2.1 gh.2.2.2.1 = some l') (fun gh => [(0, .slice (some ⟨bb, 0, none⟩) l.length cap), (1, i64 (gh.2.2.1 : Int)), (2, i64 (gh.2.2.2.1 : Int)), (3, i64 m), (8, .bool true), (9, .bool gh.2.2.2.2)]) (fun gh => bx bb 89 ((gh.2.1).flatMap encU ++ sp) :: M) (fun gh => Rf) (fun gh => gh.2.2.2.1 - gh.2.2.1) (k0, l, a, b, true) ?_ ?_ ?_
 ·
  exact r_here (by repeat (first | exact FSub.nil | refine FSub.cons rfl ?_ | refine FSub.cons2 rfl (congrArg (Value.int .i64) (by omega)) ?_)) SelMC.sel SubRC.sub
 ·
  exact ⟨hab, hb, rfl, h⟩
 ·
  rintro ⟨k, c, x, y, wp⟩ hI0
  dsimp only at hI0
  dsimp only
  obtain ⟨hx1, hx2, hc1, hk⟩ := hI0
  refine r_block ?_
  refine r_seq ?_
  refine r_region ?_
  refine o_q _ rfl rfl rfl (v_move rfl rfl) ?_
  refine o_q _ rfl rfl rfl (v_move rfl rfl) ?_
  refine o_q _ rfl rfl rfl (v_cast (v := i64 ((y - x : Nat) : Int)) (v_sub rfl rfl rfl (by omega)) (congrArg (Value.int .i64) (by omega))) ?_
  refine o_q _ rfl rfl rfl (v_assign rfl rfl) ?_
  refine o_nil ?_
  with_reducible refine r_then ?_
  refine r_seq ?_
  refine r_seq ?_
  refine r_region ?_
  refine o_q _ rfl rfl rfl (v_move rfl rfl) ?_
  refine o_q _ rfl rfl rfl (v_leq rfl rfl rfl) ?_
  refine o_nil ?_
  with_reducible refine r_then ?_
  refine r_condd rfl (fun hc23 => ?_) (fun hc23 => ?_)
  ·
   refine r_seq ?_
   refine r_region ?_
   refine o_q _ rfl rfl rfl (v_move rfl rfl) ?_
   refine o_q _ rfl rfl rfl (v_move rfl rfl) ?_
   refine o_q _ rfl rfl rfl (v_move rfl rfl) ?_
   refine o_fnc (insU_n hc1 (by omega) bb cap sp x y (by omega) (by omega)) rfl [] [] rfl rfl rfl rfl rfl rfl SubRC.sub ?_
   refine o_nil ?_
   with_reducible refine r_then ?_
   refine r_ret ?_
   with_reducible refine r_then_ret ?_; refine r_in_ret ?_; refine r_then_ret ?_; refine r_in_ret ?_
   refine Imp.box_to bb (l'.flatMap encU ++ sp) (by rw [pdqK_small hk (by omega)]) ?_
   exact r_rete [bx bb 89 ((l').flatMap encU ++ sp)] [] (Rd.none rfl) ⟨rfl, rfl, rfl⟩ SelMC.sel SubRC.sub
  ·
   refine r_skip ?_
   with_reducible refine r_then ?_
   refine r_seq ?_
   refine r_seq ?_
   obtain ⟨k, rfl⟩ : ∃ q, k = q + 1 := by cases k with | zero => (cases hk) | succ q => exact ⟨q, rfl⟩
   obtain ⟨⟨g1, g2, g3, g4⟩, ⟨g5, g6, g7⟩, g8⟩ := pdqK_big hk (by omega)
   have hmi := medA_in c (a := x) (b := y) (by omega)
   have hpl := partT_len c x y (medA c x y).1
   refine r_region ?_
   refine o_q _ rfl rfl rfl (v_move rfl rfl) ?_
   refine o_q _ rfl rfl rfl (v_eql rfl rfl rfl) ?_
   refine o_nil ?_
   with_reducible refine r_then ?_
   refine r_condd rfl (fun hc29 => ?_) (fun hc29 => ?_)
   ·
    (exfalso; omega)
   ·
    refine r_skip ?_
    with_reducible refine r_then ?_
    refine r_seq ?_
    refine r_seq ?_
    refine r_region ?_
    refine o_q _ rfl rfl rfl (v_move rfl rfl) ?_
    refine o_q _ rfl rfl rfl (v_not rfl rfl) ?_
    refine o_nil ?_
    with_reducible refine r_then ?_
    refine r_cond rfl (fun hc35 => ?_) (fun hc35 => ?_)
    ·
     (exfalso; revert hc35; decide)
    ·
     refine r_skip ?_
     with_reducible refine r_then ?_
     refine r_seq ?_
     refine r_region ?_
     refine o_q _ rfl rfl rfl (v_move rfl rfl) ?_
     refine o_q _ rfl rfl rfl (v_move rfl rfl) ?_
     refine o_q _ rfl rfl rfl (v_move rfl rfl) ?_
     refine o_fnc (choose_n hc1 (by omega) bb cap sp x y (by omega) (by omega) (by omega) g2 g3) rfl [] [] rfl rfl rfl rfl rfl rfl SubRC.sub ?_
     refine o_q _ rfl rfl rfl (v_move rfl rfl) ?_
     refine o_q _ rfl rfl rfl (v_extract rfl rfl rfl) ?_
     refine o_q _ rfl rfl rfl (v_extract rfl rfl rfl) ?_
     refine o_q _ rfl rfl rfl (v_assign rfl rfl) ?_
     refine o_q _ rfl rfl rfl (v_assign rfl rfl) ?_
     refine o_nil ?_
     with_reducible refine r_then ?_
     refine r_seq ?_
     refine r_seq ?_
     refine r_region ?_
     refine o_q _ rfl rfl rfl (v_move rfl rfl) ?_
     refine o_q _ rfl rfl rfl (v_eql rfl rfl rfl) ?_
     refine o_nil ?_
     with_reducible refine r_then ?_
     refine r_condd rfl (fun hc50 => ?_) (fun hc50 => ?_)
     ·
      (exfalso; revert hc50; decide)
     ·
      refine r_skip ?_
      with_reducible refine r_then ?_
      refine r_seq ?_
      refine r_seq ?_
      cases wp
      all_goals
      refine r_region ?_
      refine o_q _ rfl rfl rfl (v_move rfl rfl) ?_
      refine o_q _ rfl rfl rfl (v_move rfl rfl) ?_
      refine o_g _ rfl rfl rfl rfl (v_move rfl rfl) ?_
      refine o_q _ rfl rfl rfl (v_pick_t rfl rfl rfl) ?_
      refine o_q _ rfl rfl rfl (v_move rfl rfl) ?_
      first | refine o_gn rfl rfl rfl rfl ?_ | refine o_g _ rfl rfl rfl rfl (v_move rfl rfl) ?_
      first | refine o_gn rfl rfl rfl rfl ?_ | refine o_g _ rfl rfl rfl rfl (v_false (v_eql rfl rfl rfl) (by omega)) ?_
      all_goals
       first | refine o_q _ rfl rfl rfl (v_pick_t rfl rfl rfl) ?_ | refine o_q _ rfl rfl rfl (v_pick_f rfl rfl rfl) ?_
       refine o_nil ?_
       with_reducible refine r_then ?_
       refine r_cond rfl (fun hc68 => ?_) (fun hc68 => ?_)
       ·
        (exfalso; revert hc68; decide)
       ·
        refine r_skip ?_
        with_reducible refine r_then ?_
        refine r_seq ?_
        refine r_seq ?_
        refine r_region_q mixed (by kernel_rfl) ?_
        refine q_q _ rfl rfl rfl (v_move rfl rfl) ?_
        refine q_test rfl rfl rfl (v_gtr rfl rfl rfl) (fun h74 => ?_) (fun h74 => ?_)
        all_goals
         refine q_q _ rfl rfl rfl (v_move rfl rfl) ?_
         first | refine q_gn rfl rfl rfl rfl ?_ | refine q_g _ rfl rfl rfl rfl (v_move rfl rfl) ?_
         first | refine q_gn rfl rfl rfl rfl ?_ | refine q_g _ rfl rfl rfl rfl (v_move rfl rfl) ?_
         first | refine q_gn rfl rfl rfl rfl ?_ | refine q_g _ rfl rfl rfl rfl (v_cast (v := i64 ((x - 1 : Nat) : Int)) (v_sub rfl rfl rfl (by omega)) (congrArg (Value.int .i64) (by omega))) ?_
         first | refine q_gn rfl rfl rfl rfl ?_ | refine q_g _ rfl rfl rfl rfl (v_indexAddrB rfl Tryd.underlying87 inf89 rfl rfl (by omega)) ?_
         first | refine q_gn rfl rfl rfl rfl ?_ | refine q_g _ rfl rfl rfl rfl (v_ld1 (v := u64 (c.getD (x - 1) default)) rfl Tryd.underlying89 rfl rfl (boxU_get (by omega))) ?_
         first | refine q_gn rfl rfl rfl rfl ?_ | refine q_g _ rfl rfl rfl rfl (v_move rfl rfl) ?_
         first | refine q_gn rfl rfl rfl rfl ?_ | refine q_g _ rfl rfl rfl rfl (v_move rfl rfl) ?_
         first | refine q_gn rfl rfl rfl rfl ?_ | refine q_g _ rfl rfl rfl rfl (v_indexAddrB rfl Tryd.underlying87 inf89 rfl rfl (by omega)) ?_
         first | refine q_gn rfl rfl rfl rfl ?_ | refine q_g _ rfl rfl rfl rfl (v_ld1 (v := u64 (c.getD (medA c x y).1 default)) rfl Tryd.underlying89 rfl rfl (boxU_get (by omega))) ?_
         first | refine q_gn rfl rfl rfl rfl ?_ | refine q_g _ rfl rfl rfl rfl (v_true (OpQ.fn (lessU_v (c.getD (x - 1) default) (c.getD (medA c x y).1 default)) rfl rfl SubRC.sub) (by omega)) ?_
         all_goals
          first | refine q_gn rfl rfl rfl rfl ?_ | refine q_g _ rfl rfl rfl rfl (v_not rfl rfl) ?_
          first | refine q_q _ rfl rfl rfl (v_pick_t rfl rfl rfl) ?_ | refine q_q _ rfl rfl rfl (v_pick_f rfl rfl rfl) ?_
          refine q_nil ?_
          with_reducible refine r_then ?_
          refine r_cond rfl (fun hc87 => ?_) (fun hc87 => ?_)
          ·
           (exfalso; revert hc87; decide)
          ·
           refine r_skip ?_
           with_reducible refine r_then ?_
           refine r_seq ?_
           refine r_region ?_
           refine o_q _ rfl rfl rfl (v_move rfl rfl) ?_
           refine o_q _ rfl rfl rfl (v_move rfl rfl) ?_
           refine o_q _ rfl rfl rfl (v_move rfl rfl) ?_
           refine o_q _ rfl rfl rfl (v_move rfl rfl) ?_
           refine o_fnc (part_n hc1 (by omega) bb cap sp x y (medA c x y).1 (by omega) (by omega) (by omega) (by omega) g5) rfl [] [] rfl rfl rfl rfl rfl rfl SubRC.sub ?_
           refine o_q _ rfl rfl rfl (v_move rfl rfl) ?_
           refine o_q _ rfl rfl rfl (v_extract rfl rfl rfl) ?_
           refine o_q _ rfl rfl rfl (v_extract rfl rfl rfl) ?_
           refine o_q _ rfl rfl rfl (v_assign rfl rfl) ?_
           refine o_q _ rfl rfl rfl (v_assign rfl rfl) ?_
           refine o_nil ?_
           with_reducible refine r_then ?_
           refine r_seq ?_
           refine r_region ?_
           refine o_q _ rfl rfl rfl (v_move rfl rfl) ?_
           refine o_q _ rfl rfl rfl (v_assign rfl rfl) ?_
           refine o_nil ?_
           with_reducible refine r_then ?_
           refine r_seq ?_
           refine r_region ?_
           refine o_q _ rfl rfl rfl (v_move rfl rfl) ?_
           refine o_q _ rfl rfl rfl (v_move rfl rfl) ?_
           refine o_q _ rfl rfl rfl (v_cast (v := i64 (((partT c x y (medA c x y).1).2.1 - x : Nat) : Int)) (v_sub rfl rfl rfl (by omega)) (congrArg (Value.int .i64) (by omega))) ?_
           refine o_q _ rfl rfl rfl (v_move rfl rfl) ?_
           refine o_q _ rfl rfl rfl (v_move rfl rfl) ?_
           refine o_q _ rfl rfl rfl (v_cast (v := i64 ((y - (partT c x y (medA c x y).1).2.1 : Nat) : Int)) (v_sub rfl rfl rfl (by omega)) (congrArg (Value.int .i64) (by omega))) ?_
           refine o_q _ rfl rfl rfl (v_assign rfl rfl) ?_
           refine o_q _ rfl rfl rfl (v_assign rfl rfl) ?_
           refine o_nil ?_
           with_reducible refine r_then ?_
           refine r_seq ?_
           refine r_region ?_
           refine o_q _ rfl rfl rfl (v_move rfl rfl) ?_
           refine o_q _ rfl rfl rfl (v_cast (v := i64 (((y - x) / 8 : Nat) : Int)) (v_quo rfl rfl rfl (by decide) (by rw [show ((y - x : Nat) : Int).tdiv 8 = (((y - x) / 8 : Nat) : Int) from tdiv_nat (a := y - x) (b := 8)]; omega)) (congrArg (Value.int .i64) (tdiv_nat (a := y - x) (b := 8)))) ?_
           refine o_q _ rfl rfl rfl (v_assign rfl rfl) ?_
           refine o_nil ?_
           with_reducible refine r_then ?_
           refine r_seq ?_
           refine r_region ?_
           refine o_q _ rfl rfl rfl (v_move rfl rfl) ?_
           refine o_q _ rfl rfl rfl (v_move rfl rfl) ?_
           refine o_q _ rfl rfl rfl (v_lss rfl rfl rfl) ?_
           refine o_nil ?_
           with_reducible refine r_then ?_
           refine r_condd rfl (fun hc113 => ?_) (fun hc113 => ?_)
           ·
            refine r_seq ?_
            obtain ⟨e1, e2, e3, e4⟩ := g8.resolve_right (fun h => h.1 (by omega))
            refine r_region ?_
            refine o_q _ rfl rfl rfl (v_move rfl rfl) ?_
            refine o_q _ rfl rfl rfl (v_move rfl rfl) ?_
            refine o_q _ rfl rfl rfl (v_cast (v := .bool true) (v_geq rfl rfl rfl) (congrArg Value.bool (decide_eq_true (by omega)))) ?_
            refine o_q _ rfl rfl rfl (v_assign rfl rfl) ?_
            refine o_nil ?_
            with_reducible refine r_then ?_
            refine r_seq ?_
            refine r_region ?_
            refine o_q _ rfl rfl rfl (v_move rfl rfl) ?_
            refine o_q _ rfl rfl rfl (v_move rfl rfl) ?_
            refine o_q _ rfl rfl rfl (v_move rfl rfl) ?_
            refine o_q _ rfl rfl rfl (v_move rfl rfl) ?_
            refine o_fnc (pdq_n (hpl.trans hc1) (by omega) bb cap sp x (partT c x y (medA c x y).1).2.1 m (by omega) (by omega) (by omega)) rfl [] [] rfl rfl rfl rfl rfl rfl SubRC.sub ?_
            refine o_nil ?_
            with_reducible refine r_then ?_
            refine r_region ?_
            refine o_q _ rfl rfl rfl (v_move rfl rfl) ?_
            refine o_q _ rfl rfl rfl (v_cast (v := i64 (((partT c x y (medA c x y).1).2.1 + 1 : Nat) : Int)) (v_add rfl rfl rfl (by omega)) (i64c (by omega))) ?_
            refine o_q _ rfl rfl rfl (v_assign rfl rfl) ?_
            refine o_nil ?_
            with_reducible refine r_in_normal ?_; refine r_then ?_
            exact r_next ((k, insA x (partT c x y (medA c x y).1).1 ((partT c x y (medA c x y).1).2.1 - x - 1), (partT c x y (medA c x y).1).2.1 + 1, y, false)) (by exact r_here (by repeat (first | exact FSub.nil | refine FSub.cons rfl ?_ | refine FSub.cons2 rfl (congrArg (Value.int .i64) (by omega)) ?_)) SelMC.sel SubRC.sub) (by exact ⟨by show (partT c x y (medA c x y).1).2.1 + 1 ≤ y; omega, hx2, by show (insA _ _ _).length = _; rw [insA_len, hpl, hc1], e4⟩) (by show y - ((partT c x y (medA c x y).1).2.1 + 1) < y - x; omega)
           ·
            refine r_seq ?_
            obtain ⟨e1, e2, e3, e4⟩ := g8.resolve_left (fun h => absurd h.1 (by omega))
            refine r_region ?_
            refine o_q _ rfl rfl rfl (v_move rfl rfl) ?_
            refine o_q _ rfl rfl rfl (v_move rfl rfl) ?_
            refine o_q _ rfl rfl rfl (v_cast (v := .bool true) (v_geq rfl rfl rfl) (congrArg Value.bool (decide_eq_true (by omega)))) ?_
            refine o_q _ rfl rfl rfl (v_assign rfl rfl) ?_
            refine o_nil ?_
            with_reducible refine r_then ?_
            refine r_seq ?_
            refine r_region ?_
            refine o_q _ rfl rfl rfl (v_move rfl rfl) ?_
            refine o_q _ rfl rfl rfl (v_move rfl rfl) ?_
            refine o_q _ rfl rfl rfl (v_cast (v := i64 (((partT c x y (medA c x y).1).2.1 + 1 : Nat) : Int)) (v_add rfl rfl rfl (by omega)) (i64c (by omega))) ?_
            refine o_q _ rfl rfl rfl (v_move rfl rfl) ?_
            refine o_q _ rfl rfl rfl (v_move rfl rfl) ?_
            refine o_fnc (pdq_n (hpl.trans hc1) (by omega) bb cap sp ((partT c x y (medA c x y).1).2.1 + 1) y m (by omega) (by omega) (by omega)) rfl [] [] rfl rfl rfl rfl rfl rfl SubRC.sub ?_
            refine o_nil ?_
            with_reducible refine r_then ?_
            refine r_region ?_
            refine o_q _ rfl rfl rfl (v_move rfl rfl) ?_
            refine o_q _ rfl rfl rfl (v_assign rfl rfl) ?_
            refine o_nil ?_
            with_reducible refine r_in_normal ?_; refine r_then ?_
            exact r_next ((k, insA ((partT c x y (medA c x y).1).2.1 + 1) (partT c x y (medA c x y).1).1 (y - ((partT c x y (medA c x y).1).2.1 + 1) - 1), x, (partT c x y (medA c x y).1).2.1, false)) (by exact r_here (by repeat (first | exact FSub.nil | refine FSub.cons rfl ?_ | refine FSub.cons2 rfl (congrArg (Value.int .i64) (by omega)) ?_)) SelMC.sel SubRC.sub) (by exact ⟨g6, by show (partT c x y (medA c x y).1).2.1 ≤ _; omega, by show (insA _ _ _).length = _; rw [insA_len, hpl, hc1], e4⟩) (by show (partT c x y (medA c x y).1).2.1 - x < y - x; omega)
set_option maxHeartbeats 4000000 in
theorem sortU_run (l : List Nat) (hl : l.length ≤ 1000) (bb cap : Nat) (sp : List Value) (l' : List Nat) (hs : l.length ≤ 16) (hs0 : 0 < l.length) (h : pdqK 4 l 0 l.length = some l') : FnC Tryd.prog 60 [.slice (some ⟨bb, 0, none⟩) l.length cap] (bx bb 89 ((l).flatMap encU ++ sp)) [] (.tuple #[]) (bx bb 89 ((l').flatMap encU ++ sp)) := by
 refine FnC.intro Tryd.call60 Tryd.func60 rfl Tryd.ntmps60 rfl ?_
 intro W M Rf
 refine r_seq ?_
 refine r_region ?_
 refine o_q _ rfl rfl rfl (v_move rfl rfl) ?_
 refine o_q _ rfl rfl rfl (v_len rfl rfl Tryd.underlying87 rfl) ?_
 refine o_q _ rfl rfl rfl (v_assign rfl rfl) ?_
 refine o_nil ?_
 with_reducible refine r_then ?_
 refine r_region ?_
 refine o_q _ rfl rfl rfl (v_move rfl rfl) ?_
 refine o_q _ rfl rfl rfl (v_move rfl rfl) ?_
 refine o_q _ rfl rfl rfl (v_move rfl rfl) ?_
 refine o_q _ rfl rfl rfl (v_conv rfl Tryd.underlying3 Tryd.underlying89 rfl (IntWalk.u64_in _ (by omega))) ?_
 refine o_q _ rfl rfl rfl (OpQ.fn (len_v l.length (by omega)) rfl rfl SubRC.sub) ?_
 refine o_fnc (pdq_run l hl bb cap sp 4 0 l.length (bitL l.length : Nat) l' (Nat.zero_le _) (Nat.le_refl _) (by have := bitL_pos l.length (by omega) hs0; omega) h) rfl [] [] rfl rfl rfl rfl rfl rfl SubRC.sub ?_
 refine o_nil ?_
 exact r_ende [bx bb 89 ((l').flatMap encU ++ sp)] [] (Rd.none rfl) ⟨rfl, rfl, rfl⟩ SelMC.sel SubRC.sub
end Go.Proofs.YtpfgiednfjfdmaaDoor


namespace Go.Proofs.YtpfgiednfjfdmaaDoor
open Go.G Debt10
set_option maxRecDepth 1000000
attribute [local irreducible] G.ParO G.Fin
theorem onL_half {f : Nat → Int} (hf : ∀ w, 0 ≤ f w) (w : Nat) : ∀ (k who : Nat) (left : Int) (m : Nat), who ≤ w → w < who + k → left < f w → (onL f k who left m).length * 2 ≤ 2 ^ k
  | 0, who, left, m, h1, h2, _ => by omega
  | k + 1, who, left, m, h1, h2, h3 => by
    by_cases hn : left < 0
    · rw [onL_neg hn]; exact Nat.zero_le _
    · rw [onL_s hn, List.length_append, Nat.pow_succ]
      by_cases e : who = w
      · subst e
        rw [onL_neg (f := f) (k := k) (left := left - f who) (by omega)]
        have := onL_len f k (who + 1) left m
        simp only [List.length_nil]
        omega
      · have i1 := onL_half hf w k (who + 1) left m (by omega) (by omega) h3
        have i2 := onL_half hf w k (who + 1) (left - f who) (m ||| 2 ^ who) (by omega) (by omega) (by have := hf who; omega)
        omega
theorem onL_pair {f : Nat → Int} (hf : ∀ w, 0 ≤ f w) (i j : Nat) (hij : i < j) : ∀ (k who : Nat) (left : Int) (m : Nat), who ≤ i → j < who + k → left < f i + f j → (onL f k who left m).length * 4 ≤ 3 * 2 ^ k
  | 0, who, left, m, h1, h2, _ => by omega
  | k + 1, who, left, m, h1, h2, h3 => by
    by_cases hn : left < 0
    · rw [onL_neg hn]; exact Nat.zero_le _
    · rw [onL_s hn, List.length_append, Nat.pow_succ]
      by_cases e : who = i
      · subst e
        have i1 := onL_len f k (who + 1) left m
        have i2 := onL_half hf j k (who + 1) (left - f who) (m ||| 2 ^ who) (by omega) (by omega) (by omega)
        omega
      · have i1 := onL_pair hf i j hij k (who + 1) left m (by omega) (by omega) h3
        have i2 := onL_pair hf i j hij k (who + 1) (left - f who) (m ||| 2 ^ who) (by omega) (by omega) (by have := hf who; omega)
        omega
/-- All sets of at most two people are covered: of the others each is there or not. -/
def lisB (t12 t02 t01 t01x : Bool) (al : Bool) : List Nat := [0, 8, 4, 12, 2, 10, 6] ++ (if t12 then [14] else []) ++ [1, 9, 5] ++ (if t02 then [13] else []) ++ [3] ++ (if t01 then [11] else []) ++ (if t01x then [7] ++ (if al then [15] else []) else [])
theorem lis_run : ∀ a b c d e : Bool, (e = true → a = true ∧ b = true ∧ c = true ∧ d = true) → 12 < (lisB a b c d e).length → pdqK 4 (lisB a b c d e) 0 (lisB a b c d e).length = some (sortT (lisB a b c d e)) := by decide +kernel
theorem onL_lis {f : Nat → Int} {s : Int} (hf : ∀ w, 0 ≤ f w) (hs : 0 ≤ s) (hp : ∀ i j, i < j → j < 4 → f i + f j ≤ s) : ∃ a b c d e : Bool, (e = true → a = true ∧ b = true ∧ c = true ∧ d = true) ∧ onL f 4 0 s 0 = lisB a b c d e := by
  have h0 := hf 0
  have h1 := hf 1
  have h2 := hf 2
  have h3 := hf 3
  have p01 := hp 0 1 (by decide) (by decide)
  have p02 := hp 0 2 (by decide) (by decide)
  have p03 := hp 0 3 (by decide) (by decide)
  have p12 := hp 1 2 (by decide) (by decide)
  have p13 := hp 1 3 (by decide) (by decide)
  have p23 := hp 2 3 (by decide) (by decide)
  have n : ¬ s < 0 := by omega
  have n0 : ¬ s - f 0 < 0 := by omega
  have n1 : ¬ s - f 1 < 0 := by omega
  have n2 : ¬ s - f 2 < 0 := by omega
  have n3 : ¬ s - f 3 < 0 := by omega
  have n01 : ¬ s - f 0 - f 1 < 0 := by omega
  have n02 : ¬ s - f 0 - f 2 < 0 := by omega
  have n03 : ¬ s - f 0 - f 3 < 0 := by omega
  have n12 : ¬ s - f 1 - f 2 < 0 := by omega
  have n13 : ¬ s - f 1 - f 3 < 0 := by omega
  have n23 : ¬ s - f 2 - f 3 < 0 := by omega
  refine ⟨decide (¬ s - f 1 - f 2 - f 3 < 0), decide (¬ s - f 0 - f 2 - f 3 < 0), decide (¬ s - f 0 - f 1 - f 3 < 0), decide (¬ s - f 0 - f 1 - f 2 < 0), decide (¬ s - f 0 - f 1 - f 2 - f 3 < 0), ?_, ?_⟩
  · intro h
    have h := of_decide_eq_true h
    exact ⟨decide_eq_true (by omega), decide_eq_true (by omega), decide_eq_true (by omega), decide_eq_true (by omega)⟩
  · have e : onL f 4 0 s 0 = [0, 8, 4, 12, 2, 10, 6] ++ (if s - f 1 - f 2 - f 3 < 0 then [] else [14]) ++ [1, 9, 5] ++ (if s - f 0 - f 2 - f 3 < 0 then [] else [13]) ++ [3] ++ (if s - f 0 - f 1 - f 3 < 0 then [] else [11]) ++ (if s - f 0 - f 1 - f 2 < 0 then [] else [7] ++ (if s - f 0 - f 1 - f 2 - f 3 < 0 then [] else [15])) := by
      simp only [onL, if_neg n, if_neg n0, if_neg n1, if_neg n2, if_neg n3, if_neg n01, if_neg n02, if_neg n03, if_neg n12, if_neg n13, if_neg n23, Nat.reduceAdd, Nat.reducePow, Nat.reduceOr]
      by_cases c0 : s - f 0 - f 1 - f 2 < 0
      · simp only [if_pos c0, List.cons_append, List.nil_append, List.append_assoc]
      · simp only [if_neg c0, List.cons_append, List.nil_append, List.append_assoc]
    rw [e]
    unfold lisB
    by_cases c1 : s - f 1 - f 2 - f 3 < 0 <;> by_cases c2 : s - f 0 - f 2 - f 3 < 0 <;> by_cases c3 : s - f 0 - f 1 - f 3 < 0 <;> by_cases c4 : s - f 0 - f 1 - f 2 < 0 <;> by_cases c5 : s - f 0 - f 1 - f 2 - f 3 < 0 <;> simp [c1, c2, c3, c4, c5]
theorem onL_run {f : Nat → Int} {s : Int} (hf : ∀ w, 0 ≤ f w) (hl : 12 < (onL f 4 0 s 0).length) : pdqK 4 (onL f 4 0 s 0) 0 (onL f 4 0 s 0).length = some (sortT (onL f 4 0 s 0)) := by
  have hs : 0 ≤ s := by
    by_cases h : s < 0
    · rw [onL_neg h] at hl; cases hl
    · omega
  obtain ⟨a, b, c, d, e, h1, h2⟩ := onL_lis hf hs (fun i j h1 h2 => by
    by_cases h : s < f i + f j
    · have h3 := onL_pair hf i j h1 4 0 s 0 (Nat.zero_le _) (by omega) h
      have h4 : (2 : Nat) ^ 4 = 16 := rfl
      omega
    · omega)
  rw [h2] at hl ⊢
  exact lis_run a b c d e h1 hl
theorem sets_run {D : Debt} (hg : GoodD D) {dn : Nat} (hd : dn ≤ 30) {s : Int} (hl : 12 < (setsT D dn s).length) : pdqK 4 (setsT D dn s) 0 (setsT D dn s).length = some (sortT (setsT D dn s)) := by
  have hp := hg.np
  have h4 : D.people.toNat = 4 := by
    have h1 := onL_len (needN D dn) D.people.toNat 0 s 0
    have h2 : 12 < 2 ^ D.people.toNat := Nat.lt_of_lt_of_le hl h1
    by_cases h : D.people.toNat ≤ 3
    · have : 2 ^ D.people.toNat ≤ 2 ^ 3 := Nat.pow_le_pow_right (by decide) h
      omega
    · omega
  unfold setsT at hl ⊢
  rw [h4] at hl ⊢
  exact onL_run (fun w => (need_bd hg (w : Int) hd).1) hl
variable (D : Debt) (uo po : Option Addr) (uc pc : Nat)
theorem most26_v (d s : Int) (hl1 : D.dues.length ≤ 40) (hl2 : D.paid.length ≤ 40) : FnV Tryd.prog 26 [valD D uo po uc pc, i64 d, i64 s] [rowD uo 5 encD D.dues, rowD po 4 encP D.paid, rowD (some ⟨0, 0, none⟩) 1 encE ([0, 1] : List Nat)] (.tuple #[i64 (mostB D d s).1.1, i64 (mostB D d s).1.2, i64 (mostB D d s).2]) :=
  most26_g D uo po uc pc d s hl1 hl2 fun hg h1 _ bb cap sp => by
    have h2 := of_decide_eq_true h1
    have h3 := sets_len hg (dn := d.toNat) (s := s)
    by_cases h : (setsT D d.toNat s).length ≤ 12
    · exact sortU_ins _ (by omega) bb cap sp h
    · exact sortU_run _ (by omega) bb cap sp _ h3 (by omega) (sets_run hg (by omega) (by omega))
end Go.Proofs.YtpfgiednfjfdmaaDoor


set_option linter.unusedSectionVars false
set_option linter.unusedVariables false
namespace Debt10
/-- What each has grown by. -/
def lateL (d : Nat) (l : List Opn) : List Opn := l.map fun x => { x with left := if x.left > 0 ∧ x.day < d then x.late else 0 }
theorem grow_total (d : Nat) : ∀ l : List Opn, total (growF d l) = total l + total (lateL d l)
  | [] => rfl
  | x :: r => by
    have ih := grow_total d r
    have e1 : total (growF d (x :: r)) = (if x.left > 0 ∧ x.day < d then { x with left := x.left + x.late } else x).left + total (growF d r) := rfl
    have e2 : total (lateL d (x :: r)) = (if x.left > 0 ∧ x.day < d then x.late else 0) + total (lateL d r) := rfl
    have e3 : total (x :: r) = x.left + total r := rfl
    rw [e1, e2, e3, ih]
    split
    · show x.left + x.late + _ = _; omega
    · omega
theorem nums_late (d : Nat) (l : List Opn) : nums (lateL d l) = nums l := by
  unfold lateL nums
  rw [List.map_map]
  rfl
theorem late_val {d : Nat} {l : List Opn} (hn : (nums l).Nodup) {x : Opn} (hx : x ∈ l) : valF (lateL d l) x.number = if x.left > 0 ∧ x.day < d then x.late else 0 :=
  val_mem (l := lateL d l) (x := { x with left := if x.left > 0 ∧ x.day < d then x.late else 0 }) (by rw [nums_late]; exact hn) (List.mem_map.2 ⟨x, hx, rfl⟩)
theorem total_app : ∀ l m : List Opn, total (l ++ m) = total l + total m
  | [], m => by show total m = 0 + total m; omega
  | x :: r, m => by
    have e1 : total (x :: r ++ m) = x.left + total (r ++ m) := rfl
    have e2 : total (x :: r) = x.left + total r := rfl
    rw [e1, e2, total_app r m]; omega
section
variable {D : Debt} {am pa : List Int} (hg : GoodD D) (h : TruD D am pa) (who : Int) (d : Nat)
abbrev bitX (D : Debt) (am pa : List Int) (who : Int) (d : Nat) : Nat := setK ((accT D am pa who (d + 1)).1.filter isOpen) ((accT D am pa who (d + 1)).1.filter isOpen).length
def lateK (D : Debt) (am pa : List Int) (who : Int) (d k : Nat) : Int := sumTo (fun i => if (bitX D am pa who d).testBit i = true ∧ (D.dues.getD i default).day < (d : Int) then (D.dues.getD i default).late else 0) k
include hg h
theorem late_sum (hd : d ≤ 30) : lateK D am pa who d D.dues.length = total (lateL d (payF (lstT D am pa who d) (bagT D am pa who d))) := by
  have hn : (nums (payF (lstT D am pa who d) (bagT D am pa who d))).Nodup := by rw [nums_pay]; exact lst_nodup who d
  have hent := (lst_ent (D := D) (am := am) (pa := pa) who d).pay (A := bagT D am pa who d)
  have hf := (lst_fit hg h who d hd).pay (A := bagT D am pa who d) (bag_bd hg h who d hd).1
  rw [total_sum (n := D.dues.length) (l := lateL d (payF (lstT D am pa who d) (bagT D am pa who d))) (by rw [nums_late]; exact hn) (fun x hx => by
    obtain ⟨y, hy, rfl⟩ := List.mem_map.1 hx
    exact (hent y hy).1)]
  unfold lateK
  refine sum_congr fun i hi => ?_
  by_cases hm : i ∈ nums (payF (lstT D am pa who d) (bagT D am pa who d))
  · obtain ⟨x, hx, rfl⟩ := List.mem_map.1 hm
    obtain ⟨e1, e2, e3, e4⟩ := hent x hx
    show (if _ then _ else _ : Int) = valF _ x.number
    rw [late_val hn hx]
    have hbit : (bitX D am pa who d).testBit x.number = true ↔ x.left > 0 := by
      have hg' : (accT D am pa who (d + 1)).1 = growF d (payF (lstT D am pa who d) (bagT D am pa who d)) := rfl
      rw [set_bit', hg']
      constructor
      · rintro ⟨y, hy, hyx⟩
        obtain ⟨g1, g2⟩ := mem_open.1 hy
        obtain ⟨z, hz, rfl⟩ := List.mem_map.1 g1
        have hzn : z.number = x.number := by
          have : (if z.left > 0 ∧ z.day < d then { z with left := z.left + z.late } else z).number = z.number := by split <;> rfl
          rw [← this]; exact hyx
        have hzx : z.left = x.left := by rw [← val_mem hn hz, ← val_mem hn hx, hzn]
        have hzp := hf.pos z hz
        by_cases c : z.left > 0 ∧ z.day < d
        · omega
        · rw [if_neg c] at g2; omega
      · intro hp
        refine ⟨if x.left > 0 ∧ x.day < d then { x with left := x.left + x.late } else x, mem_open.2 ⟨List.mem_map.2 ⟨x, hx, rfl⟩, ?_⟩, by split <;> rfl⟩
        have := (hf.late x hx).1
        split
        · show 0 < x.left + x.late; omega
        · exact hp
    rw [e3, ← e4]
    by_cases c : x.left > 0 ∧ x.day < d
    · rw [if_pos ⟨hbit.2 c.1, by omega⟩, if_pos c]
    · rw [if_neg (fun hc => c ⟨hbit.1 hc.1, by omega⟩), if_neg c]
  · show (if _ then _ else _ : Int) = valF _ i
    rw [val_not (by rw [nums_late]; exact hm)]
    refine if_neg fun hc => hm ?_
    obtain ⟨x, hx, hxi⟩ := set_bit'.1 hc.1
    obtain ⟨g1, _⟩ := mem_open.1 hx
    have : x.number ∈ nums (accT D am pa who (d + 1)).1 := List.mem_map.2 ⟨x, g1, rfl⟩
    rw [hxi, show (accT D am pa who (d + 1)).1 = growF d (payF (lstT D am pa who d) (bagT D am pa who d)) from rfl, nums_grow] at this
    exact this
/-- What is owed and what is ahead, kept. -/
theorem kept (hd : d ≤ 30) : total (accT D am pa who d).1 + total (newF D (amF am) who d) + lateK D am pa who d D.dues.length - total (accT D am pa who (d + 1)).1 = (accT D am pa who d).2 + paidS D (amF pa) who d - (accT D am pa who (d + 1)).2 := by
  have h1 := pay_keep (l := lstT D am pa who d) (A := bagT D am pa who d) (lst_fit hg h who d hd).pos (bag_bd hg h who d hd).1
  have h2 := grow_total d (payF (lstT D am pa who d) (bagT D am pa who d))
  have h3 : total (accT D am pa who (d + 1)).1 = total (growF d (payF (lstT D am pa who d) (bagT D am pa who d))) := rfl
  have h4 : (accT D am pa who (d + 1)).2 = restF (lstT D am pa who d) (bagT D am pa who d) := rfl
  have h5 : total (lstT D am pa who d) = total (accT D am pa who d).1 + total (newF D (amF am) who d) := total_app _ _
  have h6 : bagT D am pa who d = (accT D am pa who d).2 + paidS D (amF pa) who d := rfl
  rw [h3, h4, late_sum hg h who d hd, h2]
  omega
end
end Debt10


set_option linter.unusedSectionVars false
set_option linter.unusedVariables false
namespace Debt10
abbrev nextC (D : Debt) (who : Int) (d : Nat) (f : Nat → Int) (i : Nat) : Prop := ((D.dues.getD i default).who = who ∧ (D.dues.getD i default).day ≤ (d : Int)) ∧ 0 < f i
def befN (D : Debt) (k : Nat) : Option Nat → Bool
  | none => true
  | some b => decide ((D.dues.getD k default).day < (D.dues.getD b default).day)
def nextTo (D : Debt) (who : Int) (d : Nat) (f : Nat → Int) : Nat → Option Nat
  | 0 => none
  | k + 1 => if nextC D who d f k ∧ befN D k (nextTo D who d f k) = true then some k else nextTo D who d f k
def nextV : Option Nat → Int
  | none => -1
  | some b => b
section
variable {D : Debt} {who : Int} {d : Nat} {f : Nat → Int}
theorem next_y {k : Nat} (h1 : nextC D who d f k) (h2 : nextTo D who d f k = none ∨ ∃ b, nextTo D who d f k = some b ∧ (D.dues.getD k default).day < (D.dues.getD b default).day) : nextTo D who d f (k + 1) = some k := by
  unfold nextTo
  refine if_pos ⟨h1, ?_⟩
  rcases h2 with h2 | ⟨b, h2, h3⟩
  · rw [h2]; rfl
  · rw [h2]; exact decide_eq_true h3
theorem next_n1 {k : Nat} (h1 : ¬ nextC D who d f k) : nextTo D who d f (k + 1) = nextTo D who d f k := if_neg fun h => h1 h.1
theorem next_n2 {k b : Nat} (h2 : nextTo D who d f k = some b) (h3 : ¬ (D.dues.getD k default).day < (D.dues.getD b default).day) : nextTo D who d f (k + 1) = nextTo D who d f k := if_neg fun h => h3 (by have := h.2; rw [h2] at this; exact of_decide_eq_true this)
theorem next_none : ∀ {k : Nat}, nextTo D who d f k = none → ∀ i, i < k → ¬ nextC D who d f i
  | 0, _, i, hi, _ => by omega
  | k + 1, h, i, hi, hc => by
    cases e : nextTo D who d f k with
    | none =>
      by_cases c : nextC D who d f k
      · rw [next_y c (.inl e)] at h; cases h
      · rw [next_n1 c] at h
        by_cases ei : i = k
        · subst ei; exact c hc
        · exact next_none h i (by omega) hc
    | some b =>
      by_cases c : nextC D who d f k
      · by_cases c2 : (D.dues.getD k default).day < (D.dues.getD b default).day
        · rw [next_y c (.inr ⟨b, e, c2⟩)] at h; cases h
        · rw [next_n2 e c2, e] at h; cases h
      · rw [next_n1 c, e] at h; cases h
theorem next_some : ∀ {k b : Nat}, nextTo D who d f k = some b → (b < k ∧ nextC D who d f b) ∧ ∀ i, i < k → nextC D who d f i → (D.dues.getD b default).day < (D.dues.getD i default).day ∨ ((D.dues.getD b default).day = (D.dues.getD i default).day ∧ b ≤ i)
  | k + 1, b, h => by
    by_cases c : nextC D who d f k
    · cases e : nextTo D who d f k with
      | none =>
        rw [next_y c (.inl e)] at h
        cases h
        refine ⟨⟨by omega, c⟩, fun i hi hc => ?_⟩
        by_cases ei : i = k
        · exact .inr ⟨by rw [ei], by omega⟩
        · exact absurd hc (next_none e i (by omega))
      | some a =>
        obtain ⟨⟨g1, g2⟩, g3⟩ := next_some e
        by_cases c2 : (D.dues.getD k default).day < (D.dues.getD a default).day
        · rw [next_y c (.inr ⟨a, e, c2⟩)] at h
          cases h
          refine ⟨⟨by omega, c⟩, fun i hi hc => ?_⟩
          by_cases ei : i = k
          · exact .inr ⟨by rw [ei], by omega⟩
          · rcases g3 i (by omega) hc with h3 | h3
            · exact .inl (by omega)
            · exact .inl (by omega)
        · rw [next_n2 e c2, e] at h
          cases h
          refine ⟨⟨by omega, g2⟩, fun i hi hc => ?_⟩
          by_cases ei : i = k
          · subst ei
            by_cases c3 : (D.dues.getD b default).day < (D.dues.getD i default).day
            · exact .inl c3
            · exact .inr ⟨by omega, by omega⟩
          · exact g3 i (by omega) hc
    · rw [next_n1 c] at h
      obtain ⟨⟨g1, g2⟩, g3⟩ := next_some h
      refine ⟨⟨by omega, g2⟩, fun i hi hc => ?_⟩
      by_cases ei : i = k
      · subst ei; exact absurd hc c
      · exact g3 i (by omega) hc
end
/-! ### in order of day and number -/
def keysL (l : List Opn) : List (Nat × Nat) := l.map fun x => (x.day, x.number)
def LexL (l : List Opn) : Prop := (keysL l).Pairwise fun x y => x.1 < y.1 ∨ (x.1 = y.1 ∧ x.2 < y.2)
theorem keys_pay : ∀ (l : List Opn) (A : Int), keysL (payF l A) = keysL l
  | [], _ => rfl
  | x :: r, A => by
    show (x.day, x.number) :: keysL (payF r _) = _ :: keysL r
    rw [keys_pay r]
theorem keys_grow (d : Nat) (l : List Opn) : keysL (growF d l) = keysL l := by
  unfold keysL growF
  rw [List.map_map]
  exact List.map_congr_left fun x _ => by
    show ((if _ then _ else _ : Opn).day, (if _ then _ else _ : Opn).number) = _
    split <;> rfl
theorem keys_app (l m : List Opn) : keysL (l ++ m) = keysL l ++ keysL m := List.map_append
theorem lex_new {D : Debt} {am : Nat → Int} {who : Int} {d : Nat} : ∀ n, LexL (newTo D am who d n)
  | 0 => List.Pairwise.nil
  | n + 1 => by
    show (keysL (newTo D am who d n ++ _)).Pairwise _
    rw [keys_app]
    refine List.pairwise_append.2 ⟨lex_new n, ?_, fun x hx y hy => ?_⟩
    · split
      · exact List.pairwise_singleton _ _
      · exact List.Pairwise.nil
    · split at hy
      · obtain ⟨z, hz, rfl⟩ := List.mem_map.1 hx
        obtain ⟨h1, h2, _⟩ := newTo_mem hz
        have : y = (d, n) := by
          have h3 : y ∈ [((newOp D am d n).day, (newOp D am d n).number)] := hy
          exact List.mem_singleton.1 h3
        subst this
        exact .inr ⟨h1, h2⟩
      · cases hy
theorem lex_acc (D : Debt) (am pa : Nat → Int) (who : Int) : ∀ d, LexL (acc0 D am pa who d).1
  | 0 => List.Pairwise.nil
  | d + 1 => by
    show (keysL (growF d (payF ((acc0 D am pa who d).1 ++ newF D am who d) _))).Pairwise _
    rw [keys_grow, keys_pay, keys_app]
    refine List.pairwise_append.2 ⟨lex_acc D am pa who d, lex_new _, fun x hx y hy => ?_⟩
    obtain ⟨z, hz, rfl⟩ := List.mem_map.1 hx
    obtain ⟨u, hu, rfl⟩ := List.mem_map.1 hy
    have h1 := (acc_days D am pa who d).1 z.day (List.mem_map.2 ⟨z, hz, rfl⟩)
    have h2 := (newTo_mem hu).1
    exact .inl (by show z.day < u.day; omega)
theorem lex_lst (D : Debt) (am pa : List Int) (who : Int) (d : Nat) : LexL (lstT D am pa who d) := by
  show (keysL (_ ++ _)).Pairwise _
  rw [keys_app]
  refine List.pairwise_append.2 ⟨lex_acc D _ _ who d, lex_new _, fun x hx y hy => ?_⟩
  obtain ⟨z, hz, rfl⟩ := List.mem_map.1 hx
  obtain ⟨u, hu, rfl⟩ := List.mem_map.1 hy
  have h1 := (acc_days D (amF am) (amF pa) who d).1 z.day (List.mem_map.2 ⟨z, hz, rfl⟩)
  have h2 := (newTo_mem hu).1
  exact .inl (by show z.day < u.day; omega)
theorem lex_at {p r : List Opn} {x y : Opn} (h : LexL (p ++ x :: r)) (hy : y ∈ r) : x.day < y.day ∨ (x.day = y.day ∧ x.number < y.number) := by
  unfold LexL at h
  rw [keys_app] at h
  have h2 := (List.pairwise_append.1 h).2.1
  exact (List.pairwise_cons.1 h2).1 (y.day, y.number) (List.mem_map.2 ⟨y, hy, rfl⟩)
section
variable {D : Debt} {who : Int} {d : Nat}
/-- The first that is open is the one that is looked for. -/
theorem next_first {p r : List Opn} {x : Opn} (hent : EntD D who (p ++ x :: r)) (hday : ∀ y ∈ p ++ x :: r, y.day ≤ d) (hlex : LexL (p ++ x :: r)) (hn : (nums (p ++ x :: r)).Nodup) (hp : ∀ y ∈ p, y.left = 0) (hx : 0 < x.left) : nextTo D who d (valF (p ++ x :: r)) D.dues.length = some x.number := by
  have hxm : x ∈ p ++ x :: r := List.mem_append_right _ (List.mem_cons_self ..)
  obtain ⟨e1, e2, e3, _⟩ := hent x hxm
  have hvx := val_mem hn hxm
  have hd := hday x hxm
  have hc : nextC D who d (valF (p ++ x :: r)) x.number := ⟨⟨e2, by rw [e3]; omega⟩, by rw [hvx]; exact hx⟩
  cases e : nextTo D who d (valF (p ++ x :: r)) D.dues.length with
  | none => exact absurd hc (next_none e _ e1)
  | some b =>
    obtain ⟨⟨g1, ⟨_, g2⟩⟩, g3⟩ := next_some e
    have hmem : b ∈ nums (p ++ x :: r) := Classical.byContradiction fun h => by rw [val_not h] at g2; omega
    obtain ⟨y, hy, rfl⟩ := List.mem_map.1 hmem
    have hvy := val_mem hn hy
    rw [hvy] at g2
    rcases List.mem_append.1 hy with hy1 | hy1
    · have := hp y hy1; omega
    · rcases List.mem_cons.1 hy1 with rfl | hy2
      · rfl
      · obtain ⟨f1, _, f3, _⟩ := hent y hy
        have h4 := g3 x.number e1 hc
        rw [f3, e3] at h4
        have h5 := lex_at hlex hy2
        omega
theorem next_nil {l : List Opn} (h : ∀ y ∈ l, y.left = 0) (hn : (nums l).Nodup) : nextTo D who d (valF l) D.dues.length = none := by
  cases e : nextTo D who d (valF l) D.dues.length with
  | none => rfl
  | some b =>
    obtain ⟨⟨g1, ⟨_, g2⟩⟩, _⟩ := next_some e
    have hmem : b ∈ nums l := Classical.byContradiction fun h => by rw [val_not h] at g2; omega
    obtain ⟨y, hy, rfl⟩ := List.mem_map.1 hmem
    rw [val_mem hn hy, h y hy] at g2
    omega
end
/-! ### paying one by one -/
theorem payF_append : ∀ (l m : List Opn) (A : Int), payF (l ++ m) A = payF l A ++ payF m (restF l A) ∧ restF (l ++ m) A = restF m (restF l A)
  | [], _, _ => ⟨rfl, rfl⟩
  | x :: r, m, A => by
    obtain ⟨h1, h2⟩ := payF_append r m (max 0 (A - x.left))
    exact ⟨by show _ :: payF (r ++ m) _ = _ :: (payF r _ ++ payF m _); rw [h1]; rfl, h2⟩
theorem st_skip {l : List Opn} {A : Int} {q : Nat} {x : Opn} (h : l[q]? = some x) (hx : x.left = 0) (hA : 0 ≤ stA l A q) : stP l A (q + 1) = stP l A q ∧ stA l A (q + 1) = stA l A q := by
  obtain ⟨h1, h2⟩ := take_drop_at h
  refine ⟨?_, by rw [stA_s h, hx]; omega⟩
  unfold stP
  rw [h1, payF_app, h2, List.append_assoc]
  have hA' : 0 ≤ restF (l.take q) A := hA
  have : ({ x with left := max 0 (x.left - restF (l.take q) A) } : Opn) = x := by
    rw [hx, show max 0 (0 - restF (l.take q) A) = 0 by omega, ← hx]
  rw [this]; rfl
/-- As far as the first that is open. -/
theorem st_find {l : List Opn} {A : Int} (hp : Pos l) (hA : 0 ≤ A) : ∀ (m q : Nat), l.length - q = m → q ≤ l.length → ∃ q', q ≤ q' ∧ q' ≤ l.length ∧ stP l A q' = stP l A q ∧ stA l A q' = stA l A q ∧ (q' = l.length ∨ ∃ x, l[q']? = some x ∧ 0 < x.left)
  | 0, q, hm, hq => ⟨q, Nat.le_refl _, hq, rfl, rfl, .inl (by omega)⟩
  | m + 1, q, hm, hq => by
    have hlt : q < l.length := by omega
    obtain ⟨x, hx⟩ : ∃ x, l[q]? = some x := ⟨l[q], List.getElem?_eq_getElem hlt⟩
    have hxp := hp x (List.mem_of_getElem? hx)
    by_cases c : 0 < x.left
    · exact ⟨q, Nat.le_refl _, hq, rfl, rfl, .inr ⟨x, hx, c⟩⟩
    · have hst : 0 ≤ stA l A q := (rest_bd (l := l.take q) (A := A) (fun y hy => hp y (List.mem_of_mem_take hy)) hA).1
      obtain ⟨s1, s2⟩ := st_skip hx (by omega) hst
      obtain ⟨q', h1, h2, h3, h4, h5⟩ := st_find hp hA m (q + 1) (by omega) (by omega)
      exact ⟨q', by omega, h2, by rw [h3, s1], by rw [h4, s2], h5⟩
theorem st_end {l : List Opn} {A : Int} {q : Nat} (hp : Pos l) (hA : 0 ≤ A) (h : stA l A q = 0) : stP l A q = payF l A ∧ stA l A q = restF l A := by
  have h1 := payF_append (l.take q) (l.drop q) A
  rw [List.take_append_drop] at h1
  have h2 : restF (l.take q) A = 0 := h
  have h3 := pay_done (l := l.drop q) fun y hy => hp y (List.mem_of_mem_drop hy)
  rw [h2, h3.1, h3.2] at h1
  exact ⟨h1.1.symm, by rw [h, h1.2]⟩
section
variable {D : Debt} {am pa : List Int} (hg : GoodD D) (h : TruD D am pa) (who : Int) (d : Nat)
include hg h
/-- One round of paying: nothing is open, or the first that is open is paid. -/
theorem pay_round (hd : d ≤ 30) {q : Nat} (hq : q ≤ (lstT D am pa who d).length) (hA : 0 < stA (lstT D am pa who d) (bagT D am pa who d) q) :
    (nextTo D who d (valF (stP (lstT D am pa who d) (bagT D am pa who d) q)) D.dues.length = none ∧ stP (lstT D am pa who d) (bagT D am pa who d) q = payF (lstT D am pa who d) (bagT D am pa who d) ∧ stA (lstT D am pa who d) (bagT D am pa who d) q = restF (lstT D am pa who d) (bagT D am pa who d)) ∨
    ∃ (i q' : Nat) (L : Int), nextTo D who d (valF (stP (lstT D am pa who d) (bagT D am pa who d) q)) D.dues.length = some i ∧ i < D.dues.length ∧ q < q' ∧ q' ≤ (lstT D am pa who d).length ∧ valF (stP (lstT D am pa who d) (bagT D am pa who d) q) i = L ∧ (0 < L ∧ L ≤ 1000) ∧
      stA (lstT D am pa who d) (bagT D am pa who d) q' = stA (lstT D am pa who d) (bagT D am pa who d) q - min (stA (lstT D am pa who d) (bagT D am pa who d) q) L ∧
      (arrL (stP (lstT D am pa who d) (bagT D am pa who d) q) D.dues.length).set i (L - min (stA (lstT D am pa who d) (bagT D am pa who d) q) L) = arrL (stP (lstT D am pa who d) (bagT D am pa who d) q') D.dues.length := by
  have hf := lst_fit hg h who d hd
  have hb := bag_bd hg h who d hd
  have hnd := lst_nodup (D := D) (am := am) (pa := pa) who d
  obtain ⟨q1, h1, h2, h3, h4, h5⟩ := st_find hf.pos hb.1 _ q rfl hq
  have hz : ∀ y ∈ payF ((lstT D am pa who d).take q1) (bagT D am pa who d), y.left = 0 := by
    have ho := one_zero (l := (lstT D am pa who d).take q1) (A := bagT D am pa who d) (fun y hy => hf.pos y (List.mem_of_mem_take hy)) hb.1
    have h4' : restF ((lstT D am pa who d).take q1) (bagT D am pa who d) = stA (lstT D am pa who d) (bagT D am pa who d) q := h4
    rcases ho with ho | ho
    · exact (total_zero (pay_pos _ _)).1 ho
    · omega
  rcases h5 with h5 | ⟨x, hx, hxl⟩
  · left
    have hall := st_all (lstT D am pa who d) (bagT D am pa who d)
    rw [h5] at h3 h4 hz
    refine ⟨?_, by rw [← h3, hall.1], by rw [← h4, hall.2]⟩
    rw [← h3, hall.1]
    rw [List.take_length] at hz
    exact next_nil hz (by rw [nums_pay]; exact hnd)
  · right
    have hxm : x ∈ lstT D am pa who d := List.mem_of_getElem? hx
    obtain ⟨t1, t2⟩ := take_drop_at hx
    have hent := lst_ent (D := D) (am := am) (pa := pa) who d
    have hst : stP (lstT D am pa who d) (bagT D am pa who d) q1 = payF ((lstT D am pa who d).take q1) (bagT D am pa who d) ++ x :: (lstT D am pa who d).drop (q1 + 1) := by unfold stP; rw [t2]
    have hkeys : keysL (stP (lstT D am pa who d) (bagT D am pa who d) q1) = keysL (lstT D am pa who d) := by
      unfold stP; rw [keys_app, keys_pay, ← keys_app, List.take_append_drop]
    have hents : EntD D who (stP (lstT D am pa who d) (bagT D am pa who d) q1) := by
      unfold stP
      exact (EntD.pay fun y hy => hent y (List.mem_of_mem_take hy)).app fun y hy => hent y (List.mem_of_mem_drop hy)
    have hdays : ∀ y ∈ stP (lstT D am pa who d) (bagT D am pa who d) q1, y.day ≤ d := fun y hy => by
      have h6 : (y.day, y.number) ∈ keysL (lstT D am pa who d) := by rw [← hkeys]; exact List.mem_map.2 ⟨y, hy, rfl⟩
      obtain ⟨z, hz1, hz2⟩ := List.mem_map.1 h6
      have h7 : z.day = y.day := (Prod.mk.inj hz2).1
      rw [← h7]
      rcases List.mem_append.1 hz1 with hz1 | hz1
      · have := (acc_days D (amF am) (amF pa) who d).1 z.day (List.mem_map.2 ⟨z, hz1, rfl⟩); omega
      · rw [(newTo_mem hz1).1]; exact Nat.le_refl _
    have hlex : LexL (stP (lstT D am pa who d) (bagT D am pa who d) q1) := by unfold LexL; rw [hkeys]; exact lex_lst D am pa who d
    have hnn : (nums (stP (lstT D am pa who d) (bagT D am pa who d) q1)).Nodup := by rw [st_num]; exact hnd
    have hnext : nextTo D who d (valF (stP (lstT D am pa who d) (bagT D am pa who d) q1)) D.dues.length = some x.number := by
      rw [hst] at hents hdays hlex hnn ⊢
      exact next_first hents hdays hlex hnn hz hxl
    rw [← h3, ← h4]
    refine ⟨x.number, q1 + 1, x.left, hnext, (hent x hxm).1, by omega, ?_, st_here hnd hx, ⟨hxl, hf.top x hxm⟩, ?_, ?_⟩
    · exact (List.getElem?_eq_some_iff.1 hx).1
    · rw [stA_s hx]; rw [h4]; omega
    · exact pay_arr hnd hx (hent x hxm).1 (by rw [h4]; omega)
end
end Debt10


namespace Go.G
variable {P : Program} {W : World} {n : Nat} {D : List Deferred} {L : Tm} {M : List Res} {R : List Fact} {Q : Exit → Act → World → Prop} {o : Oper} {Z : World → Prop} {en : Nat}
/-- All orders; and at each step, as long as one is not carried out, something stays so. -/
def wpAnyE (en : Nat) (Z : World → Prop) (P : Program) (ops : Array Oper) (Q : Exit → Act → World → Prop) : Nat → Array Bool → Act → World → Prop
  | 0, listed, a, w => (listed.getD en false = false → Z w) ∧ Region.ready .any ops listed = [] ∧ Q .normal a w
  | fuel + 1, listed, a, w => (listed.getD en false = false → Z w) ∧ (Region.ready .any ops listed = [] → Q .normal a w) ∧ ∀ i ∈ Region.ready .any ops listed, wpOp P ops Q i (wpAnyE en Z P ops Q fuel (listed.setIfInBounds i true)) a w
theorem wpAnyE.any {ops : Array Oper} : ∀ {fuel : Nat} {listed : Array Bool} {a : Act} {w : World}, wpAnyE en Z P ops Q fuel listed a w → wpAny P .any ops Q fuel listed a w
  | 0, _, _, _, h => h.2
  | _ + 1, _, _, _, h => ⟨h.2.1, fun i hi => wpOp_mono (fun _ _ h' => h'.any) (h.2.2 i hi)⟩
def waitsE (fl : List Nat) (l : List Oper) (en : Nat) : Bool := match l[en]? with | some o => fl.all fun i => o.after.any fun ed => Region.binds .any ed && Nat.beq ed.on i | none => false
theorem waitsE_sound {fl : List Nat} {l : List Oper} (h : waitsE fl l en = true) : ∀ i ∈ fl, ∀ oe, l[en]? = some oe → ∃ ed ∈ oe.after, Region.binds .any ed = true ∧ ed.on = i := fun i hi oe ho => by
  unfold waitsE at h
  rw [ho] at h
  have h1 := List.all_eq_true.1 h i hi
  obtain ⟨ed, h2, h3⟩ := Array.any_eq_true'.1 h1
  simp only [Bool.and_eq_true] at h3
  exact ⟨ed, h2, h3.1, Nat.eq_of_beq_eq_true h3.2⟩
theorem wpAnyE_first {ops : Array Oper} {i : Nat} {oi : Oper} {v : Value} (hi : ops[i]? = some oi) (hsel : ∀ (j : Nat) (o : Oper) cs b, ops[j]? = some o → o.op ≠ .select cs b) (hie : i ≠ en) (hwt : ∀ oe, ops[en]? = some oe → ∃ ed ∈ oe.after, Region.binds .any ed = true ∧ ed.on = i) :
    ∀ (fuel : Nat) (listed : Array Bool) (a : Act) (w : World),
      (∀ j oj, ops[j]? = some oj → j ≠ i → listed.getD j true = false → (∀ e ∈ oj.after, Region.binds .any e = true → e.on ≠ i) → oi.apart ops oj = true) →
      i ∈ Region.ready .any ops listed → listed.getD en false = false → YieldsZ Z P ops oi v a →
      wpAnyE en Z P ops (NoP Q) fuel (listed.setIfInBounds i true) (a.put oi.dst v) w → wpAnyE en Z P ops (NoP Q) (fuel + 1) listed a w := by
  intro fuel
  induction fuel with
  | zero =>
    intro listed a w _ hr hel hy H
    have hz : Z w := H.1 (by rw [getD_set_ne false hie]; exact hel)
    refine ⟨fun _ => hz, fun h => (by rw [h] at hr; cases hr), fun j hj => ?_⟩
    by_cases hji : j = i
    · subst hji; exact hy.wpOp hi hz H
    · have := ready_mono hj hji
      rw [H.2.1] at this
      cases this
  | succ fuel ih =>
    intro listed a w hfree hr hel hy H
    have hz : Z w := H.1 (by rw [getD_set_ne false hie]; exact hel)
    refine ⟨fun _ => hz, fun h => (by rw [h] at hr; cases hr), fun j hj => ?_⟩
    by_cases hji : j = i
    · subst hji; exact hy.wpOp hi hz H
    · have h1 := H.2.2 j (ready_mono hj hji)
      obtain ⟨hjun, oj, hoj, hall⟩ := mem_ready.1 hj
      have hnot : ∀ e ∈ oj.after, Region.binds .any e = true → e.on ≠ i := fun e he hb heq => by
        have g1 := hall e he hb
        have g0 := (mem_ready.1 hr).1
        rw [heq] at g1
        rw [getD_both g0] at g1; cases g1
      have hjne : j ≠ en := fun e => by
        subst e
        obtain ⟨ed, h5, h6, h7⟩ := hwt oj hoj
        exact hnot ed h5 h6 h7
      have h2 := wpOpZ_put hoj (hfree j oj hoj hji hjun hnot) (fun cs b => hsel i oi cs b hi) (fun cs b => hsel j oj cs b hoj) hy h1
      refine wpOp_mono (fun a' w' h3 => ih (listed.setIfInBounds j true) a' w' (fun k ok hk hki hun hno => ?_) (ready_mono hr (Ne.symm hji)) (by rw [getD_set_ne false hjne]; exact hel) h3.1 ?_) h2
      · refine hfree k ok hk hki ?_ hno
        by_cases hjk : j = k
        · subst hjk; exact hjun
        · rw [getD_set_ne true hjk] at hun; exact hun
      · rw [Array.setIfInBounds_comm _ _ hji]
        exact h3.2
/-- A tail, in its order, and ahead of each step something stays so. -/
def wpListE (Z : World → Prop) (P : Program) (ops : Array Oper) (Q : Exit → Act → World → Prop) : List Oper → Act → World → Prop
  | [], a, w => Q .normal a w
  | o :: rest, a, w => Z w ∧ if Region.wanted o (yielded ops a.tmps) then o.wp P a w (wpListE Z P ops Q rest) Q ∨ (o.asks P a w ∧ LetsOut Q) else wpListE Z P ops Q rest (a.put o.dst undef) w
theorem oe_nil {ops : Array Oper} (h : Imp W n D L M R (Q .normal)) : Imp W n D L M R (wpListE Z P ops Q []) := h
theorem oe_lift {ops : Array Oper} {rest : List Oper} (hz : ∀ w, St W M R w → Z w) (h : Imp W n D L M R (wpList P ops (Exit.then (wpListE Z P ops (NoP Q) rest) (NoP Q)) [o])) : Imp W n D L M R (wpListE Z P ops (NoP Q) (o :: rest)) := by
  intro a w h1 h2 h3
  refine ⟨hz w h3, ?_⟩
  have := h a w h1 h2 h3
  unfold wpList at this
  split
  · rename_i hw
    rw [if_pos hw] at this
    rcases this with h' | ⟨_, a0, w0, h'⟩
    · refine .inl ?_
      unfold Oper.wp at *
      generalize (execOp a.eval o).run P w = r at h'
      unfold Oper.upon at h' ⊢
      split at h'
      · exact h'
      · exact h'
      · exact h'
      · refine Calls.mono h' fun e w'' he => ?_
        cases e with
        | returned u => exact he
        | panicked c => exact he.elim
        | outgrown => obtain ⟨a1, w1, hx⟩ := he; exact hx.elim
      · exact h'
      · exact h'.elim
      · exact h'.elim
    · exact h'.elim
  · rename_i hw
    rw [if_neg hw] at this
    exact this
theorem wpAnyE_tail {ops : Array Oper} (hb : backB ops.toList = true) (hen : en < ops.size) : ∀ (k t fuel : Nat) (listed : Array Bool) (a : Act) (w : World), t + k = ops.size → k ≤ fuel → listed.size = ops.size → Closed ops listed →
    (∀ i, i < t → listed.getD i false = true) → (∀ i, t ≤ i → i < ops.size → listed.getD i true = false) →
    (∀ listed', Closed ops listed' → ∀ i o, t ≤ i → ops[i]? = some o → (∀ e ∈ o.after, Region.binds .any e = true → listed'.getD e.on false = true) → ∀ j, j < i → listed'.getD j false = true) →
    wpListE Z P ops Q (ops.toList.drop t) a w → wpAnyE en Z P ops Q fuel listed a w := by
  intro k
  induction k with
  | zero =>
    intro t fuel listed a w htk _ hsz _ hl _ _ h
    have hdrop : ops.toList.drop t = [] := List.drop_eq_nil_of_le (by simp; omega)
    rw [hdrop] at h
    have hready : Region.ready .any ops listed = [] := by
      apply List.eq_nil_iff_forall_not_mem.2
      intro i hi
      obtain ⟨h0, o, ho, _⟩ := mem_ready.1 hi
      have hlt := (Array.getElem?_eq_some_iff.1 ho).1
      have := hl i (by omega)
      rw [getD_both h0] at this; cases this
    cases fuel with
    | zero => exact ⟨fun he => (by have := hl en (by omega); rw [this] at he; cases he), hready, h⟩
    | succ f => exact ⟨fun he => (by have := hl en (by omega); rw [this] at he; cases he), fun _ => h, fun i hi => by rw [hready] at hi; cases hi⟩
  | succ k ih =>
    intro t fuel listed a w htk hkf hsz hcl hl hu hm h
    have ht : t < ops.size := by omega
    obtain ⟨fuel, rfl⟩ : ∃ f, fuel = f + 1 := ⟨fuel - 1, by omega⟩
    have hot : ops[t]? = some ops[t] := Array.getElem?_eq_getElem ht
    have hback : ∀ i o, ops[i]? = some o → ∀ e ∈ o.after, Region.binds .any e = true → e.on < i := by
      intro i o ho e he hbi
      have hlt := (Array.getElem?_eq_some_iff.1 ho).1
      have := List.all_eq_true.1 hb i (List.mem_range.2 (by simpa using hlt))
      rw [show ops.toList[i]? = some o from by simpa using ho] at this
      have := Array.all_eq_true_iff_forall_mem.1 this e he
      simpa [hbi] using this
    have htr : t ∈ Region.ready .any ops listed := mem_ready.2 ⟨hu t (Nat.le_refl _) ht, _, hot, fun e he hbi => hl _ (hback t _ hot e he hbi)⟩
    have hz : Z w := by
      have ht2 : t < ops.toList.length := by simpa using ht
      rw [List.drop_eq_getElem_cons ht2] at h; exact h.1
    refine ⟨fun _ => hz, fun h0 => (by rw [h0] at htr; cases htr), fun i hi => ?_⟩
    obtain ⟨h0, o, ho, hp⟩ := mem_ready.1 hi
    have hlt := (Array.getElem?_eq_some_iff.1 ho).1
    have hge : t ≤ i := by
      rcases Nat.lt_or_ge i t with h' | h'
      · have := hl i h'; rw [getD_both h0] at this; cases this
      · exact h'
    have hit : i = t := by
      rcases Nat.lt_or_ge t i with h' | h'
      · have := hm listed hcl i o hge ho hp t h'
        rw [getD_both (hu t (Nat.le_refl _) ht)] at this; cases this
      · omega
    subst hit
    have hoi : o = ops[i] := Option.some.inj (ho.symm.trans hot)
    have hdrop : ops.toList.drop i = o :: ops.toList.drop (i + 1) := by
      rw [List.drop_eq_getElem_cons (by simpa using ht)]; simp [hoi]
    rw [hdrop] at h
    have hcl' : Closed ops (listed.setIfInBounds i true) := by
      intro j oj hj hlj e he hbi
      by_cases hij : i = j
      · subst hij
        have : oj = o := Option.some.inj (hj.symm.trans ho)
        subst this
        exact getD_set_true (hp e he hbi)
      · rw [getD_set_ne false hij] at hlj
        exact getD_set_true (hcl j oj hj hlj e he hbi)
    have hih := fun a w => ih (i + 1) fuel (listed.setIfInBounds i true) a w (by omega) (by omega) (by simp [hsz]) hcl'
      (fun j hj => by
        by_cases hij : i = j
        · subst hij; simp [hsz, ht]
        · rw [getD_set_ne false hij]; exact hl j (by omega))
      (fun j hj hj' => by rw [getD_set_ne true (by omega)]; exact hu j (by omega) hj')
      (fun l' hc' j oj hj => hm l' hc' j oj (by omega))
    unfold wpOp
    simp only [ho]
    unfold wpListE at h
    replace h := h.2
    split
    · rename_i hw
      rw [if_pos hw] at h
      exact h.imp (Oper.wp_mono fun a w => hih a w) id
    · rename_i hw
      rw [if_neg hw] at h
      exact hih _ _ h
theorem parE_any {free tail : List Oper} {ss : List Spc} (hZ : ∀ X F w, St W (X ++ M) (F ++ R) w → Z w) (hen : en < (free ++ tail).length) (hpb : parB free tail = true) (hl : ss.length = free.length) (hfr : ∀ o ∈ free, look L (o.dst.getD 1000000) = none) (hL : LateOK (free ++ tail).toArray ss) (hab : ∀ (i : Nat) (s : Spc) (c : List PanicEntry), ss[i]? = some s → s.ab = some c → Imp W n D L M R (Q (.panic c)))
    (hstep : ∀ i o s, free[i]? = some o → ss[i]? = some s → Step1 P W n M R (free ++ tail).toArray ss i o s (detL (free.take i) (ss.take i) L))
    (hfin : Fin W n D (wpListE Z P (free ++ tail).toArray Q tail) free ss L M R) :
    ∀ (fuel : Nat) (listed : Array Bool) (a : Act) (w : World), J W n D L M R (free ++ tail).toArray free ss listed a w → unl (free ++ tail).length listed ≤ fuel → wpAnyE en Z P (free ++ tail).toArray Q fuel listed a w := by
  simp only [parB, Bool.and_eq_true] at hpb
  obtain ⟨⟨⟨⟨hns, hfree⟩, hnd0⟩, hback⟩, htail⟩ := hpb
  have hnd := injB_sound hnd0
  have hmN : free.length ≤ (free ++ tail).length := by simp
  have hmask : ∀ listed', Closed (free ++ tail).toArray listed' → ∀ i o, free.length ≤ i → (free ++ tail).toArray[i]? = some o → (∀ e ∈ o.after, Region.binds .any e = true → listed'.getD e.on false = true) → ∀ j, j < i → listed'.getD j false = true := by
    intro listed' hc i o hi ho hp j hj
    have hlt : i < (free ++ tail).length := by simpa using (Array.getElem?_eq_some_iff.1 ho).1
    have h1 := List.all_eq_true.1 htail i (List.mem_range.2 hlt)
    simp only [Bool.or_eq_true] at h1
    rcases h1 with h1 | h1
    · have : i < free.length := by simpa using h1
      omega
    · have h2 := List.all_eq_true.1 h1 j (List.mem_range.2 hj)
      exact (masks_sound hc (free ++ tail) [] (fun j => by simp) (fun i hi => by simp at hi)).1 i o (Nat.zero_le _) ho hp j h2
  have hbk : ∀ i o, (free ++ tail).toArray[i]? = some o → ∀ e ∈ o.after, Region.binds .any e = true → e.on < i := by
    intro i o ho e he hbi
    have hlt : i < (free ++ tail).length := by simpa using (Array.getElem?_eq_some_iff.1 ho).1
    have := List.all_eq_true.1 hback i (List.mem_range.2 hlt)
    rw [show (free ++ tail)[i]? = some o from by simpa using ho] at this
    have := Array.all_eq_true_iff_forall_mem.1 this e he
    simpa [hbi] using this
  intro fuel
  induction fuel with
  | zero =>
    intro listed a w hJ hu
    have hall : ∀ i, i < free.length → listed.getD i false = true := by
      intro i hi
      cases h : listed.getD i true with
      | true =>
        have : i < listed.size := by rw [hJ.size]; simp; omega
        simp [this] at h ⊢; exact h
      | false =>
        have hsz : listed.size = (free ++ tail).length := by rw [hJ.size]; simp
        have := unl_set (N := (free ++ tail).length) (i := i) (by omega) hsz h
        omega
    obtain ⟨g, hg, hS⟩ := hJ.vals
    refine wpAnyE_tail (by simpa using hback) (by simpa using hen) ((free ++ tail).length - free.length) free.length 0 listed a w (by simp) (Nat.le_trans (unl_ge (fun i h1 h2 => hJ.late i h1 (by simpa using h2))) hu) hJ.size hJ.closed hall (fun i h1 h2 => hJ.late i h1 h2) hmask ?_
    have hd : ((free ++ tail).toArray).toList.drop free.length = tail := by simp
    rw [hd]
    have hsame : resOf ss listed g free.length = lastOf ss g free.length := by
      refine flatMap_same _ _ _ fun j hj => ?_
      have := List.mem_range.1 hj
      rw [hall j this, if_pos rfl]
      cases hsj : ss[j]? with
      | none => rfl
      | some sj =>
        unfold Spc.rsL Spc.last
        cases hl2 : sj.late with
        | none => simp [hl2]
        | some kr =>
          obtain ⟨k, r⟩ := kr
          have hk := (hL j sj k r hsj hl2).1
          simp [hl2, hall k (by omega)]
    have hsamf : ∀ (f : Spc → Value → List Fact), ((List.range free.length).flatMap fun i => if listed.getD i false then (match ss[i]? with | some s => f s (g i) | none => []) else []) = ((List.range free.length).flatMap fun i => if (Array.replicate free.length true).getD i false then (match ss[i]? with | some s => f s (g i) | none => []) else []) := by
      intro f
      refine flatMap_same _ _ _ fun j hj => ?_
      have := List.mem_range.1 hj
      rw [hall j this]; simp [this]
    refine fin_use free ss L M R hl hfin g a w hJ.defers hJ.frame hnd (fun i o s e1 e2 => hg i o s e1 e2 (hall i (List.getElem?_eq_some_iff.1 e1).1)) ?_
    rw [hsame] at hS
    have hf : fctOf ss listed g free.length = fctOf ss (Array.replicate free.length true) g free.length := hsamf Spc.fs
    rw [hf] at hS
    exact hS
  | succ fuel ih =>
    intro listed a w hJ hu
    by_cases hall : ∀ i, i < free.length → listed.getD i false = true
    · obtain ⟨g, hg, hS⟩ := hJ.vals
      refine wpAnyE_tail (by simpa using hback) (by simpa using hen) ((free ++ tail).length - free.length) free.length (fuel + 1) listed a w (by simp) (Nat.le_trans (unl_ge (fun i h1 h2 => hJ.late i h1 (by simpa using h2))) hu) hJ.size hJ.closed hall (fun i h1 h2 => hJ.late i h1 h2) hmask ?_
      have hd : ((free ++ tail).toArray).toList.drop free.length = tail := by simp
      rw [hd]
      have hsame : resOf ss listed g free.length = lastOf ss g free.length := by
        refine flatMap_same _ _ _ fun j hj => ?_
        have := List.mem_range.1 hj
        rw [hall j this, if_pos rfl]
        cases hsj : ss[j]? with
        | none => rfl
        | some sj =>
          unfold Spc.rsL Spc.last
          cases hl2 : sj.late with
          | none => simp [hl2]
          | some kr =>
            obtain ⟨k, r⟩ := kr
            have hk := (hL j sj k r hsj hl2).1
            simp [hl2, hall k (by omega)]
      have hsamf : ∀ (f : Spc → Value → List Fact), ((List.range free.length).flatMap fun i => if listed.getD i false then (match ss[i]? with | some s => f s (g i) | none => []) else []) = ((List.range free.length).flatMap fun i => if (Array.replicate free.length true).getD i false then (match ss[i]? with | some s => f s (g i) | none => []) else []) := by
        intro f
        refine flatMap_same _ _ _ fun j hj => ?_
        have := List.mem_range.1 hj
        rw [hall j this]; simp [this]
      refine fin_use free ss L M R hl hfin g a w hJ.defers hJ.frame hnd (fun i o s e1 e2 => hg i o s e1 e2 (hall i (List.getElem?_eq_some_iff.1 e1).1)) ?_
      rw [hsame] at hS
      have hf : fctOf ss listed g free.length = fctOf ss (Array.replicate free.length true) g free.length := hsamf Spc.fs
      rw [hf] at hS
      exact hS
    · have hex : ∃ i, i < free.length ∧ listed.getD i false = false := by
        apply Classical.byContradiction
        intro hne
        refine hall fun i hi => ?_
        cases h : listed.getD i false
        · exact absurd ⟨i, hi, h⟩ hne
        · rfl
      obtain ⟨k, ⟨hk, hkf⟩, hkm⟩ := least hex
      have hkt : listed.getD k true = false := by
        have : k < listed.size := by rw [hJ.size]; simp; omega
        simp [this] at hkf ⊢; exact hkf
      have hready : k ∈ Region.ready .any (free ++ tail).toArray listed := by
        refine mem_ready.2 ⟨hkt, (free ++ tail)[k]'(by simp; omega), by simp [List.getElem?_eq_getElem (show k < (free ++ tail).length by simp; omega)], fun e he hbi => ?_⟩
        have hlt := hbk k _ (by simp [List.getElem?_eq_getElem (show k < (free ++ tail).length by simp; omega)]) e he hbi
        cases h : listed.getD e.on false
        · exact absurd ⟨by omega, h⟩ (hkm e.on hlt)
        · rfl
      refine ⟨fun _ => (by obtain ⟨g, _, hS⟩ := hJ.vals; exact hZ _ _ w hS), fun h0 => (by rw [h0] at hready; cases hready), fun i hi => ?_⟩
      obtain ⟨h0, o, hoi, hp⟩ := mem_ready.1 hi
      have him : i < free.length := by
        rcases Nat.lt_or_ge i free.length with h' | h'
        · exact h'
        · have := hmask listed hJ.closed i o h' hoi hp k (by omega)
          rw [hkf] at this; cases this
      refine par_step (by simp only [parB, Bool.and_eq_true]; exact ⟨⟨⟨⟨hns, hfree⟩, hnd0⟩, hback⟩, htail⟩) hl hfr hL hab hstep hJ hi him _ fun a' w' hJ' => ih _ _ _ hJ' ?_
      have hsz : listed.size = (free ++ tail).length := by rw [hJ.size]; simp
      have := unl_set (N := (free ++ tail).length) (i := i) (by have := (List.getElem?_eq_some_iff.1 (show (free ++ tail)[i]? = some o by simpa using hoi)).1; omega) hsz h0
      omega
theorem floatE_any {fl : List Nat} {m : Nat} {l : List Oper} : ∀ (fuel : Nat) (listed : Array Bool) (a : Act) (w : World), (∀ i ∈ fl, listed.getD i false = true) → wpAnyE en Z P (floatL fl m l).toArray Q fuel listed a w → wpAnyE en Z P l.toArray Q fuel listed a w
  | 0, listed, a, w, hi, h => by
    refine ⟨h.1, ?_, h.2.2⟩
    cases hr : Region.ready .any l.toArray listed with
    | nil => rfl
    | cons x xs =>
      have : x ∈ Region.ready .any (floatL fl m l).toArray listed := (float_ready hi).2 (by rw [hr]; simp)
      rw [h.2.1] at this; cases this
  | fuel + 1, listed, a, w, hi, h => by
    refine ⟨h.1, fun hr => h.2.1 ?_, fun j hj => float_op (wpOp_mono (fun a' w' h' => floatE_any fuel _ a' w' (fun i hi' => getD_set_true (hi i hi')) h') (h.2.2 j ((float_ready hi).2 hj)))⟩
    cases hr' : Region.ready .any (floatL fl m l).toArray listed with
    | nil => rfl
    | cons x xs =>
      have : x ∈ Region.ready .any l.toArray listed := (float_ready hi).1 (by rw [hr']; simp)
      rw [hr] at this; cases this
theorem floatE_all {fl : List Nat} {m : Nat} {l : List Oper} (hZ : ∀ X F w, St W (X ++ M) (F ++ R) w → Z w) (hme : m ≤ en) (hen : en < l.length) (hwt : ∀ i ∈ fl, ∀ oe, l[en]? = some oe → ∃ ed ∈ oe.after, Region.binds .any ed = true ∧ ed.on = i) (hml : m ≤ l.length) {ss : List Spc} (hpb : parB ((floatL fl m l).take m) ((floatL fl m l).drop m) = true) (hlen : ss.length = ((floatL fl m l).take m).length) (hfr : ∀ o ∈ (floatL fl m l).take m, look L (o.dst.getD 1000000) = none) (hL : LateOK (floatL fl m l).toArray ss)
    (hab : ∀ (i : Nat) (s : Spc) (c : List PanicEntry), ss[i]? = some s → s.ab = some c → Imp W n D L M R (NoP Q (.panic c)))
    (hstep : ∀ i o s, ((floatL fl m l).take m)[i]? = some o → ss[i]? = some s → Step1 P W n M R (floatL fl m l).toArray ss i o s (detL (((floatL fl m l).take m).take i) (ss.take i) L))
    (hfin : Fin W n D (wpListE Z P (floatL fl m l).toArray (NoP Q) ((floatL fl m l).drop m)) ((floatL fl m l).take m) ss L M R)
    (hfl : FlZ Z P n L ((floatL fl m l).take m) ss fl) (hns : Region.noSelect l.toArray = true) (hbk : backB l = true) (htl : tailF fl (masks l []) m l.length = true) (hfs : freesB l fl = true) :
    ∀ (fuel : Nat) (listed : Array Bool) (a : Act) (w : World), J W n D L M R (floatL fl m l).toArray ((floatL fl m l).take m) ss listed a w → unl l.length listed ≤ fuel → wpAnyE en Z P l.toArray (NoP Q) fuel listed a w := by
  have hflat := hfl.at
  have hFat := floatL_at fl m l
  have hFlen := floatL_len fl m l
  generalize hF : floatL fl m l = F at *
  have hsplit : F.take m ++ F.drop m = F := List.take_append_drop m F
  have hmF : (F.take m).length = m := by rw [List.length_take]; omega
  have hlow : ∀ j, j < m → F[j]? = l[j]? := fun j hj => by
    rw [hFat j]; cases l[j]? with
    | none => rfl
    | some o => simp [hj]
  have hfree : ∀ j, j < m → (F.take m)[j]? = l[j]? := fun j hj => by rw [List.getElem?_take, if_pos hj, hlow j hj]
  have hlate : LateOK (F.take m ++ F.drop m).toArray ss := by rw [hsplit]; exact hL
  have hst' : ∀ i o s, (F.take m)[i]? = some o → ss[i]? = some s → Step1 P W n M R (F.take m ++ F.drop m).toArray ss i o s (detL ((F.take m).take i) (ss.take i) L) := by rw [hsplit]; exact hstep
  have hclosed : ∀ listed, Closed F.toArray listed → Closed l.toArray listed := fun listed hc j o ho hj e he hb => by
    have ho : l[j]? = some o := by simpa using ho
    refine hc j (if j < m then o else addE fl o) (by rw [List.getElem?_toArray, hFat, ho]; rfl) hj e ?_ hb
    split
    · exact he
    · unfold addE; exact Array.mem_append_left _ he
  have hback : ∀ i o, l[i]? = some o → ∀ e ∈ o.after, Region.binds .any e = true → e.on < i := by
    intro i o ho e he hbi
    have hlt : i < l.length := (List.getElem?_eq_some_iff.1 ho).1
    have := List.all_eq_true.1 hbk i (List.mem_range.2 hlt)
    rw [ho] at this
    have := Array.all_eq_true_iff_forall_mem.1 this e he
    simpa [hbi] using this
  intro fuel
  induction fuel with
  | zero =>
    intro listed a w hJ hu
    have hsz : listed.size = l.length := by rw [hJ.size]; simp [hFlen]
    have hall : ∀ i ∈ fl, listed.getD i false = true := fun i hi => by
      obtain ⟨o, v, d, ho, _⟩ := hflat i hi
      have hi' : i < m := by have := (List.getElem?_eq_some_iff.1 ho).1; omega
      cases h : listed.getD i true with
      | true =>
        have : i < listed.size := by omega
        simp [this] at h ⊢; exact h
      | false =>
        have := unl_set (N := l.length) (i := i) (by omega) hsz h
        omega
    refine floatE_any (fl := fl) (m := m) 0 listed a w hall ?_
    rw [hF, ← hsplit]
    replace hJ : J W n D L M R (F.take m ++ F.drop m).toArray (F.take m) ss listed a w := by rw [hsplit]; exact hJ
    exact parE_any hZ (by rw [hsplit, hFlen]; exact hen) hpb hlen hfr hlate hab hst' (by rw [hsplit]; exact hfin) 0 listed a w hJ (by rw [hsplit, hFlen]; exact hu)
  | succ fuel ih =>
    intro listed a w hJ hu
    have hsz : listed.size = l.length := by rw [hJ.size]; simp [hFlen]
    have hboth : ∀ j, j < l.length → listed.getD j true = listed.getD j false := fun j hj => by
      have : j < listed.size := by omega
      simp [this]
    by_cases hall : ∀ i ∈ fl, listed.getD i false = true
    · refine floatE_any (fl := fl) (m := m) (fuel + 1) listed a w hall ?_
      rw [hF, ← hsplit]
      replace hJ : J W n D L M R (F.take m ++ F.drop m).toArray (F.take m) ss listed a w := by rw [hsplit]; exact hJ
      exact parE_any hZ (by rw [hsplit, hFlen]; exact hen) hpb hlen hfr hlate hab hst' (by rw [hsplit]; exact hfin) (fuel + 1) listed a w hJ (by rw [hsplit, hFlen]; exact hu)
    · by_cases hrd : ∃ i ∈ fl, i ∈ Region.ready .any l.toArray listed
      · obtain ⟨i, hi, hir⟩ := hrd
        obtain ⟨o, v, d, ho, hs, hg, hdst, hdn, hpure⟩ := hflat i hi
        have him : i < m := by have := (List.getElem?_eq_some_iff.1 ho).1; omega
        have hol : l[i]? = some o := by rw [← hfree i him]; exact ho
        obtain ⟨h0, o', ho', hp⟩ := mem_ready.1 hir
        have ho' : l[i]? = some o' := by simpa using ho'
        rw [hol] at ho'; cases ho'
        have hJ' : J W n D L M R (F.take m ++ F.drop m).toArray (F.take m) ss listed a w := by rw [hsplit]; exact hJ
        obtain ⟨a', g, f1, hex, hgv, hS⟩ := frame_at hpb hlen hfr hlate hab hst' hJ' ho hp
        have hirF : i ∈ Region.ready .any (F.take m ++ F.drop m).toArray listed := by
          rw [hsplit]
          exact mem_ready.2 ⟨h0, o, by rw [List.getElem?_toArray, hlow i him]; exact hol, hp⟩
        have hy : YieldsZ Z P l.toArray o v a := ⟨by simp [Region.wanted, hg], fun w hz => by rw [hex]; exact hpure a' f1 w hz⟩
        refine wpAnyE_first (i := i) (oi := o) (v := v) (by simpa using hol) (Region.noSelect_spec hns) (by omega) (fun oe hoe => hwt i hi oe (by simpa using hoe)) fuel listed a w (freeAt_spec hol (List.all_eq_true.1 hfs i hi) hp) hir (getD_both (hJ.late en (by rw [hmF]; exact hme) (by simp [hFlen]; omega))) hy ?_
        · have hnd : Inj (F.take m) := by
            simp only [parB, Bool.and_eq_true] at hpb
            exact injB_sound hpb.1.1.2
          have hset : (resOf ss listed g (F.take m).length ++ M).Perm (restOf ss listed g (F.take m).length i ++ M) := by
            refine List.Perm.append_right M (List.Perm.of_eq ?_)
            refine flatMap_same _ _ _ fun j hj => ?_
            by_cases e : j = i
            · subst e
              have : listed.getD j false = false := by rw [← hboth j (by omega)]; exact h0
              rw [if_pos rfl, this, hs]; rfl
            · rw [if_neg e]
          have hJn := hJ.next (v := v) (o := o) (s := Spc.q v) (i := i) (w' := w) hnd hfr (by simp [hFlen, hmF]; omega) (by rw [← hsplit]; exact hirF) (by rw [List.getElem?_toArray, hlow i him]; exact hol) ho hs (by rw [hdst]; exact hdn) rfl rfl hL hgv (hS.perm hset)
          refine ih _ _ _ hJn ?_
          have := unl_set (N := l.length) (i := i) (by omega) hsz h0
          omega
      · have hex : ∃ i, (i ∈ fl ∧ listed.getD i false = false) := by
          apply Classical.byContradiction
          intro hne
          refine hall fun i hi => ?_
          cases h : listed.getD i false
          · exact absurd ⟨i, hi, h⟩ hne
          · rfl
        obtain ⟨k, ⟨hk, hkf⟩, hkm⟩ := least hex
        obtain ⟨ok, vk, dk, hok, _⟩ := hflat k hk
        have hkm' : k < m := by have := (List.getElem?_eq_some_iff.1 hok).1; omega
        have hokl : l[k]? = some ok := by rw [← hfree k hkm']; exact hok
        have hlt : ∀ j, j ∈ Region.ready .any l.toArray listed → j < m := by
          intro j hj
          rcases Nat.lt_or_ge j m with h | h
          · exact h
          · exfalso
            obtain ⟨j0, o, hoj, hp⟩ := mem_ready.1 hj
            have hoj' : l[j]? = some o := by simpa using hoj
            have hjl : j < l.length := (List.getElem?_eq_some_iff.1 hoj').1
            have h1 := List.all_eq_true.1 htl j (List.mem_range.2 hjl)
            simp only [Bool.or_eq_true] at h1
            have hnon : ∀ t, t < j → t ∉ fl → listed.getD t false = true := fun t ht hnf => by
              rcases h1 with h1 | h1
              · have : j < m := by simpa using h1
                omega
              · have h2 := List.all_eq_true.1 h1 t (List.mem_range.2 ht)
                simp only [Bool.or_eq_true, List.contains_eq_mem, decide_eq_true_eq] at h2
                rcases h2 with h2 | h2
                · exact absurd h2 hnf
                · exact (masks_sound (ops := l.toArray) (hclosed listed hJ.closed) l [] (fun j => by simp) (fun i hi => by simp at hi)).1 j o (Nat.zero_le _) hoj hp t h2
            refine hrd ⟨k, hk, mem_ready.2 ⟨by rw [hboth k (by omega)]; exact hkf, ok, by simpa using hokl, fun e he hb => ?_⟩⟩
            have hek := hback k ok hokl e he hb
            by_cases hef : e.on ∈ fl
            · cases h : listed.getD e.on false
              · exact absurd ⟨hef, h⟩ (hkm e.on hek)
              · rfl
            · exact hnon e.on (by omega) hef
        refine ⟨fun _ => (by obtain ⟨g, _, hS⟩ := hJ.vals; exact hZ _ _ w hS), fun hr => ?_, fun j hj => ?_⟩
        · exfalso
          have hex2 : ∃ t, t < l.length ∧ listed.getD t false = false := ⟨k, by omega, hkf⟩
          obtain ⟨t, ⟨ht, htf⟩, htm⟩ := least hex2
          have : t ∈ Region.ready .any l.toArray listed := mem_ready.2 ⟨by rw [hboth t ht]; exact htf, l[t], by simp, fun e he hb => by
            have hlt2 := hback t l[t] (List.getElem?_eq_getElem ht) e he hb
            cases h : listed.getD e.on false
            · exact absurd ⟨by omega, h⟩ (htm e.on hlt2)
            · rfl⟩
          rw [hr] at this; cases this
        · have hjm := hlt j hj
          obtain ⟨j0, o, hoj, hp⟩ := mem_ready.1 hj
          have hoj' : l[j]? = some o := by simpa using hoj
          refine float_op (fl := fl) (m := m) ?_
          rw [hF, ← hsplit]
          replace hJ : J W n D L M R (F.take m ++ F.drop m).toArray (F.take m) ss listed a w := by rw [hsplit]; exact hJ
          refine par_step hpb hlen hfr hlate hab hst' hJ (mem_ready.2 ⟨j0, o, ?_, hp⟩) (by omega) _ fun a' w' hJ' => ih _ _ _ (by rw [hsplit] at hJ'; exact hJ') ?_
          · rw [List.getElem?_toArray, hsplit, hlow j hjm]; exact hoj'
          · have := unl_set (N := l.length) (i := j) (by have := (List.getElem?_eq_some_iff.1 hoj').1; omega) hsz j0
            omega
theorem r_parE (en : Nat) {id : Nat} {l : List Oper} (Z : World → Prop) (hZ : ∀ X F w, St W (X ++ M) (F ++ R) w → Z w) (fl : List Nat) (m : Nat) (hme : Nat.ble m en = true) (hen : Nat.blt en l.length = true) (hwt : waitsE fl l en = true) (hml : Nat.ble m l.length = true) (hns : Region.noSelect l.toArray = true) (hbk : backB l = true) (htl : tailF fl (masks l []) m l.length = true) (hfs : freesB l fl = true)
    (hm : P.follows .mixedOrders = true) (hpb : parB ((floatL fl m l).take m) ((floatL fl m l).drop m) = true) (hfr : freshB L ((floatL fl m l).take m) = true)
    (h : ParO P W n M R (floatL fl m l).toArray (fun ss => FlZ Z P n L ((floatL fl m l).take m) ss fl ∧ preOf ss = [] ∧ lateX (floatL fl m l).toArray ss = true ∧ Fin W n D (wpListE Z P (floatL fl m l).toArray (NoP Q) ((floatL fl m l).drop m)) ((floatL fl m l).take m) ss L M R) ((floatL fl m l).take m) [] L) : Imp W n D L M R ((Code.region id l.toArray true).wp P Q) := by
  have hml : m ≤ l.length := by simpa using hml
  intro a w h1 h2 h3
  refine Code.wp_mono (Q := NoP Q) (fun e a' w' he => ?_) ?_
  · cases e with
    | normal => exact he
    | _ => exact he.elim
  refine wp_region_any hm ?_
  obtain ⟨ss, hl, ⟨hsi, hpre, hlx, hfin⟩, hs⟩ := ParO.out ((floatL fl m l).take m) [] L h
  rw [List.nil_append] at hsi hpre hlx hfin
  have hLB : lateB (floatL fl m l).toArray ss 0 ss = true := by simp only [lateX, Bool.and_eq_true] at hlx; exact hlx.1
  have hlk : ∀ o ∈ (floatL fl m l).take m, look L (o.dst.getD 1000000) = none := fun o ho => by
    have := List.all_eq_true.1 hfr o ho
    simpa using this
  refine (floatE_all (en := en) hZ (by simpa using hme) (by simpa using hen) (waitsE_sound hwt) hml hpb hl hlk (lateOK_of hLB) (fun k s c e1 e2 => (lateX_ab hlx k s c e1 e2).elim) (fun k o s e1 e2 => by
    have := hs k o s e1 e2
    rw [List.nil_append, List.length_nil, Nat.zero_add] at this
    exact this) hfin hsi hns hbk htl hfs _ _ _ _ ⟨?_, ?_, ?_, h1, h2, fun _ => undef, ?_, ?_⟩ ?_).any
  · simp [floatL_len]
  · intro j o _ hj
    rw [rep_false] at hj; cases hj
  · intro t _ ht
    have : t < l.length := by simpa [floatL_len] using ht
    simp [this]
  · intro i o s e1 _ hj
    rw [rep_false] at hj; cases hj
  · have e1 : resOf ss (Array.replicate l.toArray.size false) (fun _ => undef) ((floatL fl m l).take m).length = [] := by
      rw [← hpre, ← preOf_range, hl]
      refine flatMap_same _ _ _ fun j hj => ?_
      rw [rep_false]; rfl
    have e2 : ∀ k, fctOf ss (Array.replicate l.toArray.size false) (fun _ => undef) k = [] := by
      intro k
      unfold fctOf
      induction k with
      | zero => rfl
      | succ k ih => rw [List.range_succ, List.flatMap_append, ih, List.nil_append, List.flatMap_cons, List.flatMap_nil, List.append_nil, rep_false]; rfl
    rw [e1, e2]
    exact h3.heap rfl rfl rfl rfl
  · have := unl_tail (N := l.length) (m := 0) (listed := Array.replicate l.length false) (fun i hi => by omega)
    simpa using this
end Go.G


namespace Go.Proofs.YtpfgiednfjfdmaaDoor
open Go.G Debt10
set_option maxRecDepth 1000000
attribute [local irreducible] G.ParO G.Fin
variable (D : Debt) (uo po : Option Addr) (uc pc : Nat)
set_option maxHeartbeats 4000000 in
theorem next_m (l : List Opn) (b : Nat) (A br ow : Int) (who : Int) (d : Nat) (hn6 : D.dues.length ≤ 6) : FnM Tryd.prog 105 [valD D uo po uc pc, .agg (([.slice (some ⟨b, 0, none⟩) D.dues.length D.dues.length, i64 A, i64 br, i64 ow] : List Value)).toArray, i64 who, i64 (d : Int)] (bx b 3 ((arrL l D.dues.length).flatMap encI)) [rowD uo 5 encD D.dues, rowD po 4 encP D.paid] (fun u => u = i64 (nextV (nextTo D who d (valF l) D.dues.length))) := by
 refine FnM.intro Tryd.call105 Tryd.func105 rfl Tryd.ntmps105 rfl ?_
 intro W M Rf
 refine r_seq ?_
 refine r_region ?_
 refine o_boxA rfl rfl rfl rfl rfl (fun b4 => ?_)
 refine o_boxA rfl rfl rfl rfl rfl (fun b5 => ?_)
 refine o_q _ rfl rfl rfl (v_assign rfl rfl) ?_
 refine o_nil ?_
 with_reducible refine r_then ?_
 refine r_seq ?_
 refine r_region ?_
 refine o_q _ rfl rfl rfl (v_assign rfl rfl) ?_
 refine o_nil ?_
 with_reducible refine r_then ?_
 refine r_seq ?_
 refine r_seq ?_
 refine r_region ?_
 refine o_q _ rfl rfl rfl (v_assign rfl rfl) ?_
 refine o_nil ?_
 with_reducible refine r_then ?_
 refine r_block ?_
 refine r_loop (ι := Nat) (fun k => k ≤ D.dues.length) (fun k => [(2, i64 who), (3, i64 (d : Int)), (4, pt b4 0), (5, pt b5 0), (9, i64 (nextV (nextTo D who d (valF l) k))), (10, i64 (k : Int))]) (fun k => bx b5 81 [.slice (some ⟨b, 0, none⟩) D.dues.length D.dues.length, i64 A, i64 br, i64 ow] :: bx b4 25 (cellsD D uo po uc pc) :: bx b 3 ((arrL l D.dues.length).flatMap encI) :: M) (fun k => [rowD uo 5 encD D.dues, rowD po 4 encP D.paid] ++ Rf) (fun k => D.dues.length - k) 0 ?_ ?_ ?_
 ·
  refine Imp.box_to b5 [.slice (some ⟨b, 0, none⟩) D.dues.length D.dues.length, i64 A, i64 br, i64 ow] rfl ?_
  exact r_here (by (repeat (first | exact FSub.nil | refine FSub.cons rfl ?_)); first | done | fail) SelMC.sel SubRC.sub
 ·
  omega
 ·
  rintro k hI0
  refine r_seq ?_
  refine r_seq ?_
  refine r_region ?_
  refine o_q _ rfl rfl rfl (v_move rfl rfl) ?_
  refine o_q _ rfl rfl rfl (v_fieldAddr rfl Tryd.underlying25 inf22 rfl rfl rfl rfl) ?_
  refine o_q _ rfl rfl rfl (v_ld1 rfl Tryd.underlying22 rfl rfl rfl) ?_
  refine o_q _ rfl rfl rfl (v_len rfl rfl Tryd.underlying22 rfl) ?_
  refine o_q _ rfl rfl rfl (v_lss rfl rfl rfl) ?_
  refine o_nil ?_
  with_reducible refine r_then ?_
  refine r_condd rfl (fun hc16 => ?_) (fun hc16 => ?_)
  ·
   refine r_skip ?_
   with_reducible refine r_then ?_
   refine r_seq ?_
   refine r_block ?_
   refine r_seq ?_
   refine r_region ?_
   refine o_q _ rfl rfl rfl (v_fieldAddr rfl Tryd.underlying25 inf22 rfl rfl rfl rfl) ?_
   refine o_q _ rfl rfl rfl (v_ld1 rfl Tryd.underlying22 rfl rfl rfl) ?_
   refine o_q _ rfl rfl rfl (v_move rfl rfl) ?_
   refine o_q _ rfl rfl rfl (v_indexAddrSn rfl Tryd.underlying22 inf62 rfl rfl rfl (by omega) rfl) ?_
   refine o_q _ rfl rfl rfl (v_loadEN (us := encD (D.dues.getD k default)) rfl Tryd.underlying62 rfl inf62 rfl (by omega) rfl rfl rfl) ?_
   refine o_alloc rfl inf62 rfl rfl rfl rfl rfl (fun b11 => ?_)
   refine o_st rfl inf62 rfl rfl rfl rfl rfl rfl rfl rfl ?_
   refine o_nil ?_
   with_reducible refine r_then ?_
   refine r_seq ?_
   refine Imp.box_to b11 (encD (D.dues.getD k default)) rfl ?_
   have hnx : (nextTo D who d (valF l) k) = (nextTo D who d (valF l) k) := rfl
   obtain ⟨r, hr⟩ : ∃ r, (nextTo D who d (valF l) k) = r := ⟨_, rfl⟩
   rw [hr]
   obtain rfl | ⟨bb, rfl⟩ : r = none ∨ ∃ bb, r = some bb := by cases r with | none => exact .inl rfl | some bb => exact .inr ⟨bb, rfl⟩
   all_goals
   try have hnb := (next_some hr).1.1
   have hv0 : nextV none = -1 := rfl
   try have hv1 : nextV (some bb) = (bb : Int) := rfl
   refine r_region_q mixed (by kernel_rfl) ?_
   refine q_q _ rfl rfl rfl (v_fieldAddr rfl Tryd.underlying62 inf3 rfl rfl rfl rfl) ?_
   refine q_q _ rfl rfl rfl (v_ld1 rfl Tryd.underlying3 rfl rfl rfl) ?_
   refine q_q _ rfl rfl rfl (v_move rfl rfl) ?_
   refine q_test rfl rfl rfl (v_eql rfl rfl rfl) (fun h27 => ?_) (fun h27 => ?_)
   all_goals
    refine q_q _ rfl rfl rfl (v_move rfl rfl) ?_
    first | refine q_gn rfl rfl rfl rfl ?_ | refine q_g _ rfl rfl rfl rfl (v_fieldAddr rfl Tryd.underlying62 inf3 rfl rfl rfl rfl) ?_
    first | refine q_gn rfl rfl rfl rfl ?_ | refine q_g _ rfl rfl rfl rfl (v_ld1 rfl Tryd.underlying3 rfl rfl rfl) ?_
    first | refine q_gn rfl rfl rfl rfl ?_ | refine q_g _ rfl rfl rfl rfl (v_move rfl rfl) ?_
    first | refine q_gn rfl rfl rfl rfl ?_ | refine q_gtest rfl rfl rfl rfl (v_leq rfl rfl rfl) (fun h32 => ?_) (fun h32 => ?_)
    all_goals
     first | refine q_q _ rfl rfl rfl (v_pick_t rfl rfl rfl) ?_ | refine q_q _ rfl rfl rfl (v_pick_f rfl rfl rfl) ?_
     refine q_q _ rfl rfl rfl (v_move rfl rfl) ?_
     first | refine q_gn rfl rfl rfl rfl ?_ | refine q_g _ rfl rfl rfl rfl (v_fieldAddr rfl Tryd.underlying81 inf41 rfl rfl rfl rfl) ?_
     first | refine q_gn rfl rfl rfl rfl ?_ | refine q_g _ rfl rfl rfl rfl (v_ld1 rfl Tryd.underlying41 rfl rfl rfl) ?_
     first | refine q_gn rfl rfl rfl rfl ?_ | refine q_g _ rfl rfl rfl rfl (v_move rfl rfl) ?_
     first | refine q_gn rfl rfl rfl rfl ?_ | refine q_g _ rfl rfl rfl rfl (v_indexAddrB rfl Tryd.underlying41 inf3 rfl rfl (by omega)) ?_
     first | refine q_gn rfl rfl rfl rfl ?_ | refine q_g _ rfl rfl rfl rfl (v_cast (v := i64 (valF l k)) (v_ld1 rfl Tryd.underlying3 rfl rfl (boxI_get (by rw [arr_len]; omega))) (i64c ((arr_at (by omega)).trans (rfl)))) ?_
     first | refine q_gn rfl rfl rfl rfl ?_ | refine q_gtest rfl rfl rfl rfl (v_gtr rfl rfl rfl) (fun h40 => ?_) (fun h40 => ?_)
     all_goals
      first | refine q_q _ rfl rfl rfl (v_pick_t rfl rfl rfl) ?_ | refine q_q _ rfl rfl rfl (v_pick_f rfl rfl rfl) ?_
      refine q_q _ rfl rfl rfl (v_move rfl rfl) ?_
      first | refine q_gn rfl rfl rfl rfl ?_ | refine q_g _ rfl rfl rfl rfl (v_move rfl rfl) ?_
      first | refine q_gn rfl rfl rfl rfl ?_ | refine q_g _ rfl rfl rfl rfl (v_true (v_lss rfl rfl rfl) (by omega)) ?_ | refine q_g _ rfl rfl rfl rfl (v_false (v_lss rfl rfl rfl) (by omega)) ?_
      all_goals
       first | refine q_gn rfl rfl rfl rfl ?_ | refine q_g _ rfl rfl rfl rfl (v_move rfl rfl) ?_
       first | refine q_gn rfl rfl rfl rfl ?_ | refine q_g _ rfl rfl rfl rfl (v_fieldAddr rfl Tryd.underlying62 inf3 rfl rfl rfl rfl) ?_
       first | refine q_gn rfl rfl rfl rfl ?_ | refine q_g _ rfl rfl rfl rfl (v_ld1 rfl Tryd.underlying3 rfl rfl rfl) ?_
       first | refine q_gn rfl rfl rfl rfl ?_ | refine q_g _ rfl rfl rfl rfl (v_fieldAddr rfl Tryd.underlying25 inf22 rfl rfl rfl rfl) ?_
       first | refine q_gn rfl rfl rfl rfl ?_ | refine q_g _ rfl rfl rfl rfl (v_ld1 rfl Tryd.underlying22 rfl rfl rfl) ?_
       first | refine q_gn rfl rfl rfl rfl ?_ | refine q_g _ rfl rfl rfl rfl (v_move rfl rfl) ?_
       first | refine q_gn rfl rfl rfl rfl ?_ | refine q_g _ rfl rfl rfl rfl (v_indexAddrSn (k := bb) rfl Tryd.underlying22 inf62 rfl rfl rfl (by omega) rfl) ?_
       first | refine q_gn rfl rfl rfl rfl ?_ | refine q_g _ rfl rfl rfl rfl (v_fieldAddr rfl Tryd.underlying62 inf3 rfl rfl rfl rfl) ?_
       first | refine q_gn rfl rfl rfl rfl ?_ | refine q_g _ rfl rfl rfl rfl (v_loadE1 rfl Tryd.underlying3 rfl rfl (by omega) rfl rfl) ?_
       first | refine q_gn rfl rfl rfl rfl ?_ | refine q_gtest rfl rfl rfl rfl (v_lss rfl rfl rfl) (fun h54 => ?_) (fun h54 => ?_)
       all_goals
        first | refine q_gn rfl rfl rfl rfl ?_ | refine q_g _ rfl rfl rfl rfl (v_pick_t rfl rfl rfl) ?_ | refine q_g _ rfl rfl rfl rfl (v_pick_f rfl rfl rfl) ?_
        first | refine q_q _ rfl rfl rfl (v_pick_t rfl rfl rfl) ?_ | refine q_q _ rfl rfl rfl (v_pick_f rfl rfl rfl) ?_
        refine q_nil ?_
        with_reducible refine r_then ?_
        refine r_cond rfl (fun hc56 => ?_) (fun hc56 => ?_)
        ·
         first
         | (exfalso; revert hc56; decide)
         |
          skip
          refine r_region ?_
          refine o_q _ rfl rfl rfl (v_move rfl rfl) ?_
          refine o_q _ rfl rfl rfl (v_assign rfl rfl) ?_
          refine o_nil ?_
          with_reducible refine r_in_normal ?_; refine r_then ?_
          refine r_region ?_
          refine o_q _ rfl rfl rfl (v_move rfl rfl) ?_
          refine o_q _ rfl rfl rfl (v_add rfl rfl rfl (by omega)) ?_
          refine o_q _ rfl rfl rfl (v_assign rfl rfl) ?_
          refine o_nil ?_
          with_reducible refine r_then ?_
          exact r_next (k + 1) (by exact r_here (by (repeat (first | exact FSub.nil | refine FSub.cons rfl ?_ | refine FSub.cons2 rfl (i64c (by rw [next_y ⟨⟨by omega, by omega⟩, by omega⟩ (.inl hr)]; rfl)) ?_ | refine FSub.cons2 rfl (i64c (by rw [next_y ⟨⟨by omega, by omega⟩, by omega⟩ (.inr ⟨_, hr, by omega⟩)]; rfl)) ?_ | refine FSub.cons2 rfl (i64c (by rw [next_n1 (fun hc => by obtain ⟨⟨h1, h2⟩, h3⟩ := hc; omega), hr])) ?_ | refine FSub.cons2 rfl (i64c (by rw [next_n2 hr (by omega), hr])) ?_)); first | done | fail) SelMC.sel SubRC.sub) (by first | omega | (show _ + 1 ≤ _; omega)) (by first | omega | (show _ - (_ + 1) < _ - _; omega))
        ·
         first
         | (exfalso; revert hc56; decide)
         |
          skip
          refine r_skip ?_
          with_reducible refine r_in_normal ?_; refine r_then ?_
          refine r_region ?_
          refine o_q _ rfl rfl rfl (v_move rfl rfl) ?_
          refine o_q _ rfl rfl rfl (v_add rfl rfl rfl (by omega)) ?_
          refine o_q _ rfl rfl rfl (v_assign rfl rfl) ?_
          refine o_nil ?_
          with_reducible refine r_then ?_
          exact r_next (k + 1) (by exact r_here (by (repeat (first | exact FSub.nil | refine FSub.cons rfl ?_ | refine FSub.cons2 rfl (i64c (by rw [next_y ⟨⟨by omega, by omega⟩, by omega⟩ (.inl hr)]; rfl)) ?_ | refine FSub.cons2 rfl (i64c (by rw [next_y ⟨⟨by omega, by omega⟩, by omega⟩ (.inr ⟨_, hr, by omega⟩)]; rfl)) ?_ | refine FSub.cons2 rfl (i64c (by rw [next_n1 (fun hc => by obtain ⟨⟨h1, h2⟩, h3⟩ := hc; omega), hr])) ?_ | refine FSub.cons2 rfl (i64c (by rw [next_n2 hr (by omega), hr])) ?_)); first | done | fail) SelMC.sel SubRC.sub) (by first | omega | (show _ + 1 ≤ _; omega)) (by first | omega | (show _ - (_ + 1) < _ - _; omega))
  ·
   refine r_exit ?_
   with_reducible refine r_then_exit ?_; refine r_then_exit ?_; refine r_in_here ?_; refine r_then ?_
   refine r_seq ?_
   refine r_region ?_
   refine o_q _ rfl rfl rfl (v_move rfl rfl) ?_
   refine o_q _ rfl rfl rfl (v_assign rfl rfl) ?_
   refine o_nil ?_
   with_reducible refine r_then ?_
   refine r_ret ?_
   obtain rfl : k = D.dues.length := by omega
   exact r_retm (Rd.tmp rfl rfl) rfl SelMC.sel SubRC.sub
theorem float_subZ {P : Program} {n : Nat} {L : Tm} {o : Oper} {Z : World → Prop} {t u : TypeId} {x y : Operand} {b c : Int} (ho : o.op = .binOp .sub t x y u) (hx : ev L x = some (i64 b)) (hy : ev L y = some (i64 c)) (h : -9223372036854775808 ≤ b - c ∧ b - c ≤ 9223372036854775807) : ∀ a, FSat n L a → ∀ w, Z w → (execOp a.eval o).run P w = .ok (.value (i64 (b - c))) w := fun f h1 w _ => by
  have hw : IntKind.i64.wrap (b - c) = b - c := IntWalk.i64_in _ h
  simp [execOp, ho, h1.ev hx, h1.ev hy, eqGuard, binOp, Op.intArith, hw]
theorem pay_cases {D : Debt} {am pa : List Int} (hg : GoodD D) (h : TruD D am pa) (who : Int) (d : Nat) (hd : d ≤ 30) {q : Nat} (hq : q ≤ (lstT D am pa who d).length) : ¬ 0 < (stA (lstT D am pa who d) (bagT D am pa who d) q) ∨ (0 < (stA (lstT D am pa who d) (bagT D am pa who d) q) ∧ (nextTo D who d (valF (stP (lstT D am pa who d) (bagT D am pa who d) q)) D.dues.length = none ∧ (stP (lstT D am pa who d) (bagT D am pa who d) q) = (payF (lstT D am pa who d) (bagT D am pa who d)) ∧ (stA (lstT D am pa who d) (bagT D am pa who d) q) = (restF (lstT D am pa who d) (bagT D am pa who d)))) ∨ (0 < (stA (lstT D am pa who d) (bagT D am pa who d) q) ∧ ∃ (i q' : Nat) (L : Int), nextTo D who d (valF (stP (lstT D am pa who d) (bagT D am pa who d) q)) D.dues.length = some i ∧ i < D.dues.length ∧ q < q' ∧ q' ≤ (lstT D am pa who d).length ∧ valF (stP (lstT D am pa who d) (bagT D am pa who d) q) i = L ∧ (0 < L ∧ L ≤ 1000) ∧ (stA (lstT D am pa who d) (bagT D am pa who d) q') = (stA (lstT D am pa who d) (bagT D am pa who d) q) - min (stA (lstT D am pa who d) (bagT D am pa who d) q) L ∧ (arrL (stP (lstT D am pa who d) (bagT D am pa who d) q) D.dues.length).set i (L - min (stA (lstT D am pa who d) (bagT D am pa who d) q) L) = arrL (stP (lstT D am pa who d) (bagT D am pa who d) q') D.dues.length) := by
  by_cases c : 0 < (stA (lstT D am pa who d) (bagT D am pa who d) q)
  · rcases pay_round hg h who d hd hq c with r | ⟨i, q', L, r⟩
    · exact .inr (.inl ⟨c, r⟩)
    · exact .inr (.inr ⟨c, i, q', L, r⟩)
  · exact .inl c
set_option maxHeartbeats 4000000 in
theorem pay_c (am pa : List Int) (b : Nat) (br ow : Int) (hg : GoodD D) (h : TruD D am pa) (who : Int) (d : Nat) (hd : d ≤ 30) : FnC Tryd.prog 86 [valD D uo po uc pc, .agg ([.slice (some ⟨b, 0, none⟩) D.dues.length D.dues.length, i64 (bagT D am pa who d), i64 br, i64 ow] : List Value).toArray, i64 who, i64 (d : Int)] (bx b 3 ((arrL (lstT D am pa who d) D.dues.length).flatMap encI)) [rowD uo 5 encD D.dues, rowD po 4 encP D.paid] (.agg ([.slice (some ⟨b, 0, none⟩) D.dues.length D.dues.length, i64 (restF (lstT D am pa who d) (bagT D am pa who d)), i64 br, i64 ow] : List Value).toArray) (bx b 3 ((arrL (payF (lstT D am pa who d) (bagT D am pa who d)) D.dues.length).flatMap encI)) := by
 have hp1 := hg.np
 have hp2 := hg.nd
 have hp3 := hg.ny
 refine FnC.intro Tryd.call86 Tryd.func86 rfl Tryd.ntmps86 rfl ?_
 intro W M Rf
 refine r_seq ?_
 refine r_region ?_
 refine o_boxA rfl rfl rfl rfl rfl (fun b4 => ?_)
 refine o_boxA rfl rfl rfl rfl rfl (fun b5 => ?_)
 refine o_alloc rfl inf81 rfl rfl rfl rfl rfl (fun b8 => ?_)
 refine o_nil ?_
 with_reducible refine r_then ?_
 refine r_seq ?_
 refine r_block ?_
 refine r_loop (ι := Nat) (fun q => q ≤ (lstT D am pa who d).length) (fun q => [(2, i64 who), (3, i64 (d : Int)), (4, pt b4 0), (5, pt b5 0), (8, pt b8 0)]) (fun q => bx b 3 ((arrL (stP (lstT D am pa who d) (bagT D am pa who d) q) D.dues.length).flatMap encI) :: bx b5 81 [.slice (some ⟨b, 0, none⟩) D.dues.length D.dues.length, i64 (stA (lstT D am pa who d) (bagT D am pa who d) q), i64 br, i64 ow] :: bx b4 25 (cellsD D uo po uc pc) :: bx b8 81 [.slice none 0 0, i64 0, i64 0, i64 0] :: M) (fun q => [rowD uo 5 encD D.dues, rowD po 4 encP D.paid] ++ Rf) (fun q => (lstT D am pa who d).length - q) 0 ?_ ?_ ?_
 ·
  refine Imp.box_to b ((arrL (stP (lstT D am pa who d) (bagT D am pa who d) 0) D.dues.length).flatMap encI) rfl ?_
  refine Imp.box_to b5 [.slice (some ⟨b, 0, none⟩) D.dues.length D.dues.length, i64 (stA (lstT D am pa who d) (bagT D am pa who d) 0), i64 br, i64 ow] rfl ?_
  refine Imp.box_to b8 [.slice none 0 0, i64 0, i64 0, i64 0] rfl ?_
  exact r_here (by (repeat (first | exact FSub.nil | refine FSub.cons rfl ?_)); first | done | fail) SelMC.sel SubRC.sub
 ·
  exact Nat.zero_le _
 ·
  rintro q hI0
  refine r_seq ?_
  refine r_seq ?_
  have hA := stA_bd hg h who d hd q
  obtain hA0 | ⟨hA0, hx0, he1, he2⟩ | ⟨hA0, i, q2, L, hx0, hi, hq2, hq3, hL, hL1, hsA, hsP⟩ := pay_cases hg h who d hd hI0
  all_goals
  refine r_region ?_
  refine o_q _ rfl rfl rfl (v_fieldAddr rfl Tryd.underlying81 inf3 rfl rfl rfl rfl) ?_
  refine o_q _ rfl rfl rfl (v_ld1 rfl Tryd.underlying3 rfl rfl rfl) ?_
  first | refine o_q _ rfl rfl rfl (v_true (v_gtr rfl rfl rfl) (by omega)) ?_ | refine o_q _ rfl rfl rfl (v_false (v_gtr rfl rfl rfl) (by omega)) ?_
  all_goals
   refine o_q _ rfl rfl rfl (v_move rfl rfl) ?_
   first | refine o_gn rfl rfl rfl rfl ?_ | refine o_g _ rfl rfl rfl rfl (v_ldW rfl Tryd.underlying25 rfl inf25 rfl rfl) ?_
   first | refine o_gn rfl rfl rfl rfl ?_ | refine o_g _ rfl rfl rfl rfl (v_ldW rfl Tryd.underlying81 rfl inf81 rfl rfl) ?_
   first | refine o_gn rfl rfl rfl rfl ?_ | refine o_g _ rfl rfl rfl rfl (v_move rfl rfl) ?_
   first | refine o_gn rfl rfl rfl rfl ?_ | refine o_g _ rfl rfl rfl rfl (v_move rfl rfl) ?_
   first | refine o_gn rfl rfl rfl rfl ?_ | refine o_g _ rfl rfl rfl rfl (v_cast (v := i64 (-1)) (OpQ.fnm (next_m D uo po uc pc (stP (lstT D am pa who d) (bagT D am pa who d) q) b (stA (lstT D am pa who d) (bagT D am pa who d) q) br ow who d hp2) rfl [] [] rfl rfl rfl SubRC.sub) (i64c (by rw [hx0]; rfl))) ?_ | refine o_g _ rfl rfl rfl rfl (v_cast (v := i64 (i : Int)) (OpQ.fnm (next_m D uo po uc pc (stP (lstT D am pa who d) (bagT D am pa who d) q) b (stA (lstT D am pa who d) (bagT D am pa who d) q) br ow who d hp2) rfl [] [] rfl rfl rfl SubRC.sub) (i64c (by rw [hx0]; rfl))) ?_
   first | refine o_gn rfl rfl rfl rfl ?_ | refine o_g _ rfl rfl rfl rfl (v_true (v_geq rfl rfl rfl) (by omega)) ?_ | refine o_g _ rfl rfl rfl rfl (v_false (v_geq rfl rfl rfl) (by omega)) ?_
   all_goals
    first | refine o_q _ rfl rfl rfl (v_pick_t rfl rfl rfl) ?_ | refine o_q _ rfl rfl rfl (v_pick_f rfl rfl rfl) ?_
    refine o_nil ?_
    with_reducible refine r_then ?_
    refine r_cond rfl (fun hc21 => ?_) (fun hc21 => ?_)
    ·
     first
     | (exfalso; revert hc21; decide)
     |
      skip
      refine r_skip ?_
      with_reducible refine r_then ?_
      refine r_block ?_
      refine r_seq ?_
      refine r_region ?_
      refine o_q _ rfl rfl rfl (v_ldW rfl Tryd.underlying25 rfl inf25 rfl rfl) ?_
      refine o_q _ rfl rfl rfl (v_ldW rfl Tryd.underlying81 rfl inf81 rfl rfl) ?_
      refine o_q _ rfl rfl rfl (v_move rfl rfl) ?_
      refine o_q _ rfl rfl rfl (v_move rfl rfl) ?_
      refine o_q _ rfl rfl rfl (v_cast (v := i64 (i : Int)) (OpQ.fnm (next_m D uo po uc pc (stP (lstT D am pa who d) (bagT D am pa who d) q) b (stA (lstT D am pa who d) (bagT D am pa who d) q) br ow who d hp2) rfl [] [] rfl rfl rfl SubRC.sub) (i64c (by rw [hx0]; rfl))) ?_
      refine o_q _ rfl rfl rfl (v_assign rfl rfl) ?_
      refine o_nil ?_
      with_reducible refine r_then ?_
      refine r_seq ?_
      refine r_region_q mixed (by kernel_rfl) ?_
      refine q_q _ rfl rfl rfl (v_fieldAddr rfl Tryd.underlying81 inf3 rfl rfl rfl rfl) ?_
      refine q_q _ rfl rfl rfl (v_ld1 rfl Tryd.underlying3 rfl rfl rfl) ?_
      refine q_q _ rfl rfl rfl (v_fieldAddr rfl Tryd.underlying81 inf41 rfl rfl rfl rfl) ?_
      refine q_q _ rfl rfl rfl (v_ld1 rfl Tryd.underlying41 rfl rfl rfl) ?_
      refine q_q _ rfl rfl rfl (v_move rfl rfl) ?_
      refine q_q _ rfl rfl rfl (v_indexAddrB rfl Tryd.underlying41 inf3 rfl rfl (by omega)) ?_
      refine q_q _ rfl rfl rfl (v_cast (v := i64 L) (v_ld1 rfl Tryd.underlying3 rfl rfl (boxI_get (by rw [arr_len]; omega))) (i64c ((arr_at (by omega)).trans (hL)))) ?_
      refine q_q _ rfl rfl rfl (v_min2 rfl rfl rfl) ?_
      refine q_q _ rfl rfl rfl (v_assign rfl rfl) ?_
      refine q_nil ?_
      with_reducible refine r_then ?_
      refine Imp.box_to b5 [.slice (some ⟨b, 0, none⟩) D.dues.length D.dues.length, i64 (stA (lstT D am pa who d) (bagT D am pa who d) q), i64 br, i64 ow] rfl ?_
      refine r_parE 17 (fun w => w.heap[b5]? = some (.cells ([.slice (some ⟨b, 0, none⟩) D.dues.length D.dues.length, i64 (stA (lstT D am pa who d) (bagT D am pa who d) q), i64 br, i64 ow] : List Value).toArray 81 (0, 0))) (fun X F w h => h.bl (List.mem_append_right _ (HasBox.mem (b := b5)))) [10, 11, 12, 13] 14 (by kernel_rfl) (by kernel_rfl) (by kernel_rfl) (by kernel_rfl) (by kernel_rfl) (by kernel_rfl) (by kernel_rfl) (by kernel_rfl) mixed (by kernel_rfl) (by rfl) ?_
      refine p_q _ rfl rfl rfl (fun _ _ => v_fieldAddr rfl Tryd.underlying81 inf41 rfl rfl rfl rfl) ?_
      refine p_q _ rfl rfl rfl (fun _ _ => v_ld1 rfl Tryd.underlying41 rfl rfl rfl) ?_
      refine p_q _ rfl rfl rfl (fun _ _ => v_move rfl rfl) ?_
      refine p_q _ rfl rfl rfl (fun _ _ => v_fieldAddr rfl Tryd.underlying81 inf41 rfl rfl rfl rfl) ?_
      refine p_q _ rfl rfl rfl (fun _ _ => v_ld1 rfl Tryd.underlying41 rfl rfl rfl) ?_
      refine p_q _ rfl rfl rfl (fun _ _ => v_move rfl rfl) ?_
      refine p_q _ rfl rfl rfl (fun _ _ => v_indexAddrB rfl Tryd.underlying41 inf3 rfl rfl (by omega)) ?_
      refine p_q _ rfl rfl rfl (fun _ _ => v_cast (v := i64 L) (v_ld1 rfl Tryd.underlying3 rfl rfl (boxI_get (by rw [arr_len]; omega))) (i64c ((arr_at (by omega)).trans (hL)))) ?_
      refine p_q _ rfl rfl rfl (fun _ _ => v_move rfl rfl) ?_
      refine p_q _ rfl rfl rfl (fun _ _ => v_sub rfl rfl rfl (by omega)) ?_
      refine p_q _ rfl rfl rfl (fun _ _ => v_fieldAddr rfl Tryd.underlying81 inf3 rfl rfl rfl rfl) ?_
      refine p_q _ rfl rfl rfl (fun _ _ => v_ld1 rfl Tryd.underlying3 rfl rfl rfl) ?_
      refine p_q _ rfl rfl rfl (fun _ _ => v_move rfl rfl) ?_
      refine p_q _ rfl rfl rfl (fun _ _ => v_sub rfl rfl rfl (by omega)) ?_
      refine p_nilF (by simp only [List.nil_append, List.cons_append]; rfl) rfl ⟨⟨_, _, _, rfl, rfl, rfl, rfl, rfl, float_field rfl Tryd.underlying81 inf3 rfl rfl rfl rfl⟩, ⟨_, _, _, rfl, rfl, rfl, rfl, rfl, float_cell (vs := [.slice (some ⟨b, 0, none⟩) D.dues.length D.dues.length, i64 (stA (lstT D am pa who d) (bagT D am pa who d) q), i64 br, i64 ow]) (B := 81) rfl Tryd.underlying3 rfl rfl rfl (fun _ h => h)⟩, ⟨_, _, _, rfl, rfl, rfl, rfl, rfl, float_mv rfl rfl⟩, ⟨_, _, _, rfl, rfl, rfl, rfl, rfl, float_subZ rfl rfl rfl (by omega)⟩, trivial⟩ ?_
      refine f_q rfl ?_
      refine f_q rfl ?_
      refine f_q rfl ?_
      refine f_q rfl ?_
      refine f_q rfl ?_
      refine f_q rfl ?_
      refine f_q rfl ?_
      refine f_q rfl ?_
      refine f_q rfl ?_
      refine f_q rfl ?_
      refine f_q rfl ?_
      refine f_q rfl ?_
      refine f_q rfl ?_
      refine f_q rfl ?_
      refine f_nil ?_
      refine oe_lift (fun w h => h.bl (HasBox.mem (b := b5))) ?_
      refine o_q _ rfl rfl rfl (v_indexAddrB rfl Tryd.underlying41 inf3 rfl rfl (by omega)) ?_
      refine o_nil ?_
      refine r_then ?_
      refine oe_lift (fun w h => h.bl (HasBox.mem (b := b5))) ?_
      refine o_st rfl inf3 rfl rfl rfl rfl rfl rfl rfl (boxI_ble (by rw [arr_len]; omega)) ?_
      refine o_nil ?_
      refine r_then ?_
      refine oe_lift (fun w h => h.bl (HasBox.mem (b := b5))) ?_
      refine o_q _ rfl rfl rfl (v_fieldAddr rfl Tryd.underlying81 inf3 rfl rfl rfl rfl) ?_
      refine o_nil ?_
      refine r_then ?_
      refine oe_lift (fun w h => h.bl (HasBox.mem (b := b5))) ?_
      refine o_st rfl inf3 rfl rfl rfl rfl rfl rfl rfl rfl ?_
      refine o_nil ?_
      refine r_then ?_
      refine oe_nil ?_
      refine r_nop ?_
      with_reducible refine r_in_normal ?_; refine r_then ?_
      exact r_next (q2) (by refine Imp.box_to b ((arrL (stP (lstT D am pa who d) (bagT D am pa who d) q2) D.dues.length).flatMap encI) (box_next (by rw [arr_len]; omega) hsP) ?_; refine Imp.box_to b5 [.slice (some ⟨b, 0, none⟩) D.dues.length D.dues.length, i64 (stA (lstT D am pa who d) (bagT D am pa who d) q2), i64 br, i64 ow] (by rw [hsA]; rfl) ?_; exact r_here (by (repeat (first | exact FSub.nil | refine FSub.cons rfl ?_)); first | done | fail) SelMC.sel SubRC.sub) (by exact hq3) (by show (lstT D am pa who d).length - q2 < (lstT D am pa who d).length - q; omega)
    ·
     first
     | (exfalso; revert hc21; decide)
     |
      skip
      refine r_exit ?_
      with_reducible refine r_then_exit ?_; refine r_then_exit ?_; refine r_in_here ?_; refine r_then ?_
      refine r_seq ?_
      obtain ⟨hf1, hf2⟩ : (stP (lstT D am pa who d) (bagT D am pa who d) q) = (payF (lstT D am pa who d) (bagT D am pa who d)) ∧ (stA (lstT D am pa who d) (bagT D am pa who d) q) = (restF (lstT D am pa who d) (bagT D am pa who d)) := by first | exact ⟨he1, he2⟩ | exact st_end (lst_fit hg h who d hd).pos (bag_bd hg h who d hd).1 (by omega)
      rw [hf1, hf2]
      refine r_region ?_
      refine o_q _ rfl rfl rfl (v_ldW rfl Tryd.underlying81 rfl inf81 rfl rfl) ?_
      refine o_st rfl inf81 rfl rfl rfl rfl rfl rfl rfl rfl ?_
      refine o_nil ?_
      with_reducible refine r_then ?_
      refine r_ret ?_
      refine Imp.box_to b8 [.slice (some ⟨b, 0, none⟩) D.dues.length D.dues.length, i64 (restF (lstT D am pa who d) (bagT D am pa who d)), i64 br, i64 ow] rfl ?_
      exact r_rete [bx b 3 ((arrL (payF (lstT D am pa who d) (bagT D am pa who d)) D.dues.length).flatMap encI)] [] (Rd.one rfl (RdI.cellW Tryd.underlying81 rfl inf81 rfl rfl)) ⟨rfl, rfl, rfl⟩ SelMC.sel SubRC.sub
end Go.Proofs.YtpfgiednfjfdmaaDoor


namespace Go.Proofs.YtpfgiednfjfdmaaDoor
open Go.G Debt10
set_option maxRecDepth 1000000
attribute [local irreducible] G.ParO G.Fin
section
variable {D : Debt} {am pa : List Int} (hg : GoodD D) (h : TruD D am pa)
end
attribute [local irreducible] leftT aheadT gradeS setT sumT trA trP acc0
variable (D : Debt) (uo po : Option Addr) (uc pc : Nat)
end Go.Proofs.YtpfgiednfjfdmaaDoor


namespace Go.Proofs.YtpfgiednfjfdmaaDoor
open Go.G Debt10
set_option maxRecDepth 1000000
attribute [local irreducible] G.ParO G.Fin
section
variable {D : Debt} {am pa : List Int} (hg : GoodD D) (h : TruD D am pa)
include hg h
end
attribute [local irreducible] leftT aheadT gradeS setT sumT trA trP acc0 lateK setK
variable (D : Debt) (uo po : Option Addr) (uc pc : Nat)
end Go.Proofs.YtpfgiednfjfdmaaDoor


namespace Go.Proofs.YtpfgiednfjfdmaaDoor
open Go.G Debt10
set_option maxRecDepth 1000000
attribute [local irreducible] G.ParO G.Fin
attribute [local irreducible] leftT aheadT gradeS setT trA trP acc0 setK
/-- What a call of the reference's account hands back besides: where it lies, what was brought, what is its own. -/
abbrev AcX (c : Int) : Type := { y : Nat × Int × Int // (0 ≤ y.2.1 ∧ y.2.1 ≤ c) ∧ (0 ≤ y.2.2 ∧ y.2.2 ≤ c) }
theorem row_w {α : Type} {oa : Option Addr} {sz : Nat} {enc : α → List Value} {xs : List α} {w : World} (h : rowD oa sz enc xs (full w)) (hne : 0 < xs.length) : ∃ b off, oa = some ⟨b, off, none⟩ ∧ ∀ (i j : Nat) (h : i < xs.length), j < sz → w.cell? ⟨b, off + i * sz + j, none⟩ = (enc xs[i])[j]? := by
  rcases h with h0 | ⟨b, off, C, T, fr, h1, h2, h3⟩
  · subst h0; simp at hne
  · refine ⟨b, off, h1, fun i j hi hj => ?_⟩
    have h2' : w.heap[b]? = some (.cells C T fr) := h2
    rw [cell_of_row w b _ C T fr h2']; exact h3 i j hi hj
theorem float_idx {P : Program} {n : Nat} {L : Tm} {o : Oper} {Z : World → Prop} {α : Type} {oa : Option Addr} {sz : Nat} {enc : α → List Value} {xs : List α} {T : TypeId} {x ix : Operand} {l c : Nat} {e : TypeId} {i : TypeInfo} {k : Nat} {kd : IntKind} (ho : o.op = .indexAddr T x ix) (hT : P.underlying T = some (.slice e)) (hi : P.info? e = some i) (hx : ev L x = some (.slice oa l c)) (hk : ev L ix = some (.int kd (k : Int))) (hsz : i.size = sz) (h1 : k < l) (hl : l = xs.length) (hz : ∀ w, Z w → rowD oa sz enc xs (full w)) : ∀ a, FSat n L a → ∀ w, Z w → (execOp a.eval o).run P w = .ok (.value (pe oa k sz 0)) w := fun g g1 w g2 => by
  subst hl hsz
  obtain ⟨b, off, rfl, _⟩ := row_w (hz w g2) (by omega)
  have h0 : (0 : Int) ≤ (k : Int) := by omega
  have h2 : (k : Int) < (xs.length : Int) := by omega
  simp [execOp, ho, g1.ev hx, g1.ev hk, Instr.indexAt, run_underlying hT, asIntOf, h0, h2, h1, run_sizeOf' hi, add_at, pe]
theorem float_elt {P : Program} {n : Nat} {L : Tm} {o : Oper} {Z : World → Prop} {α : Type} [Inhabited α] {oa : Option Addr} {sz : Nat} {enc : α → List Value} {xs : List α} {T : TypeId} {x : Operand} {a j : Nat} {v : Value} {d : TypeDesc} (ho : o.op = .load T x) (hT : P.underlying T = some d) (hd : aggD d = false) (hx : ev L x = some (pe oa a sz j)) (ha : a < xs.length) (hj : Nat.blt j sz = true) (hv : (enc (xs.getD a default))[j]? = some v) (hz : ∀ w, Z w → rowD oa sz enc xs (full w)) : ∀ a, FSat n L a → ∀ w, Z w → (execOp a.eval o).run P w = .ok (.value v) w := fun f h1 w h2 => by
  obtain ⟨b, off, rfl, hc⟩ := row_w (hz w h2) (by omega)
  have hcell := hc a j ha (by simpa using hj)
  rw [show xs.getD a default = xs[a] from by simp [List.getD, ha]] at hv
  rw [hv] at hcell
  have hagg := run_isAgg' (w := w) hT
  rw [hd] at hagg
  simp [execOp, ho, h1.ev hx, Instr.loadAt, pe, Instr.sureAddr, loadVar, hagg, hcell]
variable (D : Debt) (uo po : Option Addr) (uc pc : Nat)
set_option maxHeartbeats 4000000 in
theorem before_0 (am pa : List Int) (ao qo : Option Addr) (ac qc : Nat) (hg : GoodD D) (h : TruD D am pa) (who : Int) (d : Nat) (hd : d ≤ 30) (hd0 : d = 0) : FnS Tryd.prog 75 [valD D uo po uc pc, vTr ao am.length ac qo pa.length qc, i64 who, i64 (d : Int), i64 0] [] [rowD uo 5 encD D.dues, rowD po 4 encP D.paid, rowD ao 1 encI am, rowD qo 1 encI pa] (fun e M' R' => ∃ x : AcX (4000 * (d : Int) + 3500), e = .returned (.agg ([.slice (some ⟨x.1.1, 0, none⟩) D.dues.length D.dues.length, i64 (restF (lstT D am pa who d) (bagT D am pa who d)), i64 x.1.2.1, i64 x.1.2.2] : List Value).toArray) ∧ M' = [bx x.1.1 3 ((arrL (payF (lstT D am pa who d) (bagT D am pa who d)) D.dues.length).flatMap encI)] ∧ R' = []) := by
 have hp1 := hg.np
 have hp2 := hg.nd
 have hp3 := hg.ny
 have hna := h.na
 have hnp := h.np
 refine FnS.intro0 Tryd.call75 Tryd.func75 rfl Tryd.ntmps75 rfl ?_
 intro W M Rf
 refine r_seq ?_
 refine r_region ?_
 refine o_boxA rfl rfl rfl rfl rfl (fun b5 => ?_)
 refine o_boxA rfl rfl rfl rfl rfl (fun b6 => ?_)
 refine o_alloc rfl inf81 rfl rfl rfl rfl rfl (fun b10 => ?_)
 refine o_nil ?_
 with_reducible refine r_then ?_
 refine r_seq ?_
 refine r_region ?_
 refine o_q _ rfl rfl rfl (v_fieldAddr rfl Tryd.underlying25 inf22 rfl rfl rfl rfl) ?_
 refine o_q _ rfl rfl rfl (v_ld1 rfl Tryd.underlying22 rfl rfl rfl) ?_
 refine o_q _ rfl rfl rfl (v_len rfl rfl Tryd.underlying22 rfl) ?_
 refine o_make (enc := encI) (sz := 1) (0 : Int) rfl Tryd.underlying41 inf3 rfl rfl rfl rfl rfl rfl rfl rfl rfl (Nat.le_refl _) ⟨by omega, by decide⟩ (fun b17 => ?_)
 refine o_q _ rfl rfl rfl (v_bSp (us := [.slice (some ⟨b17, 0, none⟩) D.dues.length D.dues.length, i64 0, i64 0, i64 0]) rfl Tryd.underlying81 inf81 plt81 rfl rfl rfl (by repeat (first | exact trivial | refine ⟨rfl, ?_⟩)) (by show 1 ≤ 4; decide) rfl) ?_
 refine o_alloc rfl inf81 rfl rfl rfl rfl rfl (fun b11 => ?_)
 refine o_st rfl inf81 rfl rfl rfl rfl rfl rfl rfl rfl ?_
 refine o_nil ?_
 with_reducible refine r_then ?_
 refine r_seq ?_
 refine r_seq ?_
 refine Imp.own_to (.slice (some ⟨b17, 0, none⟩) D.dues.length D.dues.length) (arrL [] D.dues.length) (arr_nil _) ?_
 refine Imp.boxOwn2 b17 D.dues.length (arr_len _ _).symm ?_
 refine r_region ?_
 refine o_q _ rfl rfl rfl (v_move rfl rfl) ?_
 refine o_q _ rfl rfl rfl (v_gtr rfl rfl rfl) ?_
 refine o_nil ?_
 with_reducible refine r_then ?_
 refine r_condd rfl (fun hc20 => ?_) (fun hc20 => ?_)
 ·
  (exfalso; omega)
 ·
  refine r_skip ?_
  with_reducible refine r_then ?_
  refine r_seq ?_
  refine r_seq ?_
  obtain ⟨b, rfl⟩ : ∃ b, b = b17 := ⟨_, rfl⟩
  obtain ⟨br, hbr0⟩ : ∃ br : Int, br = 0 := ⟨0, rfl⟩
  obtain ⟨ow, how0⟩ : ∃ ow : Int, ow = 0 := ⟨0, rfl⟩
  refine Imp.box_to b11 [.slice (some ⟨b, 0, none⟩) D.dues.length D.dues.length, i64 (accT D am pa who (d)).2, i64 br, i64 ow] (by rw [hbr0, how0, hd0]; unfold acc0; rfl) ?_
  refine Imp.box_to b ((arrL (accT D am pa who (d)).1 D.dues.length).flatMap encI) (by rw [hd0]; unfold acc0; rfl) ?_
  refine r_region ?_
  refine o_q _ rfl rfl rfl (v_assign rfl rfl) ?_
  refine o_nil ?_
  with_reducible refine r_then ?_
  refine r_block ?_
  refine r_loop (ι := Nat × Int) (fun gh => gh.1 ≤ D.dues.length ∧ (0 ≤ gh.2 ∧ gh.2 ≤ 4000 * (d : Int) + 500 * (gh.1 : Int))) (fun gh => [(2, i64 who), (3, i64 (d : Int)), (4, i64 0), (5, pt b5 0), (6, pt b6 0), (10, pt b10 0), (11, pt b11 0), (12, i64 (gh.1 : Int))]) (fun gh => bx b 3 ((arrL ((accT D am pa who (d)).1 ++ newTo D (amF am) who d gh.1) D.dues.length).flatMap encI) :: bx b11 81 [.slice (some ⟨b, 0, none⟩) D.dues.length D.dues.length, i64 (accT D am pa who (d)).2, i64 br, i64 gh.2] :: bx b6 43 [.slice ao am.length ac, .slice qo pa.length qc] :: bx b5 25 (cellsD D uo po uc pc) :: bx b10 81 [.slice none 0 0, i64 0, i64 0, i64 0] :: M) (fun gh => [rowD uo 5 encD D.dues, rowD po 4 encP D.paid, rowD ao 1 encI am, rowD qo 1 encI pa] ++ Rf) (fun gh => D.dues.length - gh.1) (0, ow) ?_ ?_ ?_
  ·
   refine Imp.box_to b ((arrL ((accT D am pa who (d)).1 ++ newTo D (amF am) who d 0) D.dues.length).flatMap encI) (by rw [show newTo D (amF am) who d 0 = [] from rfl, List.append_nil]) ?_
   refine Imp.box_to b6 [.slice ao am.length ac, .slice qo pa.length qc] rfl ?_
   refine Imp.box_to b10 [.slice none 0 0, i64 0, i64 0, i64 0] rfl ?_
   exact r_here (by (repeat (first | exact FSub.nil | refine FSub.cons rfl ?_)); first | done | fail) SelMC.sel SubRC.sub
  ·
   exact ⟨Nat.zero_le _, by show 0 ≤ ow; omega, by show ow ≤ 4000 * (d : Int) + 500 * ((0 : Nat) : Int); omega⟩
  ·
   rintro ⟨k, ow1⟩ hI0
   dsimp only at hI0
   dsimp only
   obtain ⟨hk1, hk2, hk3⟩ := hI0
   refine r_seq ?_
   refine r_seq ?_
   refine r_region ?_
   refine o_q _ rfl rfl rfl (v_move rfl rfl) ?_
   refine o_q _ rfl rfl rfl (v_fieldAddr rfl Tryd.underlying25 inf22 rfl rfl rfl rfl) ?_
   refine o_q _ rfl rfl rfl (v_ld1 rfl Tryd.underlying22 rfl rfl rfl) ?_
   refine o_q _ rfl rfl rfl (v_len rfl rfl Tryd.underlying22 rfl) ?_
   refine o_q _ rfl rfl rfl (v_lss rfl rfl rfl) ?_
   refine o_nil ?_
   with_reducible refine r_then ?_
   refine r_condd rfl (fun hc31 => ?_) (fun hc31 => ?_)
   ·
    refine r_skip ?_
    with_reducible refine r_then ?_
    refine r_seq ?_
    refine r_block ?_
    refine r_seq ?_
    refine r_region ?_
    refine o_q _ rfl rfl rfl (v_fieldAddr rfl Tryd.underlying25 inf22 rfl rfl rfl rfl) ?_
    refine o_q _ rfl rfl rfl (v_ld1 rfl Tryd.underlying22 rfl rfl rfl) ?_
    refine o_q _ rfl rfl rfl (v_move rfl rfl) ?_
    refine o_q _ rfl rfl rfl (v_indexAddrSn rfl Tryd.underlying22 inf62 rfl rfl rfl (by omega) rfl) ?_
    refine o_q _ rfl rfl rfl (v_fieldAddr rfl Tryd.underlying62 inf3 rfl rfl rfl rfl) ?_
    refine o_q _ rfl rfl rfl (v_loadE1 (v := i64 (D.dues.getD k default).who) (j := 0) rfl Tryd.underlying3 rfl rfl (by omega) rfl rfl) ?_
    refine o_q _ rfl rfl rfl (v_move rfl rfl) ?_
    refine o_test rfl rfl rfl (v_eql rfl rfl rfl) (fun h41 => ?_) (fun h41 => ?_)
    all_goals
     refine o_q _ rfl rfl rfl (v_move rfl rfl) ?_
     first | refine o_gn rfl rfl rfl rfl ?_ | refine o_g _ rfl rfl rfl rfl (v_fieldAddr rfl Tryd.underlying25 inf22 rfl rfl rfl rfl) ?_
     first | refine o_gn rfl rfl rfl rfl ?_ | refine o_g _ rfl rfl rfl rfl (v_ld1 rfl Tryd.underlying22 rfl rfl rfl) ?_
     first | refine o_gn rfl rfl rfl rfl ?_ | refine o_g _ rfl rfl rfl rfl (v_move rfl rfl) ?_
     first | refine o_gn rfl rfl rfl rfl ?_ | refine o_g _ rfl rfl rfl rfl (v_indexAddrSn rfl Tryd.underlying22 inf62 rfl rfl rfl (by omega) rfl) ?_
     first | refine o_gn rfl rfl rfl rfl ?_ | refine o_g _ rfl rfl rfl rfl (v_fieldAddr rfl Tryd.underlying62 inf3 rfl rfl rfl rfl) ?_
     first | refine o_gn rfl rfl rfl rfl ?_ | refine o_g _ rfl rfl rfl rfl (v_loadE1 (v := i64 (D.dues.getD k default).day) (j := 1) rfl Tryd.underlying3 rfl rfl (by omega) rfl rfl) ?_
     first | refine o_gn rfl rfl rfl rfl ?_ | refine o_g _ rfl rfl rfl rfl (v_move rfl rfl) ?_
     first | refine o_gn rfl rfl rfl rfl ?_ | refine o_gtest rfl rfl rfl rfl (v_eql rfl rfl rfl) (fun h50 => ?_) (fun h50 => ?_)
     all_goals
      first | refine o_q _ rfl rfl rfl (v_pick_t rfl rfl rfl) ?_ | refine o_q _ rfl rfl rfl (v_pick_f rfl rfl rfl) ?_
      refine o_nil ?_
      with_reducible refine r_then ?_
      refine r_cond rfl (fun hc51 => ?_) (fun hc51 => ?_)
      ·
       first
       | (exfalso; revert hc51; decide)
       |
        skip
        refine r_seq ?_
        refine r_par' 8 mixed (by kernel_rfl) (by rfl) ?_
        refine p_q _ rfl rfl rfl (fun _ _ => v_fieldAddr rfl Tryd.underlying81 inf41 rfl rfl rfl rfl) ?_
        refine p_q _ rfl rfl rfl (fun _ _ => v_ld1 rfl Tryd.underlying41 rfl rfl rfl) ?_
        refine p_q _ rfl rfl rfl (fun _ _ => v_move rfl rfl) ?_
        refine p_q _ rfl rfl rfl (fun _ _ => v_fieldAddr rfl Tryd.underlying43 inf41 rfl rfl rfl rfl) ?_
        refine p_q _ rfl rfl rfl (fun _ _ => v_ld1 rfl Tryd.underlying41 rfl rfl rfl) ?_
        refine p_q _ rfl rfl rfl (fun _ _ => v_move rfl rfl) ?_
        refine p_q _ rfl rfl rfl (fun _ _ => v_indexAddrSn rfl Tryd.underlying41 inf3 rfl rfl rfl (by omega) rfl) ?_
        refine p_q _ rfl rfl rfl (fun _ _ => v_loadE1 (v := i64 (am.getD k default)) rfl Tryd.underlying3 rfl rfl (by omega) rfl rfl) ?_
        refine p_nil2 (by simp only [List.nil_append, List.cons_append]; rfl) rfl ?_
        refine f_q rfl ?_
        refine f_q rfl ?_
        refine f_q rfl ?_
        refine f_q rfl ?_
        refine f_q rfl ?_
        refine f_q rfl ?_
        refine f_q rfl ?_
        refine f_q rfl ?_
        refine f_nil ?_
        refine o_q _ rfl rfl rfl (v_indexAddrB rfl Tryd.underlying41 inf3 rfl rfl (by omega)) ?_
        refine o_st rfl inf3 rfl rfl rfl rfl rfl rfl rfl (boxI_ble (by rw [arr_len]; omega)) ?_
        refine o_nil ?_
        with_reducible refine r_then ?_
        have hak := h.bdA hg k (by omega)
        refine r_par' 8 mixed (by kernel_rfl) (by rfl) ?_
        refine p_q _ rfl rfl rfl (fun _ _ => v_fieldAddr rfl Tryd.underlying81 inf3 rfl rfl rfl rfl) ?_
        refine p_q _ rfl rfl rfl (fun _ _ => v_ld1 rfl Tryd.underlying3 rfl rfl rfl) ?_
        refine p_q _ rfl rfl rfl (fun _ _ => v_fieldAddr rfl Tryd.underlying43 inf41 rfl rfl rfl rfl) ?_
        refine p_q _ rfl rfl rfl (fun _ _ => v_ld1 rfl Tryd.underlying41 rfl rfl rfl) ?_
        refine p_q _ rfl rfl rfl (fun _ _ => v_move rfl rfl) ?_
        refine p_q _ rfl rfl rfl (fun _ _ => v_indexAddrSn rfl Tryd.underlying41 inf3 rfl rfl rfl (by omega) rfl) ?_
        refine p_q _ rfl rfl rfl (fun _ _ => v_loadE1 (v := i64 (am.getD k default)) rfl Tryd.underlying3 rfl rfl (by omega) rfl rfl) ?_
        refine p_q _ rfl rfl rfl (fun _ _ => v_add rfl rfl rfl (by omega)) ?_
        refine p_nil2 (by simp only [List.nil_append, List.cons_append]; rfl) rfl ?_
        refine f_q rfl ?_
        refine f_q rfl ?_
        refine f_q rfl ?_
        refine f_q rfl ?_
        refine f_q rfl ?_
        refine f_q rfl ?_
        refine f_q rfl ?_
        refine f_q rfl ?_
        refine f_nil ?_
        refine o_q _ rfl rfl rfl (v_fieldAddr rfl Tryd.underlying81 inf3 rfl rfl rfl rfl) ?_
        refine o_st rfl inf3 rfl rfl rfl rfl rfl rfl rfl rfl ?_
        refine o_nil ?_
        with_reducible refine r_in_normal ?_; refine r_then ?_
        refine r_region ?_
        refine o_q _ rfl rfl rfl (v_move rfl rfl) ?_
        refine o_q _ rfl rfl rfl (v_add rfl rfl rfl (by omega)) ?_
        refine o_q _ rfl rfl rfl (v_assign rfl rfl) ?_
        refine o_nil ?_
        with_reducible refine r_then ?_
        exact r_next ((k + 1, ow1 + am.getD k default)) (by refine Imp.box_to b11 [.slice (some ⟨b, 0, none⟩) D.dues.length D.dues.length, i64 (accT D am pa who (d)).2, i64 br, i64 (ow1 + am.getD k default)] rfl ?_; refine Imp.box_to b ((arrL ((accT D am pa who (d)).1 ++ newTo D (amF am) who d (k + 1)) D.dues.length).flatMap encI) (box_next (by rw [arr_len]; omega) (new_arrT hg h who d (k := k) (by omega) (by assumption) (by assumption))) ?_; exact r_here (by (repeat (first | exact FSub.nil | refine FSub.cons rfl ?_)); first | done | fail) SelMC.sel SubRC.sub) (by exact ⟨by show k + 1 ≤ _; omega, by show 0 ≤ ow1 + _; omega, by show ow1 + _ ≤ 4000 * (d : Int) + 500 * ((k + 1 : Nat) : Int); omega⟩) (by show D.dues.length - (k + 1) < D.dues.length - k; omega)
      ·
       first
       | (exfalso; revert hc51; decide)
       |
        skip
        refine r_skip ?_
        with_reducible refine r_in_normal ?_; refine r_then ?_
        refine r_region ?_
        refine o_q _ rfl rfl rfl (v_move rfl rfl) ?_
        refine o_q _ rfl rfl rfl (v_add rfl rfl rfl (by omega)) ?_
        refine o_q _ rfl rfl rfl (v_assign rfl rfl) ?_
        refine o_nil ?_
        with_reducible refine r_then ?_
        exact r_next ((k + 1, ow1)) (by refine Imp.box_to b ((arrL ((accT D am pa who (d)).1 ++ newTo D (amF am) who d (k + 1)) D.dues.length).flatMap encI) (by rw [newTo_n (D := D) (am := amF am) (who := who) (d := d) (k := k) (by omega)]) ?_; exact r_here (by (repeat (first | exact FSub.nil | refine FSub.cons rfl ?_)); first | done | fail) SelMC.sel SubRC.sub) (by exact ⟨by show k + 1 ≤ _; omega, by show 0 ≤ ow1; omega, by show ow1 ≤ 4000 * (d : Int) + 500 * ((k + 1 : Nat) : Int); omega⟩) (by show D.dues.length - (k + 1) < D.dues.length - k; omega)
   ·
    refine r_exit ?_
    with_reducible refine r_then_exit ?_; refine r_then_exit ?_; refine r_in_here ?_; refine r_then ?_
    refine r_seq ?_
    obtain rfl : k = D.dues.length := by omega
    have hbd := accT_fit hg h who d
    refine r_region ?_
    refine o_q _ rfl rfl rfl (v_fieldAddr rfl Tryd.underlying81 inf3 rfl rfl rfl rfl) ?_
    refine o_q _ rfl rfl rfl (v_ld1 rfl Tryd.underlying3 rfl rfl rfl) ?_
    refine o_q _ rfl rfl rfl (v_move rfl rfl) ?_
    refine o_q _ rfl rfl rfl (v_add rfl rfl rfl (by omega)) ?_
    refine o_q _ rfl rfl rfl (v_fieldAddr rfl Tryd.underlying81 inf3 rfl rfl rfl rfl) ?_
    refine o_q _ rfl rfl rfl (v_ld1 rfl Tryd.underlying3 rfl rfl rfl) ?_
    refine o_q _ rfl rfl rfl (v_move rfl rfl) ?_
    refine o_q _ rfl rfl rfl (v_add rfl rfl rfl (by omega)) ?_
    refine o_q _ rfl rfl rfl (v_fieldAddr rfl Tryd.underlying81 inf3 rfl rfl rfl rfl) ?_
    refine o_st rfl inf3 rfl rfl rfl rfl rfl rfl rfl rfl ?_
    refine o_q _ rfl rfl rfl (v_fieldAddr rfl Tryd.underlying81 inf3 rfl rfl rfl rfl) ?_
    refine o_st rfl inf3 rfl rfl rfl rfl rfl rfl rfl rfl ?_
    refine o_nil ?_
    with_reducible refine r_then ?_
    refine r_seq ?_
    refine r_seq ?_
    refine Imp.box_to b11 [.slice (some ⟨b, 0, none⟩) D.dues.length D.dues.length, i64 ((accT D am pa who (d)).2 + (paidTo D (amF pa) who d 0)), i64 br, i64 ow1] (by show ([_, i64 ((accT D am pa who (d)).2 + 0), i64 (br + 0), _] : List Value) = [_, i64 ((accT D am pa who (d)).2 + (paidTo D (amF pa) who d 0)), i64 br, _]; rw [Int.add_zero br]; rfl) ?_
    refine r_region ?_
    refine o_q _ rfl rfl rfl (v_assign rfl rfl) ?_
    refine o_nil ?_
    with_reducible refine r_then ?_
    refine r_block ?_
    refine r_loop (ι := Nat × Int) (fun gh => gh.1 ≤ D.paid.length ∧ (0 ≤ gh.2 ∧ gh.2 ≤ 4000 * (d : Int) + 500 * (gh.1 : Int))) (fun gh => [(2, i64 who), (3, i64 (d : Int)), (4, i64 0), (5, pt b5 0), (6, pt b6 0), (10, pt b10 0), (11, pt b11 0), (13, i64 (gh.1 : Int))]) (fun gh => bx b 3 ((arrL (lstT D am pa who d) D.dues.length).flatMap encI) :: bx b11 81 [.slice (some ⟨b, 0, none⟩) D.dues.length D.dues.length, i64 ((accT D am pa who (d)).2 + (paidTo D (amF pa) who d gh.1)), i64 gh.2, i64 ow1] :: bx b6 43 [.slice ao am.length ac, .slice qo pa.length qc] :: bx b5 25 (cellsD D uo po uc pc) :: bx b10 81 [.slice none 0 0, i64 0, i64 0, i64 0] :: M) (fun gh => [rowD uo 5 encD D.dues, rowD po 4 encP D.paid, rowD ao 1 encI am, rowD qo 1 encI pa] ++ Rf) (fun gh => D.paid.length - gh.1) (0, br) ?_ ?_ ?_
    ·
     refine Imp.box_to b ((arrL (lstT D am pa who d) D.dues.length).flatMap encI) rfl ?_
     exact r_here (by (repeat (first | exact FSub.nil | refine FSub.cons rfl ?_)); first | done | fail) SelMC.sel SubRC.sub
    ·
     exact ⟨Nat.zero_le _, by show 0 ≤ br; omega, by show br ≤ 4000 * (d : Int) + 500 * ((0 : Nat) : Int); omega⟩
    ·
     rintro ⟨k, br1⟩ hI1
     dsimp only at hI1
     dsimp only
     obtain ⟨hj1, hj2, hj3⟩ := hI1
     refine r_seq ?_
     refine r_seq ?_
     refine r_region ?_
     refine o_q _ rfl rfl rfl (v_move rfl rfl) ?_
     refine o_q _ rfl rfl rfl (v_fieldAddr rfl Tryd.underlying25 inf23 rfl rfl rfl rfl) ?_
     refine o_q _ rfl rfl rfl (v_ld1 rfl Tryd.underlying23 rfl rfl rfl) ?_
     refine o_q _ rfl rfl rfl (v_len rfl rfl Tryd.underlying23 rfl) ?_
     refine o_q _ rfl rfl rfl (v_lss rfl rfl rfl) ?_
     refine o_nil ?_
     with_reducible refine r_then ?_
     refine r_condd rfl (fun hc84 => ?_) (fun hc84 => ?_)
     ·
      refine r_skip ?_
      with_reducible refine r_then ?_
      refine r_seq ?_
      refine r_block ?_
      refine r_seq ?_
      refine r_region ?_
      refine o_q _ rfl rfl rfl (v_fieldAddr rfl Tryd.underlying25 inf23 rfl rfl rfl rfl) ?_
      refine o_q _ rfl rfl rfl (v_ld1 rfl Tryd.underlying23 rfl rfl rfl) ?_
      refine o_q _ rfl rfl rfl (v_move rfl rfl) ?_
      refine o_q _ rfl rfl rfl (v_indexAddrSn rfl Tryd.underlying23 inf54 rfl rfl rfl (by omega) rfl) ?_
      refine o_q _ rfl rfl rfl (v_fieldAddr rfl Tryd.underlying54 inf3 rfl rfl rfl rfl) ?_
      refine o_q _ rfl rfl rfl (v_loadE1 (v := i64 (D.paid.getD k default).who) (j := 0) rfl Tryd.underlying3 rfl rfl (by omega) rfl rfl) ?_
      refine o_q _ rfl rfl rfl (v_move rfl rfl) ?_
      refine o_test rfl rfl rfl (v_eql rfl rfl rfl) (fun h94 => ?_) (fun h94 => ?_)
      all_goals
       refine o_q _ rfl rfl rfl (v_move rfl rfl) ?_
       first | refine o_gn rfl rfl rfl rfl ?_ | refine o_g _ rfl rfl rfl rfl (v_fieldAddr rfl Tryd.underlying25 inf23 rfl rfl rfl rfl) ?_
       first | refine o_gn rfl rfl rfl rfl ?_ | refine o_g _ rfl rfl rfl rfl (v_ld1 rfl Tryd.underlying23 rfl rfl rfl) ?_
       first | refine o_gn rfl rfl rfl rfl ?_ | refine o_g _ rfl rfl rfl rfl (v_move rfl rfl) ?_
       first | refine o_gn rfl rfl rfl rfl ?_ | refine o_g _ rfl rfl rfl rfl (v_indexAddrSn rfl Tryd.underlying23 inf54 rfl rfl rfl (by omega) rfl) ?_
       first | refine o_gn rfl rfl rfl rfl ?_ | refine o_g _ rfl rfl rfl rfl (v_fieldAddr rfl Tryd.underlying54 inf3 rfl rfl rfl rfl) ?_
       first | refine o_gn rfl rfl rfl rfl ?_ | refine o_g _ rfl rfl rfl rfl (v_loadE1 (v := i64 (D.paid.getD k default).day) (j := 1) rfl Tryd.underlying3 rfl rfl (by omega) rfl rfl) ?_
       first | refine o_gn rfl rfl rfl rfl ?_ | refine o_g _ rfl rfl rfl rfl (v_move rfl rfl) ?_
       first | refine o_gn rfl rfl rfl rfl ?_ | refine o_gtest rfl rfl rfl rfl (v_eql rfl rfl rfl) (fun h103 => ?_) (fun h103 => ?_)
       all_goals
        first | refine o_q _ rfl rfl rfl (v_pick_t rfl rfl rfl) ?_ | refine o_q _ rfl rfl rfl (v_pick_f rfl rfl rfl) ?_
        refine o_nil ?_
        with_reducible refine r_then ?_
        refine r_cond rfl (fun hc104 => ?_) (fun hc104 => ?_)
        ·
         first
         | (exfalso; revert hc104; decide)
         |
          skip
          have hpk := h.bdP hg k (by omega)
          have hpt := paid_bdT hg h who d (n := k) (by omega)
          have hbd2 := accT_fit hg h who d
          refine r_parZ (fun w => w.heap[b6]? = some (.cells ([.slice ao am.length ac, .slice qo pa.length qc] : List Value).toArray 43 (0, 0)) ∧ rowD qo 1 encI pa (full w)) (fun X F w h => ⟨h.bl (List.mem_append_right _ (HasBox.mem (b := b6))), h.fact (φ := rowD qo 1 encI pa) (List.mem_append_right _ (HasRow.mem))⟩) [10, 11, 12, 13, 14, 15] 16 (by kernel_rfl) (by kernel_rfl) (by kernel_rfl) (by kernel_rfl) (by kernel_rfl) mixed (by kernel_rfl) (by rfl) ?_
          refine p_q _ rfl rfl rfl (fun _ _ => v_fieldAddr rfl Tryd.underlying81 inf3 rfl rfl rfl rfl) ?_
          refine p_q _ rfl rfl rfl (fun _ _ => v_ld1 rfl Tryd.underlying3 rfl rfl rfl) ?_
          refine p_q _ rfl rfl rfl (fun _ _ => v_fieldAddr rfl Tryd.underlying43 inf41 rfl rfl rfl rfl) ?_
          refine p_q _ rfl rfl rfl (fun _ _ => v_ld1 rfl Tryd.underlying41 rfl rfl rfl) ?_
          refine p_q _ rfl rfl rfl (fun _ _ => v_move rfl rfl) ?_
          refine p_q _ rfl rfl rfl (fun _ _ => v_indexAddrSn rfl Tryd.underlying41 inf3 rfl rfl rfl (by omega) rfl) ?_
          refine p_q _ rfl rfl rfl (fun _ _ => v_loadE1 (v := i64 (pa.getD k default)) rfl Tryd.underlying3 rfl rfl (by omega) rfl rfl) ?_
          refine p_q _ rfl rfl rfl (fun _ _ => v_add rfl rfl rfl (by omega)) ?_
          refine p_q _ rfl rfl rfl (fun _ _ => v_fieldAddr rfl Tryd.underlying81 inf3 rfl rfl rfl rfl) ?_
          refine p_q _ rfl rfl rfl (fun _ _ => v_ld1 rfl Tryd.underlying3 rfl rfl rfl) ?_
          refine p_q _ rfl rfl rfl (fun _ _ => v_fieldAddr rfl Tryd.underlying43 inf41 rfl rfl rfl rfl) ?_
          refine p_q _ rfl rfl rfl (fun _ _ => v_ld1 rfl Tryd.underlying41 rfl rfl rfl) ?_
          refine p_q _ rfl rfl rfl (fun _ _ => v_move rfl rfl) ?_
          refine p_q _ rfl rfl rfl (fun _ _ => v_indexAddrSn rfl Tryd.underlying41 inf3 rfl rfl rfl (by omega) rfl) ?_
          refine p_q _ rfl rfl rfl (fun _ _ => v_loadE1 (v := i64 (pa.getD k default)) rfl Tryd.underlying3 rfl rfl (by omega) rfl rfl) ?_
          refine p_q _ rfl rfl rfl (fun _ _ => v_add rfl rfl rfl (by omega)) ?_
          refine p_nilF (by simp only [List.nil_append, List.cons_append]; rfl) rfl ⟨⟨_, _, _, rfl, rfl, rfl, rfl, rfl, float_field rfl Tryd.underlying43 inf41 rfl rfl rfl rfl⟩, ⟨_, _, _, rfl, rfl, rfl, rfl, rfl, float_cell (vs := [.slice ao am.length ac, .slice qo pa.length qc]) (B := 43) rfl Tryd.underlying41 rfl rfl rfl (fun _ h => h.1)⟩, ⟨_, _, _, rfl, rfl, rfl, rfl, rfl, float_mv rfl rfl⟩, ⟨_, _, _, rfl, rfl, rfl, rfl, rfl, float_idx (k := k) (enc := encI) (xs := pa) rfl Tryd.underlying41 inf3 rfl rfl rfl (by omega) rfl (fun _ h => h.2)⟩, ⟨_, _, _, rfl, rfl, rfl, rfl, rfl, float_elt (v := i64 (pa.getD k default)) (enc := encI) (xs := pa) rfl Tryd.underlying3 rfl rfl (by omega) rfl rfl (fun _ h => h.2)⟩, ⟨_, _, _, rfl, rfl, rfl, rfl, rfl, float_addZ rfl rfl rfl (by omega)⟩, trivial⟩ ?_
          refine f_q rfl ?_
          refine f_q rfl ?_
          refine f_q rfl ?_
          refine f_q rfl ?_
          refine f_q rfl ?_
          refine f_q rfl ?_
          refine f_q rfl ?_
          refine f_q rfl ?_
          refine f_q rfl ?_
          refine f_q rfl ?_
          refine f_q rfl ?_
          refine f_q rfl ?_
          refine f_q rfl ?_
          refine f_q rfl ?_
          refine f_q rfl ?_
          refine f_q rfl ?_
          refine f_nil ?_
          refine oz_lift (fun w h => ⟨h.bl (HasBox.mem (b := b6)), h.fact (φ := rowD qo 1 encI pa) HasRow.mem⟩) ?_
          refine o_q _ rfl rfl rfl (v_fieldAddr rfl Tryd.underlying81 inf3 rfl rfl rfl rfl) ?_
          refine o_nil ?_
          refine r_then ?_
          refine oz_lift (fun w h => ⟨h.bl (HasBox.mem (b := b6)), h.fact (φ := rowD qo 1 encI pa) HasRow.mem⟩) ?_
          refine o_st rfl inf3 rfl rfl rfl rfl rfl rfl rfl rfl ?_
          refine o_nil ?_
          refine r_then ?_
          refine oz_lift (fun w h => ⟨h.bl (HasBox.mem (b := b6)), h.fact (φ := rowD qo 1 encI pa) HasRow.mem⟩) ?_
          refine o_q _ rfl rfl rfl (v_fieldAddr rfl Tryd.underlying81 inf3 rfl rfl rfl rfl) ?_
          refine o_nil ?_
          refine r_then ?_
          refine oz_lift (fun w h => ⟨h.bl (HasBox.mem (b := b6)), h.fact (φ := rowD qo 1 encI pa) HasRow.mem⟩) ?_
          refine o_st rfl inf3 rfl rfl rfl rfl rfl rfl rfl rfl ?_
          refine o_nil ?_
          refine r_then ?_
          refine oz_nil (fun w h => ⟨h.bl (HasBox.mem (b := b6)), h.fact (φ := rowD qo 1 encI pa) HasRow.mem⟩) ?_
          refine r_nop ?_
          with_reducible refine r_in_normal ?_; refine r_then ?_
          refine r_region ?_
          refine o_q _ rfl rfl rfl (v_move rfl rfl) ?_
          refine o_q _ rfl rfl rfl (v_add rfl rfl rfl (by omega)) ?_
          refine o_q _ rfl rfl rfl (v_assign rfl rfl) ?_
          refine o_nil ?_
          with_reducible refine r_then ?_
          exact r_next ((k + 1, br1 + pa.getD k default)) (by refine Imp.box_to b11 [.slice (some ⟨b, 0, none⟩) D.dues.length D.dues.length, i64 ((accT D am pa who (d)).2 + (paidTo D (amF pa) who d (k + 1))), i64 (br1 + pa.getD k default), i64 ow1] (by rw [← add_y (A := (accT D am pa who (d)).2) (paidTo_y (D := D) (pa := amF pa) (who := who) (d := d) (k := k) (by omega) (by omega))]; rfl) ?_; exact r_here (by (repeat (first | exact FSub.nil | refine FSub.cons rfl ?_)); first | done | fail) SelMC.sel SubRC.sub) (by exact ⟨by show k + 1 ≤ _; omega, by show 0 ≤ br1 + _; omega, by show br1 + _ ≤ 4000 * (d : Int) + 500 * ((k + 1 : Nat) : Int); omega⟩) (by show D.paid.length - (k + 1) < D.paid.length - k; omega)
        ·
         first
         | (exfalso; revert hc104; decide)
         |
          skip
          refine r_skip ?_
          with_reducible refine r_in_normal ?_; refine r_then ?_
          refine r_region ?_
          refine o_q _ rfl rfl rfl (v_move rfl rfl) ?_
          refine o_q _ rfl rfl rfl (v_add rfl rfl rfl (by omega)) ?_
          refine o_q _ rfl rfl rfl (v_assign rfl rfl) ?_
          refine o_nil ?_
          with_reducible refine r_then ?_
          exact r_next ((k + 1, br1)) (by refine Imp.box_to b11 [.slice (some ⟨b, 0, none⟩) D.dues.length D.dues.length, i64 ((accT D am pa who (d)).2 + (paidTo D (amF pa) who d (k + 1))), i64 br1, i64 ow1] (by rw [paidTo_n (D := D) (pa := amF pa) (who := who) (d := d) (k := k) (by omega)]) ?_; exact r_here (by (repeat (first | exact FSub.nil | refine FSub.cons rfl ?_)); first | done | fail) SelMC.sel SubRC.sub) (by exact ⟨by show k + 1 ≤ _; omega, by show 0 ≤ br1; omega, by show br1 ≤ 4000 * (d : Int) + 500 * ((k + 1 : Nat) : Int); omega⟩) (by show D.paid.length - (k + 1) < D.paid.length - k; omega)
     ·
      refine r_exit ?_
      with_reducible refine r_then_exit ?_; refine r_then_exit ?_; refine r_in_here ?_; refine r_then ?_
      refine r_seq ?_
      obtain rfl : k = D.paid.length := by omega
      refine Imp.box_to b11 [.slice (some ⟨b, 0, none⟩) D.dues.length D.dues.length, i64 (bagT D am pa who d), i64 br1, i64 ow1] rfl ?_
      refine r_region ?_
      refine o_q _ rfl rfl rfl (v_ldW rfl Tryd.underlying25 rfl inf25 rfl rfl) ?_
      refine o_q _ rfl rfl rfl (v_ldW rfl Tryd.underlying81 rfl inf81 rfl rfl) ?_
      refine o_q _ rfl rfl rfl (v_move rfl rfl) ?_
      refine o_q _ rfl rfl rfl (v_move rfl rfl) ?_
      refine o_fnc (pay_c D uo po uc pc am pa b br1 ow1 hg h who d hd) rfl [] [] rfl rfl rfl rfl rfl rfl SubRC.sub ?_
      refine o_st rfl inf81 rfl rfl rfl rfl rfl rfl rfl rfl ?_
      refine o_nil ?_
      with_reducible refine r_then ?_
      refine r_ret ?_
      refine Imp.box_to b10 [.slice (some ⟨b, 0, none⟩) D.dues.length D.dues.length, i64 (restF (lstT D am pa who d) (bagT D am pa who d)), i64 br1, i64 ow1] rfl ?_
      exact r_rete [bx b 3 ((arrL (payF (lstT D am pa who d) (bagT D am pa who d)) D.dues.length).flatMap encI)] [] (Rd.one rfl (RdI.cellW Tryd.underlying81 rfl inf81 rfl rfl)) ⟨⟨(b, br1, ow1), ⟨hj2, by show br1 ≤ 4000 * (d : Int) + 3500; omega⟩, ⟨hk2, by show ow1 ≤ 4000 * (d : Int) + 3500; omega⟩⟩, rfl, rfl, rfl⟩ SelMC.sel SubRC.sub
set_option maxHeartbeats 4000000 in
theorem before_s (am pa : List Int) (ao qo : Option Addr) (ac qc : Nat) (hg : GoodD D) (h : TruD D am pa) (who : Int) (d : Nat) (hd : d ≤ 30) (dp : Nat) (hdp1 : d = dp + 1) (haft : ∀ dp : Nat, d = dp + 1 → FnS Tryd.prog 53 [valD D uo po uc pc, vTr ao am.length ac qo pa.length qc, i64 who, i64 (dp : Int)] [] [rowD uo 5 encD D.dues, rowD po 4 encP D.paid, rowD ao 1 encI am, rowD qo 1 encI pa] (fun e M' R' => ∃ x : AcX (4000 * ((dp : Int) + 1)), e = .returned (.agg ([.slice (some ⟨x.1.1, 0, none⟩) D.dues.length D.dues.length, i64 (accT D am pa who (dp + 1)).2, i64 x.1.2.1, i64 x.1.2.2] : List Value).toArray) ∧ M' = [bx x.1.1 3 ((arrL (accT D am pa who (dp + 1)).1 D.dues.length).flatMap encI)] ∧ R' = [])) : FnS Tryd.prog 75 [valD D uo po uc pc, vTr ao am.length ac qo pa.length qc, i64 who, i64 (d : Int), i64 0] [] [rowD uo 5 encD D.dues, rowD po 4 encP D.paid, rowD ao 1 encI am, rowD qo 1 encI pa] (fun e M' R' => ∃ x : AcX (4000 * (d : Int) + 3500), e = .returned (.agg ([.slice (some ⟨x.1.1, 0, none⟩) D.dues.length D.dues.length, i64 (restF (lstT D am pa who d) (bagT D am pa who d)), i64 x.1.2.1, i64 x.1.2.2] : List Value).toArray) ∧ M' = [bx x.1.1 3 ((arrL (payF (lstT D am pa who d) (bagT D am pa who d)) D.dues.length).flatMap encI)] ∧ R' = []) := by
 have hp1 := hg.np
 have hp2 := hg.nd
 have hp3 := hg.ny
 have hna := h.na
 have hnp := h.np
 refine FnS.intro0 Tryd.call75 Tryd.func75 rfl Tryd.ntmps75 rfl ?_
 intro W M Rf
 refine r_seq ?_
 refine r_region ?_
 refine o_boxA rfl rfl rfl rfl rfl (fun b5 => ?_)
 refine o_boxA rfl rfl rfl rfl rfl (fun b6 => ?_)
 refine o_alloc rfl inf81 rfl rfl rfl rfl rfl (fun b10 => ?_)
 refine o_nil ?_
 with_reducible refine r_then ?_
 refine r_seq ?_
 refine r_region ?_
 refine o_q _ rfl rfl rfl (v_fieldAddr rfl Tryd.underlying25 inf22 rfl rfl rfl rfl) ?_
 refine o_q _ rfl rfl rfl (v_ld1 rfl Tryd.underlying22 rfl rfl rfl) ?_
 refine o_q _ rfl rfl rfl (v_len rfl rfl Tryd.underlying22 rfl) ?_
 refine o_make (enc := encI) (sz := 1) (0 : Int) rfl Tryd.underlying41 inf3 rfl rfl rfl rfl rfl rfl rfl rfl rfl (Nat.le_refl _) ⟨by omega, by decide⟩ (fun b17 => ?_)
 refine o_q _ rfl rfl rfl (v_bSp (us := [.slice (some ⟨b17, 0, none⟩) D.dues.length D.dues.length, i64 0, i64 0, i64 0]) rfl Tryd.underlying81 inf81 plt81 rfl rfl rfl (by repeat (first | exact trivial | refine ⟨rfl, ?_⟩)) (by show 1 ≤ 4; decide) rfl) ?_
 refine o_alloc rfl inf81 rfl rfl rfl rfl rfl (fun b11 => ?_)
 refine o_st rfl inf81 rfl rfl rfl rfl rfl rfl rfl rfl ?_
 refine o_nil ?_
 with_reducible refine r_then ?_
 refine r_seq ?_
 refine r_seq ?_
 refine Imp.own_to (.slice (some ⟨b17, 0, none⟩) D.dues.length D.dues.length) (arrL [] D.dues.length) (arr_nil _) ?_
 refine Imp.boxOwn2 b17 D.dues.length (arr_len _ _).symm ?_
 refine r_region ?_
 refine o_q _ rfl rfl rfl (v_move rfl rfl) ?_
 refine o_q _ rfl rfl rfl (v_gtr rfl rfl rfl) ?_
 refine o_nil ?_
 with_reducible refine r_then ?_
 refine r_condd rfl (fun hc20 => ?_) (fun hc20 => ?_)
 ·
  refine r_region ?_
  refine o_q _ rfl rfl rfl (v_ldW rfl Tryd.underlying25 rfl inf25 rfl rfl) ?_
  refine o_q _ rfl rfl rfl (v_ldW rfl Tryd.underlying43 rfl inf43 rfl rfl) ?_
  refine o_q _ rfl rfl rfl (v_move rfl rfl) ?_
  refine o_q _ rfl rfl rfl (v_move rfl rfl) ?_
  refine o_q _ rfl rfl rfl (v_cast (v := i64 (dp : Int)) (v_sub rfl rfl rfl (by omega)) (i64c (by omega))) ?_
  refine o_fnR (haft dp hdp1) rfl rfl rfl rfl rfl SubRC.sub (fun x26 => ?_)
  refine o_st rfl inf81 rfl rfl rfl rfl rfl rfl rfl rfl ?_
  refine o_nil ?_
  with_reducible refine r_then ?_
  refine r_seq ?_
  refine r_seq ?_
  obtain ⟨⟨b, br, ow⟩, hbr, how⟩ := x26
  replace hbr : 0 ≤ br ∧ br ≤ 4000 * ((dp : Int) + 1) := hbr
  replace how : 0 ≤ ow ∧ ow ≤ 4000 * ((dp : Int) + 1) := how
  refine Imp.box_to b11 [.slice (some ⟨b, 0, none⟩) D.dues.length D.dues.length, i64 (accT D am pa who (d)).2, i64 br, i64 ow] (by rw [hdp1]; rfl) ?_
  refine Imp.box_to b ((arrL (accT D am pa who (d)).1 D.dues.length).flatMap encI) (by rw [hdp1]) ?_
  refine r_region ?_
  refine o_q _ rfl rfl rfl (v_assign rfl rfl) ?_
  refine o_nil ?_
  with_reducible refine r_then ?_
  refine r_block ?_
  refine r_loop (ι := Nat × Int) (fun gh => gh.1 ≤ D.dues.length ∧ (0 ≤ gh.2 ∧ gh.2 ≤ 4000 * (d : Int) + 500 * (gh.1 : Int))) (fun gh => [(2, i64 who), (3, i64 (d : Int)), (4, i64 0), (5, pt b5 0), (6, pt b6 0), (10, pt b10 0), (11, pt b11 0), (12, i64 (gh.1 : Int))]) (fun gh => bx b 3 ((arrL ((accT D am pa who (d)).1 ++ newTo D (amF am) who d gh.1) D.dues.length).flatMap encI) :: bx b11 81 [.slice (some ⟨b, 0, none⟩) D.dues.length D.dues.length, i64 (accT D am pa who (d)).2, i64 br, i64 gh.2] :: bx b6 43 [.slice ao am.length ac, .slice qo pa.length qc] :: bx b5 25 (cellsD D uo po uc pc) :: bx b10 81 [.slice none 0 0, i64 0, i64 0, i64 0] :: M) (fun gh => [rowD uo 5 encD D.dues, rowD po 4 encP D.paid, rowD ao 1 encI am, rowD qo 1 encI pa] ++ Rf) (fun gh => D.dues.length - gh.1) (0, ow) ?_ ?_ ?_
  ·
   refine Imp.box_to b ((arrL ((accT D am pa who (d)).1 ++ newTo D (amF am) who d 0) D.dues.length).flatMap encI) (by rw [show newTo D (amF am) who d 0 = [] from rfl, List.append_nil]) ?_
   refine Imp.box_to b6 [.slice ao am.length ac, .slice qo pa.length qc] rfl ?_
   refine Imp.box_to b10 [.slice none 0 0, i64 0, i64 0, i64 0] rfl ?_
   exact r_here (by (repeat (first | exact FSub.nil | refine FSub.cons rfl ?_)); first | done | fail) SelMC.sel SubRC.sub
  ·
   exact ⟨Nat.zero_le _, by show 0 ≤ ow; omega, by show ow ≤ 4000 * (d : Int) + 500 * ((0 : Nat) : Int); omega⟩
  ·
   rintro ⟨k, ow1⟩ hI0
   dsimp only at hI0
   dsimp only
   obtain ⟨hk1, hk2, hk3⟩ := hI0
   refine r_seq ?_
   refine r_seq ?_
   refine r_region ?_
   refine o_q _ rfl rfl rfl (v_move rfl rfl) ?_
   refine o_q _ rfl rfl rfl (v_fieldAddr rfl Tryd.underlying25 inf22 rfl rfl rfl rfl) ?_
   refine o_q _ rfl rfl rfl (v_ld1 rfl Tryd.underlying22 rfl rfl rfl) ?_
   refine o_q _ rfl rfl rfl (v_len rfl rfl Tryd.underlying22 rfl) ?_
   refine o_q _ rfl rfl rfl (v_lss rfl rfl rfl) ?_
   refine o_nil ?_
   with_reducible refine r_then ?_
   refine r_condd rfl (fun hc31 => ?_) (fun hc31 => ?_)
   ·
    refine r_skip ?_
    with_reducible refine r_then ?_
    refine r_seq ?_
    refine r_block ?_
    refine r_seq ?_
    refine r_region ?_
    refine o_q _ rfl rfl rfl (v_fieldAddr rfl Tryd.underlying25 inf22 rfl rfl rfl rfl) ?_
    refine o_q _ rfl rfl rfl (v_ld1 rfl Tryd.underlying22 rfl rfl rfl) ?_
    refine o_q _ rfl rfl rfl (v_move rfl rfl) ?_
    refine o_q _ rfl rfl rfl (v_indexAddrSn rfl Tryd.underlying22 inf62 rfl rfl rfl (by omega) rfl) ?_
    refine o_q _ rfl rfl rfl (v_fieldAddr rfl Tryd.underlying62 inf3 rfl rfl rfl rfl) ?_
    refine o_q _ rfl rfl rfl (v_loadE1 (v := i64 (D.dues.getD k default).who) (j := 0) rfl Tryd.underlying3 rfl rfl (by omega) rfl rfl) ?_
    refine o_q _ rfl rfl rfl (v_move rfl rfl) ?_
    refine o_test rfl rfl rfl (v_eql rfl rfl rfl) (fun h41 => ?_) (fun h41 => ?_)
    all_goals
     refine o_q _ rfl rfl rfl (v_move rfl rfl) ?_
     first | refine o_gn rfl rfl rfl rfl ?_ | refine o_g _ rfl rfl rfl rfl (v_fieldAddr rfl Tryd.underlying25 inf22 rfl rfl rfl rfl) ?_
     first | refine o_gn rfl rfl rfl rfl ?_ | refine o_g _ rfl rfl rfl rfl (v_ld1 rfl Tryd.underlying22 rfl rfl rfl) ?_
     first | refine o_gn rfl rfl rfl rfl ?_ | refine o_g _ rfl rfl rfl rfl (v_move rfl rfl) ?_
     first | refine o_gn rfl rfl rfl rfl ?_ | refine o_g _ rfl rfl rfl rfl (v_indexAddrSn rfl Tryd.underlying22 inf62 rfl rfl rfl (by omega) rfl) ?_
     first | refine o_gn rfl rfl rfl rfl ?_ | refine o_g _ rfl rfl rfl rfl (v_fieldAddr rfl Tryd.underlying62 inf3 rfl rfl rfl rfl) ?_
     first | refine o_gn rfl rfl rfl rfl ?_ | refine o_g _ rfl rfl rfl rfl (v_loadE1 (v := i64 (D.dues.getD k default).day) (j := 1) rfl Tryd.underlying3 rfl rfl (by omega) rfl rfl) ?_
     first | refine o_gn rfl rfl rfl rfl ?_ | refine o_g _ rfl rfl rfl rfl (v_move rfl rfl) ?_
     first | refine o_gn rfl rfl rfl rfl ?_ | refine o_gtest rfl rfl rfl rfl (v_eql rfl rfl rfl) (fun h50 => ?_) (fun h50 => ?_)
     all_goals
      first | refine o_q _ rfl rfl rfl (v_pick_t rfl rfl rfl) ?_ | refine o_q _ rfl rfl rfl (v_pick_f rfl rfl rfl) ?_
      refine o_nil ?_
      with_reducible refine r_then ?_
      refine r_cond rfl (fun hc51 => ?_) (fun hc51 => ?_)
      ·
       first
       | (exfalso; revert hc51; decide)
       |
        skip
        refine r_seq ?_
        refine r_par' 8 mixed (by kernel_rfl) (by rfl) ?_
        refine p_q _ rfl rfl rfl (fun _ _ => v_fieldAddr rfl Tryd.underlying81 inf41 rfl rfl rfl rfl) ?_
        refine p_q _ rfl rfl rfl (fun _ _ => v_ld1 rfl Tryd.underlying41 rfl rfl rfl) ?_
        refine p_q _ rfl rfl rfl (fun _ _ => v_move rfl rfl) ?_
        refine p_q _ rfl rfl rfl (fun _ _ => v_fieldAddr rfl Tryd.underlying43 inf41 rfl rfl rfl rfl) ?_
        refine p_q _ rfl rfl rfl (fun _ _ => v_ld1 rfl Tryd.underlying41 rfl rfl rfl) ?_
        refine p_q _ rfl rfl rfl (fun _ _ => v_move rfl rfl) ?_
        refine p_q _ rfl rfl rfl (fun _ _ => v_indexAddrSn rfl Tryd.underlying41 inf3 rfl rfl rfl (by omega) rfl) ?_
        refine p_q _ rfl rfl rfl (fun _ _ => v_loadE1 (v := i64 (am.getD k default)) rfl Tryd.underlying3 rfl rfl (by omega) rfl rfl) ?_
        refine p_nil2 (by simp only [List.nil_append, List.cons_append]; rfl) rfl ?_
        refine f_q rfl ?_
        refine f_q rfl ?_
        refine f_q rfl ?_
        refine f_q rfl ?_
        refine f_q rfl ?_
        refine f_q rfl ?_
        refine f_q rfl ?_
        refine f_q rfl ?_
        refine f_nil ?_
        refine o_q _ rfl rfl rfl (v_indexAddrB rfl Tryd.underlying41 inf3 rfl rfl (by omega)) ?_
        refine o_st rfl inf3 rfl rfl rfl rfl rfl rfl rfl (boxI_ble (by rw [arr_len]; omega)) ?_
        refine o_nil ?_
        with_reducible refine r_then ?_
        have hak := h.bdA hg k (by omega)
        refine r_par' 8 mixed (by kernel_rfl) (by rfl) ?_
        refine p_q _ rfl rfl rfl (fun _ _ => v_fieldAddr rfl Tryd.underlying81 inf3 rfl rfl rfl rfl) ?_
        refine p_q _ rfl rfl rfl (fun _ _ => v_ld1 rfl Tryd.underlying3 rfl rfl rfl) ?_
        refine p_q _ rfl rfl rfl (fun _ _ => v_fieldAddr rfl Tryd.underlying43 inf41 rfl rfl rfl rfl) ?_
        refine p_q _ rfl rfl rfl (fun _ _ => v_ld1 rfl Tryd.underlying41 rfl rfl rfl) ?_
        refine p_q _ rfl rfl rfl (fun _ _ => v_move rfl rfl) ?_
        refine p_q _ rfl rfl rfl (fun _ _ => v_indexAddrSn rfl Tryd.underlying41 inf3 rfl rfl rfl (by omega) rfl) ?_
        refine p_q _ rfl rfl rfl (fun _ _ => v_loadE1 (v := i64 (am.getD k default)) rfl Tryd.underlying3 rfl rfl (by omega) rfl rfl) ?_
        refine p_q _ rfl rfl rfl (fun _ _ => v_add rfl rfl rfl (by omega)) ?_
        refine p_nil2 (by simp only [List.nil_append, List.cons_append]; rfl) rfl ?_
        refine f_q rfl ?_
        refine f_q rfl ?_
        refine f_q rfl ?_
        refine f_q rfl ?_
        refine f_q rfl ?_
        refine f_q rfl ?_
        refine f_q rfl ?_
        refine f_q rfl ?_
        refine f_nil ?_
        refine o_q _ rfl rfl rfl (v_fieldAddr rfl Tryd.underlying81 inf3 rfl rfl rfl rfl) ?_
        refine o_st rfl inf3 rfl rfl rfl rfl rfl rfl rfl rfl ?_
        refine o_nil ?_
        with_reducible refine r_in_normal ?_; refine r_then ?_
        refine r_region ?_
        refine o_q _ rfl rfl rfl (v_move rfl rfl) ?_
        refine o_q _ rfl rfl rfl (v_add rfl rfl rfl (by omega)) ?_
        refine o_q _ rfl rfl rfl (v_assign rfl rfl) ?_
        refine o_nil ?_
        with_reducible refine r_then ?_
        exact r_next ((k + 1, ow1 + am.getD k default)) (by refine Imp.box_to b11 [.slice (some ⟨b, 0, none⟩) D.dues.length D.dues.length, i64 (accT D am pa who (d)).2, i64 br, i64 (ow1 + am.getD k default)] rfl ?_; refine Imp.box_to b ((arrL ((accT D am pa who (d)).1 ++ newTo D (amF am) who d (k + 1)) D.dues.length).flatMap encI) (box_next (by rw [arr_len]; omega) (new_arrT hg h who d (k := k) (by omega) (by assumption) (by assumption))) ?_; exact r_here (by (repeat (first | exact FSub.nil | refine FSub.cons rfl ?_)); first | done | fail) SelMC.sel SubRC.sub) (by exact ⟨by show k + 1 ≤ _; omega, by show 0 ≤ ow1 + _; omega, by show ow1 + _ ≤ 4000 * (d : Int) + 500 * ((k + 1 : Nat) : Int); omega⟩) (by show D.dues.length - (k + 1) < D.dues.length - k; omega)
      ·
       first
       | (exfalso; revert hc51; decide)
       |
        skip
        refine r_skip ?_
        with_reducible refine r_in_normal ?_; refine r_then ?_
        refine r_region ?_
        refine o_q _ rfl rfl rfl (v_move rfl rfl) ?_
        refine o_q _ rfl rfl rfl (v_add rfl rfl rfl (by omega)) ?_
        refine o_q _ rfl rfl rfl (v_assign rfl rfl) ?_
        refine o_nil ?_
        with_reducible refine r_then ?_
        exact r_next ((k + 1, ow1)) (by refine Imp.box_to b ((arrL ((accT D am pa who (d)).1 ++ newTo D (amF am) who d (k + 1)) D.dues.length).flatMap encI) (by rw [newTo_n (D := D) (am := amF am) (who := who) (d := d) (k := k) (by omega)]) ?_; exact r_here (by (repeat (first | exact FSub.nil | refine FSub.cons rfl ?_)); first | done | fail) SelMC.sel SubRC.sub) (by exact ⟨by show k + 1 ≤ _; omega, by show 0 ≤ ow1; omega, by show ow1 ≤ 4000 * (d : Int) + 500 * ((k + 1 : Nat) : Int); omega⟩) (by show D.dues.length - (k + 1) < D.dues.length - k; omega)
   ·
    refine r_exit ?_
    with_reducible refine r_then_exit ?_; refine r_then_exit ?_; refine r_in_here ?_; refine r_then ?_
    refine r_seq ?_
    obtain rfl : k = D.dues.length := by omega
    have hbd := accT_fit hg h who d
    refine r_region ?_
    refine o_q _ rfl rfl rfl (v_fieldAddr rfl Tryd.underlying81 inf3 rfl rfl rfl rfl) ?_
    refine o_q _ rfl rfl rfl (v_ld1 rfl Tryd.underlying3 rfl rfl rfl) ?_
    refine o_q _ rfl rfl rfl (v_move rfl rfl) ?_
    refine o_q _ rfl rfl rfl (v_add rfl rfl rfl (by omega)) ?_
    refine o_q _ rfl rfl rfl (v_fieldAddr rfl Tryd.underlying81 inf3 rfl rfl rfl rfl) ?_
    refine o_q _ rfl rfl rfl (v_ld1 rfl Tryd.underlying3 rfl rfl rfl) ?_
    refine o_q _ rfl rfl rfl (v_move rfl rfl) ?_
    refine o_q _ rfl rfl rfl (v_add rfl rfl rfl (by omega)) ?_
    refine o_q _ rfl rfl rfl (v_fieldAddr rfl Tryd.underlying81 inf3 rfl rfl rfl rfl) ?_
    refine o_st rfl inf3 rfl rfl rfl rfl rfl rfl rfl rfl ?_
    refine o_q _ rfl rfl rfl (v_fieldAddr rfl Tryd.underlying81 inf3 rfl rfl rfl rfl) ?_
    refine o_st rfl inf3 rfl rfl rfl rfl rfl rfl rfl rfl ?_
    refine o_nil ?_
    with_reducible refine r_then ?_
    refine r_seq ?_
    refine r_seq ?_
    refine Imp.box_to b11 [.slice (some ⟨b, 0, none⟩) D.dues.length D.dues.length, i64 ((accT D am pa who (d)).2 + (paidTo D (amF pa) who d 0)), i64 br, i64 ow1] (by show ([_, i64 ((accT D am pa who (d)).2 + 0), i64 (br + 0), _] : List Value) = [_, i64 ((accT D am pa who (d)).2 + (paidTo D (amF pa) who d 0)), i64 br, _]; rw [Int.add_zero br]; rfl) ?_
    refine r_region ?_
    refine o_q _ rfl rfl rfl (v_assign rfl rfl) ?_
    refine o_nil ?_
    with_reducible refine r_then ?_
    refine r_block ?_
    refine r_loop (ι := Nat × Int) (fun gh => gh.1 ≤ D.paid.length ∧ (0 ≤ gh.2 ∧ gh.2 ≤ 4000 * (d : Int) + 500 * (gh.1 : Int))) (fun gh => [(2, i64 who), (3, i64 (d : Int)), (4, i64 0), (5, pt b5 0), (6, pt b6 0), (10, pt b10 0), (11, pt b11 0), (13, i64 (gh.1 : Int))]) (fun gh => bx b 3 ((arrL (lstT D am pa who d) D.dues.length).flatMap encI) :: bx b11 81 [.slice (some ⟨b, 0, none⟩) D.dues.length D.dues.length, i64 ((accT D am pa who (d)).2 + (paidTo D (amF pa) who d gh.1)), i64 gh.2, i64 ow1] :: bx b6 43 [.slice ao am.length ac, .slice qo pa.length qc] :: bx b5 25 (cellsD D uo po uc pc) :: bx b10 81 [.slice none 0 0, i64 0, i64 0, i64 0] :: M) (fun gh => [rowD uo 5 encD D.dues, rowD po 4 encP D.paid, rowD ao 1 encI am, rowD qo 1 encI pa] ++ Rf) (fun gh => D.paid.length - gh.1) (0, br) ?_ ?_ ?_
    ·
     refine Imp.box_to b ((arrL (lstT D am pa who d) D.dues.length).flatMap encI) rfl ?_
     exact r_here (by (repeat (first | exact FSub.nil | refine FSub.cons rfl ?_)); first | done | fail) SelMC.sel SubRC.sub
    ·
     exact ⟨Nat.zero_le _, by show 0 ≤ br; omega, by show br ≤ 4000 * (d : Int) + 500 * ((0 : Nat) : Int); omega⟩
    ·
     rintro ⟨k, br1⟩ hI1
     dsimp only at hI1
     dsimp only
     obtain ⟨hj1, hj2, hj3⟩ := hI1
     refine r_seq ?_
     refine r_seq ?_
     refine r_region ?_
     refine o_q _ rfl rfl rfl (v_move rfl rfl) ?_
     refine o_q _ rfl rfl rfl (v_fieldAddr rfl Tryd.underlying25 inf23 rfl rfl rfl rfl) ?_
     refine o_q _ rfl rfl rfl (v_ld1 rfl Tryd.underlying23 rfl rfl rfl) ?_
     refine o_q _ rfl rfl rfl (v_len rfl rfl Tryd.underlying23 rfl) ?_
     refine o_q _ rfl rfl rfl (v_lss rfl rfl rfl) ?_
     refine o_nil ?_
     with_reducible refine r_then ?_
     refine r_condd rfl (fun hc84 => ?_) (fun hc84 => ?_)
     ·
      refine r_skip ?_
      with_reducible refine r_then ?_
      refine r_seq ?_
      refine r_block ?_
      refine r_seq ?_
      refine r_region ?_
      refine o_q _ rfl rfl rfl (v_fieldAddr rfl Tryd.underlying25 inf23 rfl rfl rfl rfl) ?_
      refine o_q _ rfl rfl rfl (v_ld1 rfl Tryd.underlying23 rfl rfl rfl) ?_
      refine o_q _ rfl rfl rfl (v_move rfl rfl) ?_
      refine o_q _ rfl rfl rfl (v_indexAddrSn rfl Tryd.underlying23 inf54 rfl rfl rfl (by omega) rfl) ?_
      refine o_q _ rfl rfl rfl (v_fieldAddr rfl Tryd.underlying54 inf3 rfl rfl rfl rfl) ?_
      refine o_q _ rfl rfl rfl (v_loadE1 (v := i64 (D.paid.getD k default).who) (j := 0) rfl Tryd.underlying3 rfl rfl (by omega) rfl rfl) ?_
      refine o_q _ rfl rfl rfl (v_move rfl rfl) ?_
      refine o_test rfl rfl rfl (v_eql rfl rfl rfl) (fun h94 => ?_) (fun h94 => ?_)
      all_goals
       refine o_q _ rfl rfl rfl (v_move rfl rfl) ?_
       first | refine o_gn rfl rfl rfl rfl ?_ | refine o_g _ rfl rfl rfl rfl (v_fieldAddr rfl Tryd.underlying25 inf23 rfl rfl rfl rfl) ?_
       first | refine o_gn rfl rfl rfl rfl ?_ | refine o_g _ rfl rfl rfl rfl (v_ld1 rfl Tryd.underlying23 rfl rfl rfl) ?_
       first | refine o_gn rfl rfl rfl rfl ?_ | refine o_g _ rfl rfl rfl rfl (v_move rfl rfl) ?_
       first | refine o_gn rfl rfl rfl rfl ?_ | refine o_g _ rfl rfl rfl rfl (v_indexAddrSn rfl Tryd.underlying23 inf54 rfl rfl rfl (by omega) rfl) ?_
       first | refine o_gn rfl rfl rfl rfl ?_ | refine o_g _ rfl rfl rfl rfl (v_fieldAddr rfl Tryd.underlying54 inf3 rfl rfl rfl rfl) ?_
       first | refine o_gn rfl rfl rfl rfl ?_ | refine o_g _ rfl rfl rfl rfl (v_loadE1 (v := i64 (D.paid.getD k default).day) (j := 1) rfl Tryd.underlying3 rfl rfl (by omega) rfl rfl) ?_
       first | refine o_gn rfl rfl rfl rfl ?_ | refine o_g _ rfl rfl rfl rfl (v_move rfl rfl) ?_
       first | refine o_gn rfl rfl rfl rfl ?_ | refine o_gtest rfl rfl rfl rfl (v_eql rfl rfl rfl) (fun h103 => ?_) (fun h103 => ?_)
       all_goals
        first | refine o_q _ rfl rfl rfl (v_pick_t rfl rfl rfl) ?_ | refine o_q _ rfl rfl rfl (v_pick_f rfl rfl rfl) ?_
        refine o_nil ?_
        with_reducible refine r_then ?_
        refine r_cond rfl (fun hc104 => ?_) (fun hc104 => ?_)
        ·
         first
         | (exfalso; revert hc104; decide)
         |
          skip
          have hpk := h.bdP hg k (by omega)
          have hpt := paid_bdT hg h who d (n := k) (by omega)
          have hbd2 := accT_fit hg h who d
          refine r_parZ (fun w => w.heap[b6]? = some (.cells ([.slice ao am.length ac, .slice qo pa.length qc] : List Value).toArray 43 (0, 0)) ∧ rowD qo 1 encI pa (full w)) (fun X F w h => ⟨h.bl (List.mem_append_right _ (HasBox.mem (b := b6))), h.fact (φ := rowD qo 1 encI pa) (List.mem_append_right _ (HasRow.mem))⟩) [10, 11, 12, 13, 14, 15] 16 (by kernel_rfl) (by kernel_rfl) (by kernel_rfl) (by kernel_rfl) (by kernel_rfl) mixed (by kernel_rfl) (by rfl) ?_
          refine p_q _ rfl rfl rfl (fun _ _ => v_fieldAddr rfl Tryd.underlying81 inf3 rfl rfl rfl rfl) ?_
          refine p_q _ rfl rfl rfl (fun _ _ => v_ld1 rfl Tryd.underlying3 rfl rfl rfl) ?_
          refine p_q _ rfl rfl rfl (fun _ _ => v_fieldAddr rfl Tryd.underlying43 inf41 rfl rfl rfl rfl) ?_
          refine p_q _ rfl rfl rfl (fun _ _ => v_ld1 rfl Tryd.underlying41 rfl rfl rfl) ?_
          refine p_q _ rfl rfl rfl (fun _ _ => v_move rfl rfl) ?_
          refine p_q _ rfl rfl rfl (fun _ _ => v_indexAddrSn rfl Tryd.underlying41 inf3 rfl rfl rfl (by omega) rfl) ?_
          refine p_q _ rfl rfl rfl (fun _ _ => v_loadE1 (v := i64 (pa.getD k default)) rfl Tryd.underlying3 rfl rfl (by omega) rfl rfl) ?_
          refine p_q _ rfl rfl rfl (fun _ _ => v_add rfl rfl rfl (by omega)) ?_
          refine p_q _ rfl rfl rfl (fun _ _ => v_fieldAddr rfl Tryd.underlying81 inf3 rfl rfl rfl rfl) ?_
          refine p_q _ rfl rfl rfl (fun _ _ => v_ld1 rfl Tryd.underlying3 rfl rfl rfl) ?_
          refine p_q _ rfl rfl rfl (fun _ _ => v_fieldAddr rfl Tryd.underlying43 inf41 rfl rfl rfl rfl) ?_
          refine p_q _ rfl rfl rfl (fun _ _ => v_ld1 rfl Tryd.underlying41 rfl rfl rfl) ?_
          refine p_q _ rfl rfl rfl (fun _ _ => v_move rfl rfl) ?_
          refine p_q _ rfl rfl rfl (fun _ _ => v_indexAddrSn rfl Tryd.underlying41 inf3 rfl rfl rfl (by omega) rfl) ?_
          refine p_q _ rfl rfl rfl (fun _ _ => v_loadE1 (v := i64 (pa.getD k default)) rfl Tryd.underlying3 rfl rfl (by omega) rfl rfl) ?_
          refine p_q _ rfl rfl rfl (fun _ _ => v_add rfl rfl rfl (by omega)) ?_
          refine p_nilF (by simp only [List.nil_append, List.cons_append]; rfl) rfl ⟨⟨_, _, _, rfl, rfl, rfl, rfl, rfl, float_field rfl Tryd.underlying43 inf41 rfl rfl rfl rfl⟩, ⟨_, _, _, rfl, rfl, rfl, rfl, rfl, float_cell (vs := [.slice ao am.length ac, .slice qo pa.length qc]) (B := 43) rfl Tryd.underlying41 rfl rfl rfl (fun _ h => h.1)⟩, ⟨_, _, _, rfl, rfl, rfl, rfl, rfl, float_mv rfl rfl⟩, ⟨_, _, _, rfl, rfl, rfl, rfl, rfl, float_idx (k := k) (enc := encI) (xs := pa) rfl Tryd.underlying41 inf3 rfl rfl rfl (by omega) rfl (fun _ h => h.2)⟩, ⟨_, _, _, rfl, rfl, rfl, rfl, rfl, float_elt (v := i64 (pa.getD k default)) (enc := encI) (xs := pa) rfl Tryd.underlying3 rfl rfl (by omega) rfl rfl (fun _ h => h.2)⟩, ⟨_, _, _, rfl, rfl, rfl, rfl, rfl, float_addZ rfl rfl rfl (by omega)⟩, trivial⟩ ?_
          refine f_q rfl ?_
          refine f_q rfl ?_
          refine f_q rfl ?_
          refine f_q rfl ?_
          refine f_q rfl ?_
          refine f_q rfl ?_
          refine f_q rfl ?_
          refine f_q rfl ?_
          refine f_q rfl ?_
          refine f_q rfl ?_
          refine f_q rfl ?_
          refine f_q rfl ?_
          refine f_q rfl ?_
          refine f_q rfl ?_
          refine f_q rfl ?_
          refine f_q rfl ?_
          refine f_nil ?_
          refine oz_lift (fun w h => ⟨h.bl (HasBox.mem (b := b6)), h.fact (φ := rowD qo 1 encI pa) HasRow.mem⟩) ?_
          refine o_q _ rfl rfl rfl (v_fieldAddr rfl Tryd.underlying81 inf3 rfl rfl rfl rfl) ?_
          refine o_nil ?_
          refine r_then ?_
          refine oz_lift (fun w h => ⟨h.bl (HasBox.mem (b := b6)), h.fact (φ := rowD qo 1 encI pa) HasRow.mem⟩) ?_
          refine o_st rfl inf3 rfl rfl rfl rfl rfl rfl rfl rfl ?_
          refine o_nil ?_
          refine r_then ?_
          refine oz_lift (fun w h => ⟨h.bl (HasBox.mem (b := b6)), h.fact (φ := rowD qo 1 encI pa) HasRow.mem⟩) ?_
          refine o_q _ rfl rfl rfl (v_fieldAddr rfl Tryd.underlying81 inf3 rfl rfl rfl rfl) ?_
          refine o_nil ?_
          refine r_then ?_
          refine oz_lift (fun w h => ⟨h.bl (HasBox.mem (b := b6)), h.fact (φ := rowD qo 1 encI pa) HasRow.mem⟩) ?_
          refine o_st rfl inf3 rfl rfl rfl rfl rfl rfl rfl rfl ?_
          refine o_nil ?_
          refine r_then ?_
          refine oz_nil (fun w h => ⟨h.bl (HasBox.mem (b := b6)), h.fact (φ := rowD qo 1 encI pa) HasRow.mem⟩) ?_
          refine r_nop ?_
          with_reducible refine r_in_normal ?_; refine r_then ?_
          refine r_region ?_
          refine o_q _ rfl rfl rfl (v_move rfl rfl) ?_
          refine o_q _ rfl rfl rfl (v_add rfl rfl rfl (by omega)) ?_
          refine o_q _ rfl rfl rfl (v_assign rfl rfl) ?_
          refine o_nil ?_
          with_reducible refine r_then ?_
          exact r_next ((k + 1, br1 + pa.getD k default)) (by refine Imp.box_to b11 [.slice (some ⟨b, 0, none⟩) D.dues.length D.dues.length, i64 ((accT D am pa who (d)).2 + (paidTo D (amF pa) who d (k + 1))), i64 (br1 + pa.getD k default), i64 ow1] (by rw [← add_y (A := (accT D am pa who (d)).2) (paidTo_y (D := D) (pa := amF pa) (who := who) (d := d) (k := k) (by omega) (by omega))]; rfl) ?_; exact r_here (by (repeat (first | exact FSub.nil | refine FSub.cons rfl ?_)); first | done | fail) SelMC.sel SubRC.sub) (by exact ⟨by show k + 1 ≤ _; omega, by show 0 ≤ br1 + _; omega, by show br1 + _ ≤ 4000 * (d : Int) + 500 * ((k + 1 : Nat) : Int); omega⟩) (by show D.paid.length - (k + 1) < D.paid.length - k; omega)
        ·
         first
         | (exfalso; revert hc104; decide)
         |
          skip
          refine r_skip ?_
          with_reducible refine r_in_normal ?_; refine r_then ?_
          refine r_region ?_
          refine o_q _ rfl rfl rfl (v_move rfl rfl) ?_
          refine o_q _ rfl rfl rfl (v_add rfl rfl rfl (by omega)) ?_
          refine o_q _ rfl rfl rfl (v_assign rfl rfl) ?_
          refine o_nil ?_
          with_reducible refine r_then ?_
          exact r_next ((k + 1, br1)) (by refine Imp.box_to b11 [.slice (some ⟨b, 0, none⟩) D.dues.length D.dues.length, i64 ((accT D am pa who (d)).2 + (paidTo D (amF pa) who d (k + 1))), i64 br1, i64 ow1] (by rw [paidTo_n (D := D) (pa := amF pa) (who := who) (d := d) (k := k) (by omega)]) ?_; exact r_here (by (repeat (first | exact FSub.nil | refine FSub.cons rfl ?_)); first | done | fail) SelMC.sel SubRC.sub) (by exact ⟨by show k + 1 ≤ _; omega, by show 0 ≤ br1; omega, by show br1 ≤ 4000 * (d : Int) + 500 * ((k + 1 : Nat) : Int); omega⟩) (by show D.paid.length - (k + 1) < D.paid.length - k; omega)
     ·
      refine r_exit ?_
      with_reducible refine r_then_exit ?_; refine r_then_exit ?_; refine r_in_here ?_; refine r_then ?_
      refine r_seq ?_
      obtain rfl : k = D.paid.length := by omega
      refine Imp.box_to b11 [.slice (some ⟨b, 0, none⟩) D.dues.length D.dues.length, i64 (bagT D am pa who d), i64 br1, i64 ow1] rfl ?_
      refine r_region ?_
      refine o_q _ rfl rfl rfl (v_ldW rfl Tryd.underlying25 rfl inf25 rfl rfl) ?_
      refine o_q _ rfl rfl rfl (v_ldW rfl Tryd.underlying81 rfl inf81 rfl rfl) ?_
      refine o_q _ rfl rfl rfl (v_move rfl rfl) ?_
      refine o_q _ rfl rfl rfl (v_move rfl rfl) ?_
      refine o_fnc (pay_c D uo po uc pc am pa b br1 ow1 hg h who d hd) rfl [] [] rfl rfl rfl rfl rfl rfl SubRC.sub ?_
      refine o_st rfl inf81 rfl rfl rfl rfl rfl rfl rfl rfl ?_
      refine o_nil ?_
      with_reducible refine r_then ?_
      refine r_ret ?_
      refine Imp.box_to b10 [.slice (some ⟨b, 0, none⟩) D.dues.length D.dues.length, i64 (restF (lstT D am pa who d) (bagT D am pa who d)), i64 br1, i64 ow1] rfl ?_
      exact r_rete [bx b 3 ((arrL (payF (lstT D am pa who d) (bagT D am pa who d)) D.dues.length).flatMap encI)] [] (Rd.one rfl (RdI.cellW Tryd.underlying81 rfl inf81 rfl rfl)) ⟨⟨(b, br1, ow1), ⟨hj2, by show br1 ≤ 4000 * (d : Int) + 3500; omega⟩, ⟨hk2, by show ow1 ≤ 4000 * (d : Int) + 3500; omega⟩⟩, rfl, rfl, rfl⟩ SelMC.sel SubRC.sub
 ·
  (exfalso; omega)
end Go.Proofs.YtpfgiednfjfdmaaDoor


namespace Go.Proofs.YtpfgiednfjfdmaaDoor
open Go.G Debt10
set_option maxRecDepth 1000000
attribute [local irreducible] G.ParO G.Fin
attribute [local irreducible] leftT aheadT gradeS setT trA trP acc0 setK
variable (D : Debt) (uo po : Option Addr) (uc pc : Nat)
set_option maxHeartbeats 4000000 in
theorem after_of (am pa : List Int) (ao qo : Option Addr) (ac qc : Nat) (hg : GoodD D) (h : TruD D am pa) (who : Int) (d : Nat) (hd : d ≤ 30) (hbef : FnS Tryd.prog 75 [valD D uo po uc pc, vTr ao am.length ac qo pa.length qc, i64 who, i64 (d : Int), i64 0] [] [rowD uo 5 encD D.dues, rowD po 4 encP D.paid, rowD ao 1 encI am, rowD qo 1 encI pa] (fun e M' R' => ∃ x : AcX (4000 * (d : Int) + 3500), e = .returned (.agg ([.slice (some ⟨x.1.1, 0, none⟩) D.dues.length D.dues.length, i64 (restF (lstT D am pa who d) (bagT D am pa who d)), i64 x.1.2.1, i64 x.1.2.2] : List Value).toArray) ∧ M' = [bx x.1.1 3 ((arrL (payF (lstT D am pa who d) (bagT D am pa who d)) D.dues.length).flatMap encI)] ∧ R' = [])) : FnS Tryd.prog 53 [valD D uo po uc pc, vTr ao am.length ac qo pa.length qc, i64 who, i64 (d : Int)] [] [rowD uo 5 encD D.dues, rowD po 4 encP D.paid, rowD ao 1 encI am, rowD qo 1 encI pa] (fun e M' R' => ∃ x : AcX (4000 * ((d : Int) + 1)), e = .returned (.agg ([.slice (some ⟨x.1.1, 0, none⟩) D.dues.length D.dues.length, i64 (accT D am pa who (d + 1)).2, i64 x.1.2.1, i64 x.1.2.2] : List Value).toArray) ∧ M' = [bx x.1.1 3 ((arrL (accT D am pa who (d + 1)).1 D.dues.length).flatMap encI)] ∧ R' = []) := by
 have hp1 := hg.np
 have hp2 := hg.nd
 have hp3 := hg.ny
 have hna := h.na
 have hnp := h.np
 refine FnS.intro0 Tryd.call53 Tryd.func53 rfl Tryd.ntmps53 rfl ?_
 intro W M Rf
 refine r_seq ?_
 refine r_region ?_
 refine o_boxA rfl rfl rfl rfl rfl (fun b4 => ?_)
 refine o_boxA rfl rfl rfl rfl rfl (fun b5 => ?_)
 refine o_alloc rfl inf81 rfl rfl rfl rfl rfl (fun b8 => ?_)
 refine o_nil ?_
 with_reducible refine r_then ?_
 refine r_seq ?_
 refine r_region ?_
 refine o_q _ rfl rfl rfl (v_ldW rfl Tryd.underlying25 rfl inf25 rfl rfl) ?_
 refine o_q _ rfl rfl rfl (v_ldW rfl Tryd.underlying43 rfl inf43 rfl rfl) ?_
 refine o_q _ rfl rfl rfl (v_move rfl rfl) ?_
 refine o_q _ rfl rfl rfl (v_move rfl rfl) ?_
 refine o_fnR hbef rfl rfl rfl rfl rfl SubRC.sub (fun x15 => ?_)
 refine o_alloc rfl inf81 rfl rfl rfl rfl rfl (fun b9 => ?_)
 refine o_st rfl inf81 rfl rfl rfl rfl rfl rfl rfl rfl ?_
 refine o_nil ?_
 with_reducible refine r_then ?_
 refine r_seq ?_
 refine r_seq ?_
 obtain ⟨⟨b, br, ow⟩, hbr, how⟩ := x15
 replace hbr : 0 ≤ br ∧ br ≤ 4000 * (d : Int) + 3500 := hbr
 replace how : 0 ≤ ow ∧ ow ≤ 4000 * (d : Int) + 3500 := how
 refine Imp.box_to b9 [.slice (some ⟨b, 0, none⟩) D.dues.length D.dues.length, i64 (restF (lstT D am pa who d) (bagT D am pa who d)), i64 br, i64 ow] rfl ?_
 refine r_region ?_
 refine o_q _ rfl rfl rfl (v_assign rfl rfl) ?_
 refine o_nil ?_
 with_reducible refine r_then ?_
 refine r_block ?_
 refine r_loop (ι := Nat × Int) (fun gh => gh.1 ≤ D.dues.length ∧ (0 ≤ gh.2 ∧ gh.2 ≤ 4000 * (d : Int) + 3500 + 10 * (gh.1 : Int))) (fun gh => [(2, i64 who), (3, i64 (d : Int)), (4, pt b4 0), (5, pt b5 0), (8, pt b8 0), (9, pt b9 0), (10, i64 (gh.1 : Int))]) (fun gh => bx b 3 ((arrL (growN d gh.1 (payF (lstT D am pa who d) (bagT D am pa who d))) D.dues.length).flatMap encI) :: bx b9 81 [.slice (some ⟨b, 0, none⟩) D.dues.length D.dues.length, i64 (restF (lstT D am pa who d) (bagT D am pa who d)), i64 br, i64 gh.2] :: bx b5 43 [.slice ao am.length ac, .slice qo pa.length qc] :: bx b4 25 (cellsD D uo po uc pc) :: bx b8 81 [.slice none 0 0, i64 0, i64 0, i64 0] :: M) (fun gh => [rowD uo 5 encD D.dues, rowD po 4 encP D.paid, rowD ao 1 encI am, rowD qo 1 encI pa] ++ Rf) (fun gh => D.dues.length - gh.1) (0, ow) ?_ ?_ ?_
 ·
  refine Imp.box_to b ((arrL (growN d 0 (payF (lstT D am pa who d) (bagT D am pa who d))) D.dues.length).flatMap encI) (by rw [growN_0]) ?_
  refine Imp.box_to b8 [.slice none 0 0, i64 0, i64 0, i64 0] rfl ?_
  exact r_here (by (repeat (first | exact FSub.nil | refine FSub.cons rfl ?_)); first | done | fail) SelMC.sel SubRC.sub
 ·
  exact ⟨Nat.zero_le _, by show 0 ≤ ow; omega, by show ow ≤ 4000 * (d : Int) + 3500 + 10 * ((0 : Nat) : Int); omega⟩
 ·
  rintro ⟨k, ow1⟩ hI0
  dsimp only at hI0
  dsimp only
  obtain ⟨hk1, hk2, hk3⟩ := hI0
  refine r_seq ?_
  refine r_seq ?_
  refine r_region ?_
  refine o_q _ rfl rfl rfl (v_move rfl rfl) ?_
  refine o_q _ rfl rfl rfl (v_fieldAddr rfl Tryd.underlying25 inf22 rfl rfl rfl rfl) ?_
  refine o_q _ rfl rfl rfl (v_ld1 rfl Tryd.underlying22 rfl rfl rfl) ?_
  refine o_q _ rfl rfl rfl (v_len rfl rfl Tryd.underlying22 rfl) ?_
  refine o_q _ rfl rfl rfl (v_lss rfl rfl rfl) ?_
  refine o_nil ?_
  with_reducible refine r_then ?_
  refine r_condd rfl (fun hc20 => ?_) (fun hc20 => ?_)
  ·
   refine r_skip ?_
   with_reducible refine r_then ?_
   refine r_seq ?_
   refine r_block ?_
   refine r_seq ?_
   have hgb := pay_bdT hg h who d (by omega) k
   obtain ⟨_, _, _, hlate⟩ := hg.dues k (by omega)
   refine r_region ?_
   refine o_q _ rfl rfl rfl (v_fieldAddr rfl Tryd.underlying25 inf22 rfl rfl rfl rfl) ?_
   refine o_q _ rfl rfl rfl (v_ld1 rfl Tryd.underlying22 rfl rfl rfl) ?_
   refine o_q _ rfl rfl rfl (v_move rfl rfl) ?_
   refine o_q _ rfl rfl rfl (v_indexAddrSn rfl Tryd.underlying22 inf62 rfl rfl rfl (by omega) rfl) ?_
   refine o_q _ rfl rfl rfl (v_fieldAddr rfl Tryd.underlying62 inf3 rfl rfl rfl rfl) ?_
   refine o_q _ rfl rfl rfl (v_loadE1 (v := i64 (D.dues.getD k default).day) (j := 1) rfl Tryd.underlying3 rfl rfl (by omega) rfl rfl) ?_
   refine o_q _ rfl rfl rfl (v_move rfl rfl) ?_
   refine o_test rfl rfl rfl (v_lss rfl rfl rfl) (fun h30 => ?_) (fun h30 => ?_)
   all_goals
    refine o_q _ rfl rfl rfl (v_move rfl rfl) ?_
    first | refine o_gn rfl rfl rfl rfl ?_ | refine o_g _ rfl rfl rfl rfl (v_fieldAddr rfl Tryd.underlying81 inf41 rfl rfl rfl rfl) ?_
    first | refine o_gn rfl rfl rfl rfl ?_ | refine o_g _ rfl rfl rfl rfl (v_ld1 rfl Tryd.underlying41 rfl rfl rfl) ?_
    first | refine o_gn rfl rfl rfl rfl ?_ | refine o_g _ rfl rfl rfl rfl (v_move rfl rfl) ?_
    first | refine o_gn rfl rfl rfl rfl ?_ | refine o_g _ rfl rfl rfl rfl (v_indexAddrB rfl Tryd.underlying41 inf3 rfl rfl (by omega)) ?_
    first | refine o_gn rfl rfl rfl rfl ?_ | refine o_g _ rfl rfl rfl rfl (v_cast (v := i64 (valF (payF (lstT D am pa who d) (bagT D am pa who d)) k)) (v_ld1 rfl Tryd.underlying3 rfl rfl (boxI_get (by rw [arr_len]; omega))) (i64c ((arr_at (by omega)).trans (grow_valT hg h who d k)))) ?_
    first | refine o_gn rfl rfl rfl rfl ?_ | refine o_gtest rfl rfl rfl rfl (v_gtr rfl rfl rfl) (fun h37 => ?_) (fun h37 => ?_)
    all_goals
     first | refine o_q _ rfl rfl rfl (v_pick_t rfl rfl rfl) ?_ | refine o_q _ rfl rfl rfl (v_pick_f rfl rfl rfl) ?_
     refine o_nil ?_
     with_reducible refine r_then ?_
     refine r_cond rfl (fun hc38 => ?_) (fun hc38 => ?_)
     ·
      first
      | (exfalso; revert hc38; decide)
      |
       skip
       refine r_seq ?_
       refine r_par' 15 mixed (by kernel_rfl) (by rfl) ?_
       refine p_q _ rfl rfl rfl (fun _ _ => v_fieldAddr rfl Tryd.underlying81 inf41 rfl rfl rfl rfl) ?_
       refine p_q _ rfl rfl rfl (fun _ _ => v_ld1 rfl Tryd.underlying41 rfl rfl rfl) ?_
       refine p_q _ rfl rfl rfl (fun _ _ => v_move rfl rfl) ?_
       refine p_q _ rfl rfl rfl (fun _ _ => v_fieldAddr rfl Tryd.underlying81 inf41 rfl rfl rfl rfl) ?_
       refine p_q _ rfl rfl rfl (fun _ _ => v_ld1 rfl Tryd.underlying41 rfl rfl rfl) ?_
       refine p_q _ rfl rfl rfl (fun _ _ => v_move rfl rfl) ?_
       refine p_q _ rfl rfl rfl (fun _ _ => v_indexAddrB rfl Tryd.underlying41 inf3 rfl rfl (by omega)) ?_
       refine p_q _ rfl rfl rfl (fun _ _ => v_cast (v := i64 (valF (payF (lstT D am pa who d) (bagT D am pa who d)) k)) (v_ld1 rfl Tryd.underlying3 rfl rfl (boxI_get (by rw [arr_len]; omega))) (i64c ((arr_at (by omega)).trans (grow_valT hg h who d k)))) ?_
       refine p_q _ rfl rfl rfl (fun _ _ => v_fieldAddr rfl Tryd.underlying25 inf22 rfl rfl rfl rfl) ?_
       refine p_q _ rfl rfl rfl (fun _ _ => v_ld1 rfl Tryd.underlying22 rfl rfl rfl) ?_
       refine p_q _ rfl rfl rfl (fun _ _ => v_move rfl rfl) ?_
       refine p_q _ rfl rfl rfl (fun _ _ => v_indexAddrSn rfl Tryd.underlying22 inf62 rfl rfl rfl (by omega) rfl) ?_
       refine p_q _ rfl rfl rfl (fun _ _ => v_fieldAddr rfl Tryd.underlying62 inf3 rfl rfl rfl rfl) ?_
       refine p_q _ rfl rfl rfl (fun _ _ => v_loadE1 (v := i64 (D.dues.getD k default).late) (j := 4) rfl Tryd.underlying3 rfl rfl (by omega) rfl rfl) ?_
       refine p_q _ rfl rfl rfl (fun _ _ => v_add rfl rfl rfl (by omega)) ?_
       refine p_nil2 (by simp only [List.nil_append, List.cons_append]; rfl) rfl ?_
       refine f_q rfl ?_
       refine f_q rfl ?_
       refine f_q rfl ?_
       refine f_q rfl ?_
       refine f_q rfl ?_
       refine f_q rfl ?_
       refine f_q rfl ?_
       refine f_q rfl ?_
       refine f_q rfl ?_
       refine f_q rfl ?_
       refine f_q rfl ?_
       refine f_q rfl ?_
       refine f_q rfl ?_
       refine f_q rfl ?_
       refine f_q rfl ?_
       refine f_nil ?_
       refine o_q _ rfl rfl rfl (v_indexAddrB rfl Tryd.underlying41 inf3 rfl rfl (by omega)) ?_
       refine o_st rfl inf3 rfl rfl rfl rfl rfl rfl rfl (boxI_ble (by rw [arr_len]; omega)) ?_
       refine o_nil ?_
       with_reducible refine r_then ?_
       refine r_par' 9 mixed (by kernel_rfl) (by rfl) ?_
       refine p_q _ rfl rfl rfl (fun _ _ => v_fieldAddr rfl Tryd.underlying81 inf3 rfl rfl rfl rfl) ?_
       refine p_q _ rfl rfl rfl (fun _ _ => v_ld1 rfl Tryd.underlying3 rfl rfl rfl) ?_
       refine p_q _ rfl rfl rfl (fun _ _ => v_fieldAddr rfl Tryd.underlying25 inf22 rfl rfl rfl rfl) ?_
       refine p_q _ rfl rfl rfl (fun _ _ => v_ld1 rfl Tryd.underlying22 rfl rfl rfl) ?_
       refine p_q _ rfl rfl rfl (fun _ _ => v_move rfl rfl) ?_
       refine p_q _ rfl rfl rfl (fun _ _ => v_indexAddrSn rfl Tryd.underlying22 inf62 rfl rfl rfl (by omega) rfl) ?_
       refine p_q _ rfl rfl rfl (fun _ _ => v_fieldAddr rfl Tryd.underlying62 inf3 rfl rfl rfl rfl) ?_
       refine p_q _ rfl rfl rfl (fun _ _ => v_loadE1 (v := i64 (D.dues.getD k default).late) (j := 4) rfl Tryd.underlying3 rfl rfl (by omega) rfl rfl) ?_
       refine p_q _ rfl rfl rfl (fun _ _ => v_add rfl rfl rfl (by omega)) ?_
       refine p_nil2 (by simp only [List.nil_append, List.cons_append]; rfl) rfl ?_
       refine f_q rfl ?_
       refine f_q rfl ?_
       refine f_q rfl ?_
       refine f_q rfl ?_
       refine f_q rfl ?_
       refine f_q rfl ?_
       refine f_q rfl ?_
       refine f_q rfl ?_
       refine f_q rfl ?_
       refine f_nil ?_
       refine o_q _ rfl rfl rfl (v_fieldAddr rfl Tryd.underlying81 inf3 rfl rfl rfl rfl) ?_
       refine o_st rfl inf3 rfl rfl rfl rfl rfl rfl rfl rfl ?_
       refine o_nil ?_
       with_reducible refine r_in_normal ?_; refine r_then ?_
       refine r_region ?_
       refine o_q _ rfl rfl rfl (v_move rfl rfl) ?_
       refine o_q _ rfl rfl rfl (v_add rfl rfl rfl (by omega)) ?_
       refine o_q _ rfl rfl rfl (v_assign rfl rfl) ?_
       refine o_nil ?_
       with_reducible refine r_then ?_
       exact r_next ((k + 1, ow1 + (D.dues.getD k default).late)) (by refine Imp.box_to b9 [.slice (some ⟨b, 0, none⟩) D.dues.length D.dues.length, i64 (restF (lstT D am pa who d) (bagT D am pa who d)), i64 br, i64 (ow1 + (D.dues.getD k default).late)] rfl ?_; refine Imp.box_to b ((arrL (growN d (k + 1) (payF (lstT D am pa who d) (bagT D am pa who d))) D.dues.length).flatMap encI) (box_next (by rw [arr_len]; omega) (grow_yT hg h who d (k := k) (by omega) (by omega) (by omega))) ?_; exact r_here (by (repeat (first | exact FSub.nil | refine FSub.cons rfl ?_)); first | done | fail) SelMC.sel SubRC.sub) (by exact ⟨by show k + 1 ≤ _; omega, by show 0 ≤ ow1 + _; omega, by show ow1 + _ ≤ 4000 * (d : Int) + 3500 + 10 * ((k + 1 : Nat) : Int); omega⟩) (by show D.dues.length - (k + 1) < D.dues.length - k; omega)
     ·
      first
      | (exfalso; revert hc38; decide)
      |
       skip
       refine r_skip ?_
       with_reducible refine r_in_normal ?_; refine r_then ?_
       refine r_region ?_
       refine o_q _ rfl rfl rfl (v_move rfl rfl) ?_
       refine o_q _ rfl rfl rfl (v_add rfl rfl rfl (by omega)) ?_
       refine o_q _ rfl rfl rfl (v_assign rfl rfl) ?_
       refine o_nil ?_
       with_reducible refine r_then ?_
       exact r_next ((k + 1, ow1)) (by refine Imp.box_to b ((arrL (growN d (k + 1) (payF (lstT D am pa who d) (bagT D am pa who d))) D.dues.length).flatMap encI) (by rw [grow_nT hg h who d (k := k) (by omega)]) ?_; exact r_here (by (repeat (first | exact FSub.nil | refine FSub.cons rfl ?_)); first | done | fail) SelMC.sel SubRC.sub) (by exact ⟨by show k + 1 ≤ _; omega, by show 0 ≤ ow1; omega, by show ow1 ≤ 4000 * (d : Int) + 3500 + 10 * ((k + 1 : Nat) : Int); omega⟩) (by show D.dues.length - (k + 1) < D.dues.length - k; omega)
  ·
   refine r_exit ?_
   with_reducible refine r_then_exit ?_; refine r_then_exit ?_; refine r_in_here ?_; refine r_then ?_
   refine r_seq ?_
   obtain rfl : k = D.dues.length := by omega
   obtain ⟨hd1, hd2⟩ := day_doneT hg h who d hd
   refine Imp.box_to b9 [.slice (some ⟨b, 0, none⟩) D.dues.length D.dues.length, i64 (accT D am pa who (d + 1)).2, i64 br, i64 ow1] (by rw [← hd2]) ?_
   refine Imp.box_to b ((arrL (accT D am pa who (d + 1)).1 D.dues.length).flatMap encI) (by rw [hd1]) ?_
   refine r_region ?_
   refine o_q _ rfl rfl rfl (v_ldW rfl Tryd.underlying81 rfl inf81 rfl rfl) ?_
   refine o_st rfl inf81 rfl rfl rfl rfl rfl rfl rfl rfl ?_
   refine o_nil ?_
   with_reducible refine r_then ?_
   refine r_ret ?_
   refine Imp.box_to b8 [.slice (some ⟨b, 0, none⟩) D.dues.length D.dues.length, i64 (accT D am pa who (d + 1)).2, i64 br, i64 ow1] rfl ?_
   exact r_rete [bx b 3 ((arrL (accT D am pa who (d + 1)).1 D.dues.length).flatMap encI)] [] (Rd.one rfl (RdI.cellW Tryd.underlying81 rfl inf81 rfl rfl)) ⟨⟨(b, br, ow1), ⟨by show 0 ≤ br; omega, by show br ≤ 4000 * ((d : Int) + 1); omega⟩, ⟨hk2, by show ow1 ≤ 4000 * ((d : Int) + 1); omega⟩⟩, rfl, rfl, rfl⟩ SelMC.sel SubRC.sub
theorem before_v (am pa : List Int) (ao qo : Option Addr) (ac qc : Nat) (hg : GoodD D) (h : TruD D am pa) (who : Int) : ∀ (d : Nat) (_ : d ≤ 30), FnS Tryd.prog 75 [valD D uo po uc pc, vTr ao am.length ac qo pa.length qc, i64 who, i64 (d : Int), i64 0] [] [rowD uo 5 encD D.dues, rowD po 4 encP D.paid, rowD ao 1 encI am, rowD qo 1 encI pa] (fun e M' R' => ∃ x : AcX (4000 * (d : Int) + 3500), e = .returned (.agg ([.slice (some ⟨x.1.1, 0, none⟩) D.dues.length D.dues.length, i64 (restF (lstT D am pa who d) (bagT D am pa who d)), i64 x.1.2.1, i64 x.1.2.2] : List Value).toArray) ∧ M' = [bx x.1.1 3 ((arrL (payF (lstT D am pa who d) (bagT D am pa who d)) D.dues.length).flatMap encI)] ∧ R' = [])
  | 0, hd => before_0 D uo po uc pc am pa ao qo ac qc hg h who 0 hd rfl
  | d + 1, hd => before_s D uo po uc pc am pa ao qo ac qc hg h who (d + 1) hd d rfl (fun dp hdp => by
      obtain rfl : d = dp := by omega
      exact after_of D uo po uc pc am pa ao qo ac qc hg h who d (by omega) (before_v am pa ao qo ac qc hg h who d (by omega)))
theorem after_v (am pa : List Int) (ao qo : Option Addr) (ac qc : Nat) (hg : GoodD D) (h : TruD D am pa) (who : Int) (d : Nat) (hd : d ≤ 30) : FnS Tryd.prog 53 [valD D uo po uc pc, vTr ao am.length ac qo pa.length qc, i64 who, i64 (d : Int)] [] [rowD uo 5 encD D.dues, rowD po 4 encP D.paid, rowD ao 1 encI am, rowD qo 1 encI pa] (fun e M' R' => ∃ x : AcX (4000 * ((d : Int) + 1)), e = .returned (.agg ([.slice (some ⟨x.1.1, 0, none⟩) D.dues.length D.dues.length, i64 (accT D am pa who (d + 1)).2, i64 x.1.2.1, i64 x.1.2.2] : List Value).toArray) ∧ M' = [bx x.1.1 3 ((arrL (accT D am pa who (d + 1)).1 D.dues.length).flatMap encI)] ∧ R' = []) :=
  after_of D uo po uc pc am pa ao qo ac qc hg h who d hd (before_v D uo po uc pc am pa ao qo ac qc hg h who d hd)
end Go.Proofs.YtpfgiednfjfdmaaDoor


namespace Go.Proofs.YtpfgiednfjfdmaaDoor
open Go.G Debt10
set_option maxRecDepth 1000000
attribute [local irreducible] G.ParO G.Fin
variable (D : Debt) (uo po : Option Addr) (uc pc : Nat)
theorem sum_bdG {l : List Opn} (h : ∀ k, 0 ≤ valF l k ∧ valF l k ≤ 1000) : ∀ k : Nat, 0 ≤ sumTo (valF l) k ∧ sumTo (valF l) k ≤ 1000 * (k : Int)
  | 0 => by show (0 : Int) ≤ 0 ∧ (0 : Int) ≤ 1000 * 0; omega
  | k + 1 => by
    have h1 := sum_bdG h k
    have h2 := h k
    show 0 ≤ sumTo (valF l) k + valF l k ∧ sumTo (valF l) k + valF l k ≤ 1000 * ((k + 1 : Nat) : Int)
    push_cast; omega
set_option maxHeartbeats 4000000 in
theorem total_m (l : List Opn) (b : Nat) (A br ow : Int) (hn6 : D.dues.length ≤ 6) (hv : ∀ k, 0 ≤ valF l k ∧ valF l k ≤ 1000) : FnM Tryd.prog 73 [.agg (([.slice (some ⟨b, 0, none⟩) D.dues.length D.dues.length, i64 A, i64 br, i64 ow] : List Value)).toArray] (bx b 3 ((arrL l D.dues.length).flatMap encI)) [] (fun u => u = i64 (sumTo (valF l) D.dues.length)) := by
 refine FnM.intro Tryd.call73 Tryd.func73 rfl Tryd.ntmps73 rfl ?_
 intro W M Rf
 refine r_seq ?_
 refine r_region ?_
 refine o_boxA rfl rfl rfl rfl rfl (fun b1 => ?_)
 refine o_q _ rfl rfl rfl (v_assign rfl rfl) ?_
 refine o_nil ?_
 with_reducible refine r_then ?_
 refine r_seq ?_
 refine r_region ?_
 refine o_q _ rfl rfl rfl (v_assign rfl rfl) ?_
 refine o_nil ?_
 with_reducible refine r_then ?_
 refine r_seq ?_
 refine r_seq ?_
 refine r_region ?_
 refine o_q _ rfl rfl rfl (v_assign rfl rfl) ?_
 refine o_nil ?_
 with_reducible refine r_then ?_
 refine r_block ?_
 refine r_loop (ι := Nat) (fun k => k ≤ D.dues.length) (fun k => [(1, pt b1 0), (2, i64 0), (3, i64 (sumTo (valF l) k)), (4, i64 (k : Int))]) (fun k => bx b1 81 [.slice (some ⟨b, 0, none⟩) D.dues.length D.dues.length, i64 A, i64 br, i64 ow] :: bx b 3 ((arrL l D.dues.length).flatMap encI) :: M) (fun k => [] ++ Rf) (fun k => D.dues.length - k) 0 ?_ ?_ ?_
 ·
  refine Imp.box_to b1 [.slice (some ⟨b, 0, none⟩) D.dues.length D.dues.length, i64 A, i64 br, i64 ow] rfl ?_
  exact r_here (by (repeat (first | exact FSub.nil | refine FSub.cons rfl ?_)); first | done | fail) SelMC.sel SubRC.sub
 ·
  omega
 ·
  rintro k hI0
  refine r_seq ?_
  refine r_seq ?_
  refine r_region ?_
  refine o_q _ rfl rfl rfl (v_move rfl rfl) ?_
  refine o_q _ rfl rfl rfl (v_fieldAddr rfl Tryd.underlying81 inf41 rfl rfl rfl rfl) ?_
  refine o_q _ rfl rfl rfl (v_ld1 rfl Tryd.underlying41 rfl rfl rfl) ?_
  refine o_q _ rfl rfl rfl (v_len rfl rfl Tryd.underlying41 rfl) ?_
  refine o_q _ rfl rfl rfl (v_lss rfl rfl rfl) ?_
  refine o_nil ?_
  with_reducible refine r_then ?_
  refine r_condd rfl (fun hc9 => ?_) (fun hc9 => ?_)
  ·
   refine r_skip ?_
   with_reducible refine r_then ?_
   refine r_seq ?_
   refine r_block ?_
   have hvk := hv k
   have hsk := sum_bdG hv k
   refine r_region ?_
   refine o_q _ rfl rfl rfl (v_move rfl rfl) ?_
   refine o_q _ rfl rfl rfl (v_fieldAddr rfl Tryd.underlying81 inf41 rfl rfl rfl rfl) ?_
   refine o_q _ rfl rfl rfl (v_ld1 rfl Tryd.underlying41 rfl rfl rfl) ?_
   refine o_q _ rfl rfl rfl (v_move rfl rfl) ?_
   refine o_q _ rfl rfl rfl (v_indexAddrB rfl Tryd.underlying41 inf3 rfl rfl (by omega)) ?_
   refine o_q _ rfl rfl rfl (v_cast (v := i64 (valF l k)) (v_ld1 rfl Tryd.underlying3 rfl rfl (boxI_get (by rw [arr_len]; omega))) (i64c ((arr_at (by omega)).trans (rfl)))) ?_
   refine o_q _ rfl rfl rfl (v_add rfl rfl rfl (by omega)) ?_
   refine o_q _ rfl rfl rfl (v_assign rfl rfl) ?_
   refine o_nil ?_
   with_reducible refine r_in_normal ?_; refine r_then ?_
   refine r_region ?_
   refine o_q _ rfl rfl rfl (v_move rfl rfl) ?_
   refine o_q _ rfl rfl rfl (v_add rfl rfl rfl (by omega)) ?_
   refine o_q _ rfl rfl rfl (v_assign rfl rfl) ?_
   refine o_nil ?_
   with_reducible refine r_then ?_
   refine r_next (k + 1) ?_ ?_ ?_
   ·
    exact r_here (by (repeat (first | exact FSub.nil | refine FSub.cons rfl ?_)); first | done | fail) SelMC.sel SubRC.sub
   ·
    omega
   ·
    omega
  ·
   refine r_exit ?_
   with_reducible refine r_then_exit ?_; refine r_then_exit ?_; refine r_in_here ?_; refine r_then ?_
   refine r_seq ?_
   refine r_region ?_
   refine o_q _ rfl rfl rfl (v_move rfl rfl) ?_
   refine o_q _ rfl rfl rfl (v_assign rfl rfl) ?_
   refine o_nil ?_
   with_reducible refine r_then ?_
   refine r_ret ?_
   obtain rfl : k = D.dues.length := by omega
   exact r_retm (Rd.tmp rfl rfl) rfl SelMC.sel SubRC.sub
end Go.Proofs.YtpfgiednfjfdmaaDoor


namespace Go.G
variable {P : Program} {W : World} {n : Nat} {D : List Deferred} {L : Tm} {M : List Res} {R : List Fact} {Q : Exit → Act → World → Prop} {o : Oper}
/-- The operation is a call that hands back such a value, and lays what goes with it. -/
def LayR (P : Program) (L : Tm) (R : List Fact) (o : Oper) (val : Value → Prop) (res : Value → List Res) : Prop :=
  ∃ (k : FuncId) (args : List Value) (R0 : List Fact) (xs : List Operand) (ts : Array TypeId), o.op = .call { callee := .value (.func k), args := xs.toArray, argTypes := ts } ∧ evs L xs = some args ∧ FnS P k args [] R0 (fun e M' R' => ∃ v, e = .returned v ∧ val v ∧ M' = res v ∧ R' = []) ∧ SubR R R0
theorem LayR.mk {k : FuncId} {args : List Value} {R0 : List Fact} {xs : List Operand} {ts : Array TypeId} {val : Value → Prop} {res : Value → List Res} (h : FnS P k args [] R0 (fun e M' R' => ∃ v, e = .returned v ∧ val v ∧ M' = res v ∧ R' = [])) (ho : o.op = .call { callee := .value (.func k), args := xs.toArray, argTypes := ts }) (hx : evs L xs = some args) (hs : SubR R R0) : LayR P L R o val res := ⟨k, args, R0, xs, ts, ho, hx, h, hs⟩
theorem p_depO {ops : Array Oper} {K : List Spc → Prop} {rest : List Oper} {acc : List Spc} {d : Nat} {sj : Spc} (val : Value → Prop) (res : Value → List Res) (kT : Nat) (j : Nat) {oj : Oper} (hoj : ops[j]? = some oj) (hsj : acc[j]? = some sj) (hdj : sj.det = none) (hdep : depD ops o j = true) (hg : o.guard = none) (hdst : o.dst = some d) (hd : Nat.blt d n = true)
    (h : ∀ u, sj.pval u → LayR P ((oj.dst.getD 1000000, u) :: L) (sj.fct u ++ R) o val res) (hr : ParO P W n M R ops K rest (acc ++ [Spc.al val res kT (fun _ => [])]) L) : ParO P W n M R ops K (o :: rest) acc L := by
  refine ⟨Spc.al val res kT (fun _ => []), by simp [hdst, hd], .inl ⟨rfl, .inr (.inr (.inl ⟨hg, j, oj, sj, hoj, hsj, hdj, hdep, fun u hu => ?_⟩))⟩, by simpa [addL, Spc.al] using hr⟩
  obtain ⟨k, args, R0, xs, ts, ho, hx, hf, hs⟩ := h u hu
  intro Mx Rx a w h1 h2
  have h2 : St W (Mx ++ M) (Rx ++ (sj.fct u ++ R)) w := h2
  rw [exec_call [] [] ho rfl (h1.evs hx) hf.enter]
  simp only [List.nil_append, List.append_nil]
  have h3 : St W ([] ++ (Mx ++ M)) (R0 ++ (Rx ++ (sj.fct u ++ R))) w := h2.both (fun φ hφ => List.mem_append_right _ (hs φ hφ))
  refine ⟨rfl, (hf.calls W (Mx ++ M) (Rx ++ (sj.fct u ++ R)) w h3).mono ?_⟩
  rintro e w' ⟨M1, R1, ⟨v, rfl, hv, rfl, rfl⟩, hw'⟩
  refine .inl ⟨v, rfl, hv, ?_⟩
  exact hw'.weak (fun φ hφ => List.mem_append_right _ (List.mem_append_right _ hφ))
/-- The operation is a call that takes these, and hands back one value. -/
def TakR (P : Program) (L : Tm) (R : List Fact) (o : Oper) (v : Value) (r : List Res) : Prop :=
  ∃ (k : FuncId) (args : List Value) (R0 : List Fact) (xs : List Operand) (ts : Array TypeId), o.op = .call { callee := .value (.func k), args := xs.toArray, argTypes := ts } ∧ evs L xs = some args ∧ FnS P k args r R0 (fun e M' R' => e = .returned v ∧ M' = [] ∧ R' = []) ∧ SubR R R0
theorem TakR.mk {k : FuncId} {args : List Value} {R0 : List Fact} {xs : List Operand} {ts : Array TypeId} {v : Value} {r : List Res} (h : FnS P k args r R0 (fun e M' R' => e = .returned v ∧ M' = [] ∧ R' = [])) (ho : o.op = .call { callee := .value (.func k), args := xs.toArray, argTypes := ts }) (hx : evs L xs = some args) (hs : SubR R R0) : TakR P L R o v r := ⟨k, args, R0, xs, ts, ho, hx, h, hs⟩
theorem p_takeV {ops : Array Oper} {K : List Spc → Prop} {rest : List Oper} {acc : List Spc} {val : Value → Prop} {res : Value → List Res} (v : Value) {d x : Nat} (j : Nat) {oj : Oper}
    (hoj : ops[j]? = some oj) (hx : oj.dst.getD 1000000 = x) (hsj : acc[j]? = some (Spc.al val res acc.length (fun _ => []))) (hdep : depD ops o j = true) (hg : o.guard = none) (hdst : o.dst = some d) (hd : Nat.blt d n = true)
    (h : ∀ u, val u → TakR P ((x, u) :: L) R o v (res u))
    (hr : ParO P W n M R ops K rest (acc ++ [Spc.s5 (some v) (fun _ => True) j none]) ((d, v) :: L)) : ParO P W n M R ops K (o :: rest) acc L := by
  refine ⟨Spc.s5 (some v) (fun _ => True) j none, by simp [hdst, hd], .inr (.inl ⟨hg, j, oj, _, _, some v, _, none, _, rfl, hoj, hsj, rfl, rfl, hdep, fun u hu => ?_⟩), by simpa [addL, Spc.s5, hdst] using hr⟩
  obtain ⟨k, args, R0, xs, ts, ho, hxe, hf, hs⟩ := h u hu
  rw [hx]
  intro Mx Rx a w h1 h2
  have h2 : St W (Mx ++ (res u ++ M)) (Rx ++ R) w := h2
  rw [exec_call [] [] (xs := xs) ho rfl (h1.evs hxe) hf.enter]
  have h3 : St W (res u ++ (Mx ++ M)) (R0 ++ (Rx ++ R)) w := (h2.perm (by
    rw [← List.append_assoc, ← List.append_assoc]
    exact List.perm_append_comm.append_right M)).both (fun φ hφ => List.mem_append_right _ (hs φ hφ))
  rw [List.nil_append, List.append_nil]
  refine ⟨rfl, (hf.calls W (Mx ++ M) (Rx ++ R) w h3).mono ?_⟩
  rintro e w' ⟨M1, R1, ⟨rfl, rfl, rfl⟩, hw'⟩
  exact .inl ⟨v, rfl, rfl, hw'.weak (fun φ hφ => List.mem_append_right _ (List.mem_append_right _ hφ))⟩
theorem f_layO {X : Act → World → Prop} {os : List Oper} {ss : List Spc} {val : Value → Prop} {res : Value → List Res} {k d : Nat} (hdst : o.dst = some d) (h : ∀ u, val u → Fin W n D X os ss ((d, u) :: L) M R) : Fin W n D X (o :: os) (Spc.al val res k (fun _ => []) :: ss) L M R := by
  show ∀ v, val v → Fin W n D X os ss (putL o.dst v L) ([] ++ M) ([] ++ R)
  rw [hdst]
  exact h
end Go.G


namespace Go.Proofs.YtpfgiednfjfdmaaDoor
open Go.G Debt10
set_option maxRecDepth 1000000
attribute [local irreducible] G.ParO G.Fin
attribute [local irreducible] leftT aheadT gradeS setT trA trP acc0 setK
variable (D : Debt) (uo po : Option Addr) (uc pc : Nat)
/-- Where the row of an account lies. -/
def blkA : Value → Nat
  | .agg a => match a.toList with
    | Value.slice (some p) _ _ :: _ => p.block
    | _ => 0
  | _ => 0
def valAc (n : Nat) (c A : Int) (v : Value) : Prop := ∃ x : AcX c, v = .agg ([.slice (some ⟨x.1.1, 0, none⟩) n n, i64 A, i64 x.1.2.1, i64 x.1.2.2] : List Value).toArray
def resAc (n : Nat) (l : List Opn) (v : Value) : List Res := [bx (blkA v) 3 ((arrL l n).flatMap encI)]
theorem layAc {P : Program} {k : FuncId} {args : List Value} {R0 : List Fact} {n : Nat} {c A : Int} {l : List Opn} (h : FnS P k args [] R0 (fun e M' R' => ∃ x : AcX c, e = .returned (.agg ([.slice (some ⟨x.1.1, 0, none⟩) n n, i64 A, i64 x.1.2.1, i64 x.1.2.2] : List Value).toArray) ∧ M' = [bx x.1.1 3 ((arrL l n).flatMap encI)] ∧ R' = [])) : FnS P k args [] R0 (fun e M' R' => ∃ v, e = .returned v ∧ valAc n c A v ∧ M' = resAc n l v ∧ R' = []) :=
  ⟨h.enter, fun W Mf Rf w hw => (h.calls W Mf Rf w hw).mono (by
    rintro e w' ⟨M1, R1, ⟨x, rfl, rfl, rfl⟩, hs⟩
    exact ⟨_, _, ⟨_, rfl, ⟨x, rfl⟩, rfl, rfl⟩, hs⟩)⟩
theorem takeM {P : Program} {k : FuncId} {args : List Value} {R0 : List Fact} {m : Res} {v : Value} (h : FnM P k args m R0 (fun u => u = v)) : FnS P k args [m] R0 (fun e M' R' => e = .returned v ∧ M' = [] ∧ R' = []) :=
  ⟨h.enter, fun W Mf Rf w hw => (h.calls W Mf Rf w hw).mono (by
    rintro e w' ⟨u, rfl, rfl, hs⟩
    exact ⟨_, _, ⟨rfl, rfl, rfl⟩, hs.drop⟩)⟩
theorem total_t {n : Nat} {c A : Int} {L : Tm} {R : List Fact} {o : Oper} {l : List Opn} {u : Value} {x : Nat} {ts : Array TypeId} (D : Debt) (hn6 : D.dues.length ≤ 6) (hn : n = D.dues.length) (hv : ∀ k, 0 ≤ valF l k ∧ valF l k ≤ 1000) (hu : valAc n c A u) (ho : o.op = .call { callee := .value (.func 73), args := #[.tmp x], argTypes := ts }) : TakR Tryd.prog ((x, u) :: L) R o (i64 (sumTo (valF l) n)) (resAc n l u) := by
  obtain ⟨⟨⟨b, br, ow⟩, h1, h2⟩, rfl⟩ := hu
  subst hn
  exact TakR.mk (xs := [.tmp x]) (takeM (total_m D l b A br ow hn6 hv)) ho (by simp [evs, ev, look_cons_eq]) SubRC.sub
theorem tru_end {D : Debt} (hg : GoodD D) (e : Nat) : TruD D (amT D e) (paT D e) :=
  ⟨amT_len D e, paT_len D e, fun i hi => by
    obtain ⟨_, _, ⟨h1, h2, h3, _⟩, _⟩ := hg.dues i hi
    rw [amT_at hi]; unfold amE; split <;> omega, fun i hi => by
    obtain ⟨_, _, h1, h2, h3, _⟩ := hg.paid i hi
    rw [paT_at hi]; unfold paE; split <;> omega⟩
set_option maxHeartbeats 4000000 in
theorem left51_v (hg : GoodD D) (who : Int) (d : Nat) (hd : d ≤ 30) : FnV Tryd.prog 51 [valD D uo po uc pc, i64 who, i64 (d : Int)] [rowD uo 5 encD D.dues, rowD po 4 encP D.paid] (vS ⟨total (accT D (amT D 0) (paT D 0) who (d + 1)).1, total (accT D (amT D 1) (paT D 1) who (d + 1)).1⟩) := by
 have hp1 := hg.np
 have hp2 := hg.nd
 have hp3 := hg.ny
 have hl1 : D.dues.length ≤ 40 := by omega
 have hl2 : D.paid.length ≤ 40 := by omega
 refine FnV.intro Tryd.call51 Tryd.func51 rfl Tryd.ntmps51 rfl ?_
 intro W M Rf
 refine r_seq ?_
 refine r_region ?_
 refine o_boxA rfl rfl rfl rfl rfl (fun b3 => ?_)
 refine o_alloc rfl inf29 rfl rfl rfl rfl rfl (fun b6 => ?_)
 refine o_nil ?_
 with_reducible refine r_then ?_
 refine r_seq ?_
 refine r_par' 15 mixed (by kernel_rfl) (by rfl) ?_
 refine p_q _ rfl rfl rfl (fun _ _ => v_ldW rfl Tryd.underlying25 rfl inf25 rfl rfl) ?_
 refine p_q _ rfl rfl rfl (fun _ _ => v_ldW rfl Tryd.underlying25 rfl inf25 rfl rfl) ?_
 refine p_fn (good36_r D uo po uc pc hl1 hl2) rfl rfl rfl rfl rfl SubRC.sub ?_
 refine p_q _ rfl rfl rfl (fun _ _ => v_move rfl rfl) ?_
 refine p_q _ rfl rfl rfl (fun _ _ => v_move rfl rfl) ?_
 refine p_acc (by simp only [List.nil_append, List.cons_append]; rfl) ?_
 refine p_depO (valAc D.dues.length (4000 * ((d : Int) + 1)) (accT D (amT D 0) (paT D 0) who (d + 1)).2) (resAc D.dues.length (accT D (amT D 0) (paT D 0) who (d + 1)).1) 6 2 rfl rfl rfl (by kernel_rfl) rfl rfl rfl (fun u hu => by obtain ⟨ao, ac, qo, qc, rfl⟩ := hu; exact LayR.mk (layAc (after_v D uo po uc pc (amT D 0) (paT D 0) ao qo ac qc hg (tru_end hg 0) who d hd)) rfl rfl (by show SubR ([rowD ao 1 encI (amT D 0), rowD qo 1 encI (paT D 0)] ++ _) _; exact SubRC.sub)) ?_
 refine p_acc (by simp only [List.nil_append, List.cons_append]; rfl) ?_
 refine p_takeV (i64 (sumTo (valF (accT D (amT D 0) (paT D 0) who (d + 1)).1) D.dues.length)) 5 rfl rfl rfl (by kernel_rfl) rfl rfl rfl (fun u hu => total_t D hp2 rfl (val_bdT hg (tru_end hg 0) who (d + 1) (by omega)) hu rfl) ?_
 refine p_q _ rfl rfl rfl (fun _ _ => v_ldW rfl Tryd.underlying25 rfl inf25 rfl rfl) ?_
 refine p_q _ rfl rfl rfl (fun _ _ => v_ldW rfl Tryd.underlying25 rfl inf25 rfl rfl) ?_
 refine p_fn (bad37_r D uo po uc pc hl1 hl2) rfl rfl rfl rfl rfl SubRC.sub ?_
 refine p_q _ rfl rfl rfl (fun _ _ => v_move rfl rfl) ?_
 refine p_q _ rfl rfl rfl (fun _ _ => v_move rfl rfl) ?_
 refine p_acc (by simp only [List.nil_append, List.cons_append]; rfl) ?_
 refine p_depO (valAc D.dues.length (4000 * ((d : Int) + 1)) (accT D (amT D 1) (paT D 1) who (d + 1)).2) (resAc D.dues.length (accT D (amT D 1) (paT D 1) who (d + 1)).1) 13 9 rfl rfl rfl (by kernel_rfl) rfl rfl rfl (fun u hu => by obtain ⟨ao, ac, qo, qc, rfl⟩ := hu; exact LayR.mk (layAc (after_v D uo po uc pc (amT D 1) (paT D 1) ao qo ac qc hg (tru_end hg 1) who d hd)) rfl rfl (by show SubR ([rowD ao 1 encI (amT D 1), rowD qo 1 encI (paT D 1)] ++ _) _; exact SubRC.sub)) ?_
 refine p_acc (by simp only [List.nil_append, List.cons_append]; rfl) ?_
 refine p_takeV (i64 (sumTo (valF (accT D (amT D 1) (paT D 1) who (d + 1)).1) D.dues.length)) 12 rfl rfl rfl (by kernel_rfl) rfl rfl rfl (fun u hu => total_t D hp2 rfl (val_bdT hg (tru_end hg 1) who (d + 1) (by omega)) hu rfl) ?_
 refine p_q _ rfl rfl rfl (fun _ _ => v_bS rfl Tryd.underlying29 inf29 plt29 rfl rfl rfl (by repeat (first | exact trivial | refine ⟨rfl, ?_⟩)) (by rfl)) ?_
 refine p_nil2 (by simp only [List.nil_append, List.cons_append]; rfl) rfl ?_ (by kernel_rfl)
 refine f_q rfl ?_
 refine f_q rfl ?_
 refine f_gf rfl (fun v9 hv9 => ?_)
 refine f_q rfl ?_
 refine f_q rfl ?_
 refine f_layO rfl (fun v12 hv12 => ?_)
 refine f_take rfl ?_
 refine f_q rfl ?_
 refine f_q rfl ?_
 refine f_gf rfl (fun v16 hv16 => ?_)
 refine f_q rfl ?_
 refine f_q rfl ?_
 refine f_layO rfl (fun v19 hv19 => ?_)
 refine f_take rfl ?_
 refine f_q rfl ?_
 refine f_nil ?_
 refine o_st rfl inf29 rfl rfl rfl rfl rfl rfl rfl rfl ?_
 refine o_nil ?_
 with_reducible refine r_then ?_
 refine r_ret ?_
 exact r_retv2 (Rd.one rfl (RdI.cellW Tryd.underlying29 rfl inf29 rfl rfl)) (by rw [sum_allT hg (tru_end hg 0), sum_allT hg (tru_end hg 1)]; rfl) SelMC.sel SubRC.sub
set_option maxHeartbeats 4000000 in
theorem need57_v (hg : GoodD D) (who : Int) (d : Nat) (hd : d ≤ 30) : FnV Tryd.prog 57 [valD D uo po uc pc, i64 who, i64 (d : Int)] [rowD uo 5 encD D.dues, rowD po 4 encP D.paid] (i64 (sumTo (valF (payF (lstT D (amT D 1) (paT D 1) who d) (bagT D (amT D 1) (paT D 1) who d))) D.dues.length)) := by
 have hp1 := hg.np
 have hp2 := hg.nd
 have hp3 := hg.ny
 have hl1 : D.dues.length ≤ 40 := by omega
 have hl2 : D.paid.length ≤ 40 := by omega
 refine FnV.intro Tryd.call57 Tryd.func57 rfl Tryd.ntmps57 rfl ?_
 intro W M Rf
 refine r_seq ?_
 refine r_region ?_
 refine o_boxA rfl rfl rfl rfl rfl (fun b3 => ?_)
 refine o_q _ rfl rfl rfl (v_assign rfl rfl) ?_
 refine o_nil ?_
 with_reducible refine r_then ?_
 refine r_seq ?_
 refine r_par' 7 mixed (by kernel_rfl) (by rfl) ?_
 refine p_q _ rfl rfl rfl (fun _ _ => v_ldW rfl Tryd.underlying25 rfl inf25 rfl rfl) ?_
 refine p_q _ rfl rfl rfl (fun _ _ => v_ldW rfl Tryd.underlying25 rfl inf25 rfl rfl) ?_
 refine p_fn (bad37_r D uo po uc pc hl1 hl2) rfl rfl rfl rfl rfl SubRC.sub ?_
 refine p_q _ rfl rfl rfl (fun _ _ => v_move rfl rfl) ?_
 refine p_q _ rfl rfl rfl (fun _ _ => v_move rfl rfl) ?_
 refine p_acc (by simp only [List.nil_append, List.cons_append]; rfl) ?_
 refine p_depO (valAc D.dues.length (4000 * (d : Int) + 3500) (restF (lstT D (amT D 1) (paT D 1) who d) (bagT D (amT D 1) (paT D 1) who d))) (resAc D.dues.length (payF (lstT D (amT D 1) (paT D 1) who d) (bagT D (amT D 1) (paT D 1) who d))) 6 2 rfl rfl rfl (by kernel_rfl) rfl rfl rfl (fun u hu => by obtain ⟨ao, ac, qo, qc, rfl⟩ := hu; exact LayR.mk (layAc (before_v D uo po uc pc (amT D 1) (paT D 1) ao qo ac qc hg (tru_end hg 1) who d hd)) rfl rfl (by show SubR ([rowD ao 1 encI (amT D 1), rowD qo 1 encI (paT D 1)] ++ _) _; exact SubRC.sub)) ?_
 refine p_acc (by simp only [List.nil_append, List.cons_append]; rfl) ?_
 refine p_takeV (i64 (sumTo (valF (payF (lstT D (amT D 1) (paT D 1) who d) (bagT D (amT D 1) (paT D 1) who d))) D.dues.length)) 5 rfl rfl rfl (by kernel_rfl) rfl rfl rfl (fun u hu => total_t D hp2 rfl (pay_bdT hg (tru_end hg 1) who d (by omega)) hu rfl) ?_
 refine p_nil2 (by simp only [List.nil_append, List.cons_append]; rfl) rfl ?_ (by kernel_rfl)
 refine f_q rfl ?_
 refine f_q rfl ?_
 refine f_gf rfl (fun v9 hv9 => ?_)
 refine f_q rfl ?_
 refine f_q rfl ?_
 refine f_layO rfl (fun v12 hv12 => ?_)
 refine f_take rfl ?_
 refine f_nil ?_
 refine o_q _ rfl rfl rfl (v_assign rfl rfl) ?_
 refine o_nil ?_
 with_reducible refine r_then ?_
 refine r_ret ?_
 exact r_retv2 (Rd.tmp rfl rfl) rfl SelMC.sel SubRC.sub
end Go.Proofs.YtpfgiednfjfdmaaDoor


namespace Go.Proofs.YtpfgiednfjfdmaaDoor
open Go.G Debt10
set_option maxRecDepth 1000000
attribute [local irreducible] G.ParO G.Fin
variable (D : Debt) (uo po : Option Addr) (uc pc : Nat)
set_option maxHeartbeats 4000000 in
theorem check48_v (b : Bool) (hl1 : D.dues.length ≤ 40) (hl2 : D.paid.length ≤ 40) : FnV Tryd.prog 48 [valD D uo po uc pc, .bool b] [rowD uo 5 encD D.dues, rowD po 4 encP D.paid] (i64 (if GoodD D then (if b then 0 else 2) else 1)) := by
 refine FnV.intro Tryd.call48 Tryd.func48 rfl Tryd.ntmps48 rfl ?_
 intro W M Rf
 refine r_seq ?_
 refine r_region ?_
 refine o_boxA rfl rfl rfl rfl rfl (fun b2 => ?_)
 refine o_q _ rfl rfl rfl (v_assign rfl rfl) ?_
 refine o_nil ?_
 with_reducible refine r_then ?_
 refine r_seq ?_
 refine r_seq ?_
 refine r_region ?_
 refine o_q _ rfl rfl rfl (v_ldW rfl Tryd.underlying25 rfl inf25 rfl rfl) ?_
 refine o_test rfl rfl rfl (OpQ.fn (Debt_v D uo po uc pc hl1 hl2) rfl rfl SubRC.sub) (fun h6 => ?_) (fun h6 => ?_)
 all_goals
  refine o_q _ rfl rfl rfl (v_not rfl rfl) ?_
  refine o_nil ?_
  with_reducible refine r_then ?_
  refine r_cond rfl (fun hc7 => ?_) (fun hc7 => ?_)
  ·
   first
   | (exfalso; revert hc7; decide)
   |
    skip
    refine r_seq ?_
    refine r_region ?_
    refine o_q _ rfl rfl rfl (v_assign rfl rfl) ?_
    refine o_nil ?_
    with_reducible refine r_then ?_
    refine r_ret ?_
    with_reducible refine r_then_ret ?_
    exact r_retv2 (Rd.tmp rfl rfl) (by first | rfl | (cases b <;> simp_all)) SelMC.sel SubRC.sub
  ·
   first
   | (exfalso; revert hc7; decide)
   |
    skip
    refine r_skip ?_
    with_reducible refine r_then ?_
    refine r_seq ?_
    refine r_seq ?_
    refine r_region ?_
    refine o_q _ rfl rfl rfl (v_move rfl rfl) ?_
    refine o_q _ rfl rfl rfl (v_not rfl rfl) ?_
    refine o_nil ?_
    with_reducible refine r_then ?_
    refine r_cond rfl (fun hc9 => ?_) (fun hc9 => ?_)
    ·
     refine r_seq ?_
     refine r_region ?_
     refine o_q _ rfl rfl rfl (v_assign rfl rfl) ?_
     refine o_nil ?_
     with_reducible refine r_then ?_
     refine r_ret ?_
     with_reducible refine r_then_ret ?_
     exact r_retv2 (Rd.tmp rfl rfl) (by first | rfl | (cases b <;> simp_all)) SelMC.sel SubRC.sub
    ·
     refine r_skip ?_
     with_reducible refine r_then ?_
     refine r_seq ?_
     refine r_region ?_
     refine o_q _ rfl rfl rfl (v_assign rfl rfl) ?_
     refine o_nil ?_
     with_reducible refine r_then ?_
     refine r_ret ?_
     exact r_retv2 (Rd.tmp rfl rfl) (by first | rfl | (cases b <;> simp_all)) SelMC.sel SubRC.sub
end Go.Proofs.YtpfgiednfjfdmaaDoor


namespace Go.Proofs.YtpfgiednfjfdmaaDoor
open Go.G Debt10
set_option maxRecDepth 1000000
attribute [local irreducible] G.ParO G.Fin
variable (D : Debt) (uo po : Option Addr) (uc pc : Nat)
abbrev endA (D : Debt) (e : Nat) (who : Int) (d : Nat) : List Opn × Int := accT D (amT D e) (paT D e) who (d + 1)
def leftR (D : Debt) (who d : Int) : Debt10.Span × Int := ansD D (okWD D who d) ⟨0, 0⟩ ⟨total (endA D 0 who d.toNat).1, total (endA D 1 who d.toNat).1⟩
def needR (D : Debt) (who d : Int) : Int × Int := ansD D (okWD D who d) 0 (sumTo (valF (payF (lstT D (amT D 1) (paT D 1) who d.toNat) (bagT D (amT D 1) (paT D 1) who d.toNat))) D.dues.length)
def leftRT (D : Debt) (who : Int) (d : Nat) : Debt10.Span := ⟨total (endA D 0 who d).1, total (endA D 1 who d).1⟩
def setlR (D : Debt) (who d : Int) : Int × Int := ansD D (okWD D who d) 0 (gradeS (leftRT D who d.toNat))
end Go.Proofs.YtpfgiednfjfdmaaDoor


namespace Go.G
variable {P : Program} {W : World} {n : Nat} {D : List Deferred} {L : Tm} {M : List Res} {R : List Fact} {Q : Exit → Act → World → Prop} {o : Oper}
theorem p_depN {ops : Array Oper} {K : List Spc → Prop} {rest : List Oper} {acc : List Spc} {d : Nat} {sj : Spc} (val : Value → Prop) (res : Value → List Res) (j : Nat) {oj : Oper} (hoj : ops[j]? = some oj) (hsj : acc[j]? = some sj) (hdj : sj.det = none) (hdep : depD ops o j = true) (hg : o.guard = none) (hdst : o.dst = some d) (hd : Nat.blt d n = true)
    (h : ∀ u, sj.pval u → LayR P ((oj.dst.getD 1000000, u) :: L) (sj.fct u ++ R) o val res) (hr : ParO P W n M R ops K rest (acc ++ [Spc.g val res (fun _ => [])]) L) : ParO P W n M R ops K (o :: rest) acc L := by
  refine ⟨Spc.g val res (fun _ => []), by simp [hdst, hd], .inl ⟨rfl, .inr (.inr (.inl ⟨hg, j, oj, sj, hoj, hsj, hdj, hdep, fun u hu => ?_⟩))⟩, by simpa [addL, Spc.g] using hr⟩
  obtain ⟨k, args, R0, xs, ts, ho, hx, hf, hs⟩ := h u hu
  intro Mx Rx a w h1 h2
  have h2 : St W (Mx ++ M) (Rx ++ (sj.fct u ++ R)) w := h2
  rw [exec_call [] [] ho rfl (h1.evs hx) hf.enter]
  simp only [List.nil_append, List.append_nil]
  have h3 : St W ([] ++ (Mx ++ M)) (R0 ++ (Rx ++ (sj.fct u ++ R))) w := h2.both (fun φ hφ => List.mem_append_right _ (hs φ hφ))
  refine ⟨rfl, (hf.calls W (Mx ++ M) (Rx ++ (sj.fct u ++ R)) w h3).mono ?_⟩
  rintro e w' ⟨M1, R1, ⟨v, rfl, hv, rfl, rfl⟩, hw'⟩
  refine .inl ⟨v, rfl, hv, ?_⟩
  exact hw'.weak (fun φ hφ => List.mem_append_right _ (List.mem_append_right _ hφ))
end Go.G


namespace Go.Proofs.YtpfgiednfjfdmaaDoor
open Go.G Debt10
set_option maxRecDepth 1000000
attribute [local irreducible] G.ParO G.Fin
variable (D : Debt) (uo po : Option Addr) (uc pc : Nat)
theorem pow_s (k : Nat) : (2 : Int) * ((2 ^ k : Nat) : Int) = ((2 ^ (k + 1) : Nat) : Int) := by rw [Nat.pow_succ]; omega
set_option maxHeartbeats 4000000 in
theorem pow_v (n : Nat) (hn : n ≤ 20) : FnV Tryd.prog 55 [i64 (n : Int)] [] (i64 ((2 ^ n : Nat) : Int)) := by
 refine FnV.intro Tryd.call55 Tryd.func55 rfl Tryd.ntmps55 rfl ?_
 intro W M Rf
 refine r_seq ?_
 refine r_region ?_
 refine o_q _ rfl rfl rfl (v_assign rfl rfl) ?_
 refine o_nil ?_
 with_reducible refine r_then ?_
 refine r_seq ?_
 refine r_region ?_
 refine o_q _ rfl rfl rfl (v_assign rfl rfl) ?_
 refine o_nil ?_
 with_reducible refine r_then ?_
 refine r_seq ?_
 refine r_seq ?_
 refine r_region ?_
 refine o_q _ rfl rfl rfl (v_assign rfl rfl) ?_
 refine o_nil ?_
 with_reducible refine r_then ?_
 refine r_block ?_
 refine r_loop (ι := Nat) (fun k => k ≤ n) (fun k => [(0, i64 (n : Int)), (3, i64 ((2 ^ k : Nat) : Int)), (4, i64 (k : Int))]) (fun k => M) (fun k => [] ++ Rf) (fun k => n - k) 0 ?_ ?_ ?_
 ·
  exact r_here (by repeat (first | exact FSub.nil | refine FSub.cons rfl ?_)) SelMC.sel SubRC.sub
 ·
  omega
 ·
  rintro k hI0
  refine r_seq ?_
  refine r_seq ?_
  refine r_region ?_
  refine o_q _ rfl rfl rfl (v_move rfl rfl) ?_
  refine o_q _ rfl rfl rfl (v_move rfl rfl) ?_
  refine o_q _ rfl rfl rfl (v_lss rfl rfl rfl) ?_
  refine o_nil ?_
  with_reducible refine r_then ?_
  refine r_condd rfl (fun hc7 => ?_) (fun hc7 => ?_)
  ·
   refine r_skip ?_
   with_reducible refine r_then ?_
   refine r_seq ?_
   refine r_block ?_
   have hpw : 2 ^ k ≤ 2 ^ 20 := Nat.pow_le_pow_right (by decide) (by omega)
   have hpz : (0 : Int) ≤ ((2 ^ k : Nat) : Int) := Int.natCast_nonneg _
   refine r_region ?_
   refine o_q _ rfl rfl rfl (v_move rfl rfl) ?_
   refine o_q _ rfl rfl rfl (v_mul rfl rfl rfl (by omega)) ?_
   refine o_q _ rfl rfl rfl (v_assign rfl rfl) ?_
   refine o_nil ?_
   with_reducible refine r_in_normal ?_; refine r_then ?_
   refine r_region ?_
   refine o_q _ rfl rfl rfl (v_move rfl rfl) ?_
   refine o_q _ rfl rfl rfl (v_add rfl rfl rfl (by omega)) ?_
   refine o_q _ rfl rfl rfl (v_assign rfl rfl) ?_
   refine o_nil ?_
   with_reducible refine r_then ?_
   refine r_next (k + 1) ?_ ?_ ?_
   ·
    exact r_here (by (repeat (first | exact FSub.nil | refine FSub.cons rfl ?_ | refine FSub.cons2 rfl (i64c (pow_s k)) ?_)); first | done | fail) SelMC.sel SubRC.sub
   ·
    omega
   ·
    omega
  ·
   refine r_exit ?_
   with_reducible refine r_then_exit ?_; refine r_then_exit ?_; refine r_in_here ?_; refine r_then ?_
   refine r_seq ?_
   obtain rfl : k = n := by omega
   refine r_region ?_
   refine o_q _ rfl rfl rfl (v_move rfl rfl) ?_
   refine o_q _ rfl rfl rfl (v_assign rfl rfl) ?_
   refine o_nil ?_
   with_reducible refine r_then ?_
   refine r_ret ?_
   exact r_retv2 (Rd.tmp rfl rfl) rfl SelMC.sel SubRC.sub
def aheadR (D : Debt) (who d : Int) : Debt10.Span × Int := ansD D (okWD D who d) ⟨0, 0⟩ ⟨(endA D 1 who d.toNat).2, (endA D 0 who d.toNat).2⟩
def openR (D : Debt) (who d : Int) : (Nat × Nat) × Int := ansD D (okWD D who d) (0, 0) (openK (valF (endA D 0 who d.toNat).1) D.dues.length, openK (valF (endA D 1 who d.toNat).1) D.dues.length)
end Go.Proofs.YtpfgiednfjfdmaaDoor


namespace Go.Proofs.YtpfgiednfjfdmaaDoor
open Go.G Debt10
set_option maxRecDepth 1000000
attribute [local irreducible] G.ParO G.Fin
/-! ### what the sets of people are, and which is returned -/
def sumM (f : Nat → Int) (x : Nat) : Nat → Int
  | 0 => 0
  | k + 1 => sumM f x k + (if x.testBit k then f k else 0)
def sumR (f : Nat → Int) (x : Nat) : Nat → Nat → Int
  | _, 0 => 0
  | who, k + 1 => (if x.testBit who then f who else 0) + sumR f x (who + 1) k
theorem sumR_add (f : Nat → Int) (x : Nat) : ∀ (k who : Nat), sumM f x (who + k) = sumM f x who + sumR f x who k
  | 0, who => by show sumM f x who = sumM f x who + 0; omega
  | k + 1, who => by
    rw [show who + (k + 1) = who + 1 + k from by omega, sumR_add f x k (who + 1)]
    show sumM f x who + (if x.testBit who then f who else 0) + sumR f x (who + 1) k = sumM f x who + ((if x.testBit who then f who else 0) + sumR f x (who + 1) k)
    omega
theorem sumR_pos {f : Nat → Int} (hf : ∀ w, 0 ≤ f w) (x : Nat) : ∀ (k who : Nat), 0 ≤ sumR f x who k
  | 0, _ => Int.le_refl _
  | k + 1, who => by
    have h1 := sumR_pos hf x k (who + 1)
    have h2 := hf who
    show 0 ≤ (if x.testBit who then f who else 0) + sumR f x (who + 1) k
    split <;> omega
theorem bit_out {x who i : Nat} (h : x < 2 ^ who) (hi : who ≤ i) : x.testBit i = false := Nat.testBit_lt_two_pow (Nat.lt_of_lt_of_le h (Nat.pow_le_pow_right (by decide) hi))
theorem on_mem {f : Nat → Int} (hf : ∀ w, 0 ≤ f w) (x : Nat) : ∀ (k who : Nat) (left : Int) (m : Nat), m < 2 ^ who → (x ∈ onL f k who left m ↔ 0 ≤ left ∧ x < 2 ^ (who + k) ∧ (∀ i, i < who → x.testBit i = m.testBit i) ∧ sumR f x who k ≤ left)
  | 0, who, left, m, hm => by
    by_cases hn : left < 0
    · rw [onL_neg hn]
      exact ⟨fun h => (by cases h), fun h => by omega⟩
    · rw [onL_0 hn, List.mem_singleton]
      constructor
      · intro h; subst h
        exact ⟨by omega, hm, fun i _ => rfl, by show (0 : Int) ≤ left; omega⟩
      · rintro ⟨_, h2, h3, _⟩
        have h2 : x < 2 ^ who := h2
        apply Nat.eq_of_testBit_eq
        intro i
        by_cases hi : i < who
        · exact h3 i hi
        · rw [bit_out h2 (by omega), bit_out hm (by omega)]
  | k + 1, who, left, m, hm => by
    by_cases hn : left < 0
    · rw [onL_neg hn]
      exact ⟨fun h => (by cases h), fun h => by omega⟩
    · have hm1 : m < 2 ^ (who + 1) := by rw [Nat.pow_succ]; omega
      have hmb : m.testBit who = false := bit_out hm (Nat.le_refl _)
      have hob : ∀ i, (m ||| 2 ^ who).testBit i = (m.testBit i || decide (who = i)) := fun i => by rw [Nat.testBit_or, Nat.testBit_two_pow]
      have e1 : who + (k + 1) = who + 1 + k := by omega
      have e2 : sumR f x who (k + 1) = (if x.testBit who then f who else 0) + sumR f x (who + 1) k := rfl
      have hp := sumR_pos hf x k (who + 1)
      rw [onL_s hn, List.mem_append, on_mem hf x k (who + 1) left m hm1, on_mem hf x k (who + 1) (left - f who) (m ||| 2 ^ who) (or_lt hm), e1, e2]
      constructor
      · rintro (⟨h1, h2, h3, h4⟩ | ⟨h1, h2, h3, h4⟩)
        · have hb : x.testBit who = false := by rw [h3 who (by omega), hmb]
          refine ⟨h1, h2, fun i hi => h3 i (by omega), ?_⟩
          rw [hb]
          show 0 + _ ≤ left
          omega
        · have hb : x.testBit who = true := by rw [h3 who (by omega), hob]; simp
          refine ⟨by omega, h2, fun i hi => ?_, ?_⟩
          · rw [h3 i (by omega), hob, show decide (who = i) = false from decide_eq_false (by omega), Bool.or_false]
          · rw [hb]
            show f who + _ ≤ left
            omega
      · rintro ⟨h1, h2, h3, h4⟩
        cases hb : x.testBit who with
        | false =>
          rw [hb] at h4
          have h4 : 0 + sumR f x (who + 1) k ≤ left := h4
          refine .inl ⟨h1, h2, fun i hi => ?_, by omega⟩
          by_cases e : i = who
          · rw [e, hb, hmb]
          · exact h3 i (by omega)
        | true =>
          rw [hb] at h4
          have h4 : f who + sumR f x (who + 1) k ≤ left := h4
          refine .inr ⟨by omega, h2, fun i hi => ?_, by omega⟩
          rw [hob]
          by_cases e : i = who
          · rw [e, hb]; simp
          · rw [h3 i (by omega), show decide (who = i) = false from decide_eq_false (by omega), Bool.or_false]
theorem on_mem0 {f : Nat → Int} (hf : ∀ w, 0 ≤ f w) {x p : Nat} {s : Int} : x ∈ onL f p 0 s 0 ↔ 0 ≤ s ∧ x < 2 ^ p ∧ sumM f x p ≤ s := by
  have h := sumR_add f x p 0
  rw [Nat.zero_add] at h
  have h : sumM f x p = 0 + sumR f x 0 p := h
  rw [on_mem hf x p 0 s 0 (by decide), h, Nat.zero_add]
  exact ⟨fun ⟨a, b, _, d⟩ => ⟨a, b, by omega⟩, fun ⟨a, b, d⟩ => ⟨a, b, fun i hi => by omega, by omega⟩⟩
/-! ### sorting by insertion -/
theorem getD_setN {l : List Nat} {i k v : Nat} (hi : i < l.length) : (l.set i v).getD k default = if k = i then v else l.getD k default := by
  rw [List.getD_eq_getElem?_getD, List.getElem?_set, List.getD_eq_getElem?_getD]
  by_cases e : i = k
  · subst e; simp [hi]
  · rw [if_neg e, if_neg (fun h => e h.symm)]
theorem swapU_at {l : List Nat} {j k : Nat} (h : j + 1 < l.length) : (swapU l j).getD k default = if k = j then l.getD (j + 1) default else if k = j + 1 then l.getD j default else l.getD k default := by
  unfold swapU
  rw [getD_setN (by rw [List.length_set]; omega), getD_setN h]
theorem mem_atU {l : List Nat} {x : Nat} : x ∈ l ↔ ∃ i, i < l.length ∧ l.getD i default = x := by
  rw [List.mem_iff_getElem]
  constructor
  · rintro ⟨i, h, e⟩; exact ⟨i, h, by rw [← e]; simp [List.getD, h]⟩
  · rintro ⟨i, h, e⟩; exact ⟨i, h, by rw [← e]; simp [List.getD, h]⟩
theorem mem_swapU {l : List Nat} {j x : Nat} (h : j + 1 < l.length) : x ∈ swapU l j ↔ x ∈ l := by
  rw [mem_atU, mem_atU, swapU_len]
  constructor
  · rintro ⟨i, hi, e⟩
    rw [swapU_at h] at e
    split at e
    · exact ⟨j + 1, h, e⟩
    · split at e
      · exact ⟨j, by omega, e⟩
      · exact ⟨i, hi, e⟩
  · rintro ⟨i, hi, e⟩
    by_cases e1 : i = j
    · exact ⟨j + 1, h, by rw [swapU_at h, if_neg (by omega), if_pos rfl, ← e1, e]⟩
    · by_cases e2 : i = j + 1
      · exact ⟨j, by omega, by rw [swapU_at h, if_pos rfl, ← e2, e]⟩
      · exact ⟨i, hi, by rw [swapU_at h, if_neg e1, if_neg e2, e]⟩
theorem mem_sink {a x : Nat} : ∀ (j : Nat) (l : List Nat), j < l.length → (x ∈ sinkA a j l ↔ x ∈ l)
  | 0, _, _ => Iff.rfl
  | j + 1, l, h => by
    unfold sinkA
    split
    · rw [mem_sink j _ (by rw [swapU_len]; omega), mem_swapU h]
    · exact Iff.rfl
theorem mem_insA {a x : Nat} {l : List Nat} : ∀ k, a + k < l.length ∨ k = 0 → (x ∈ insA a l k ↔ x ∈ l)
  | 0, _ => Iff.rfl
  | k + 1, h => by
    unfold insA
    rw [mem_sink _ _ (by rw [insA_len]; omega), mem_insA k (by omega)]
def SrtX (a m : Nat) (l : List Nat) : Prop := ∀ i i', a ≤ i → i < i' → i' < m → l.getD i default ≤ l.getD i' default
def OrdX (a m j : Nat) (l : List Nat) : Prop := (∀ i i', a ≤ i → i < i' → i' < m → i ≠ j → i' ≠ j → l.getD i default ≤ l.getD i' default) ∧ ∀ i', j < i' → i' < m → l.getD j default ≤ l.getD i' default
theorem sink_ord {a m : Nat} : ∀ (j : Nat) (l : List Nat), a ≤ j → j < m → m ≤ l.length → OrdX a m j l → SrtX a m (sinkA a j l)
  | 0, l, h1, h2, h3, h => fun i i' g1 g2 g3 => by
    show l.getD i default ≤ l.getD i' default
    by_cases e : i = 0
    · subst e; exact h.2 i' (by omega) g3
    · exact h.1 i i' g1 g2 g3 e (by omega)
  | j + 1, l, h1, h2, h3, h => by
    unfold sinkA
    split
    · rename_i hc
      have hj : j + 1 < l.length := by omega
      refine sink_ord j _ (by omega) (by omega) (by rw [swapU_len]; exact h3) ⟨fun i i' g1 g2 g3 g4 g5 => ?_, fun i' g1 g2 => ?_⟩
      · rw [swapU_at hj, swapU_at hj, if_neg g4, if_neg g5]
        by_cases e1 : i = j + 1
        · rw [if_pos e1, if_neg (by omega)]
          exact h.1 j i' (by omega) (by omega) g3 (by omega) (by omega)
        · rw [if_neg e1]
          by_cases e2 : i' = j + 1
          · rw [if_pos e2]
            exact h.1 i j g1 (by omega) (by omega) e1 (by omega)
          · rw [if_neg e2]
            exact h.1 i i' g1 g2 g3 e1 e2
      · rw [swapU_at hj, swapU_at hj, if_pos rfl, if_neg (by omega)]
        by_cases e2 : i' = j + 1
        · rw [if_pos e2]; omega
        · rw [if_neg e2]
          exact h.2 i' (by omega) g2
    · rename_i hc
      intro i i' g1 g2 g3
      by_cases e2 : i' = j + 1
      · subst e2
        by_cases e : i = j
        · subst e; omega
        · have h4 := h.1 i j g1 (by omega) (by omega) (by omega) (by omega)
          omega
      · by_cases e1 : i = j + 1
        · subst e1; exact h.2 i' g2 g3
        · exact h.1 i i' g1 g2 g3 e1 e2
theorem insA_ord {a : Nat} {l : List Nat} : ∀ k, a + k < l.length → SrtX a (a + k + 1) (insA a l k)
  | 0, _ => fun i i' g1 g2 g3 => by omega
  | k + 1, h => by
    have ih := insA_ord (a := a) (l := l) k (by omega)
    refine sink_ord (a + 1 + k) _ (by omega) (by omega) (by rw [insA_len]; omega) ⟨fun i i' g1 g2 g3 g4 g5 => ih i i' g1 g2 (by omega), fun i' g1 g2 => by omega⟩
theorem sortT_mem {l : List Nat} {x : Nat} : x ∈ sortT l ↔ x ∈ l := mem_insA _ (by omega)
theorem sortT_ord {l : List Nat} {i i' : Nat} (h : i ≤ i') (h2 : i' < l.length) : (sortT l).getD i default ≤ (sortT l).getD i' default := by
  by_cases e : i = i'
  · subst e; exact Nat.le_refl _
  · exact insA_ord (a := 0) (l := l) (l.length - 1) (by omega) i i' (Nat.zero_le _) (by omega) (by omega)
theorem best_law {f : Nat → Nat} {l : List Nat} : ∀ k, 0 < k → ∃ i, i < k ∧ bestU f l k = l.getD i default ∧ (∀ i', i' < k → f (l.getD i' default) ≤ f (bestU f l k)) ∧ ∀ i', i' < i → f (l.getD i' default) < f (bestU f l k)
  | 0, h => by cases h
  | k + 1, _ => by
    by_cases hk : k = 0
    · subst hk
      have e : bestU f l (0 + 1) = l.getD 0 default := bestU_y (.inl rfl)
      rw [e]
      exact ⟨0, by decide, rfl, fun i' h => by rw [show i' = 0 from by omega]; exact Nat.le_refl _, fun i' h => by cases h⟩
    · obtain ⟨i, h1, h2, h3, h4⟩ := best_law (f := f) (l := l) k (by omega)
      by_cases hc : f (bestU f l k) < f (l.getD k default)
      · rw [bestU_y (.inr hc)]
        refine ⟨k, by omega, rfl, fun i' h => ?_, fun i' h => ?_⟩
        · by_cases e : i' = k
          · rw [e]; exact Nat.le_refl _
          · have := h3 i' (by omega); omega
        · have := h3 i' h; omega
      · rw [bestU_n (by omega)]
        refine ⟨i, by omega, h2, fun i' h => ?_, h4⟩
        by_cases e : i' = k
        · rw [e]; omega
        · exact h3 i' (by omega)
theorem best_in {l : List Nat} {f : Nat → Nat} (hl : 0 < l.length) : bestU f (sortT l) (sortT l).length ∈ l ∧ ∀ x ∈ l, f x ≤ f (bestU f (sortT l) (sortT l).length) ∧ (f x = f (bestU f (sortT l) (sortT l).length) → bestU f (sortT l) (sortT l).length ≤ x) := by
  have hs := sortT_len l
  obtain ⟨i, h1, h2, h3, h4⟩ := best_law (f := f) (l := sortT l) (sortT l).length (by omega)
  refine ⟨?_, fun x hx => ?_⟩
  · rw [← sortT_mem, mem_atU]; exact ⟨i, h1, h2.symm⟩
  · obtain ⟨i', g1, g2⟩ := mem_atU.1 (sortT_mem.2 hx)
    rw [← g2]
    refine ⟨h3 i' g1, fun e => ?_⟩
    have hi : i ≤ i' := by
      by_cases h : i ≤ i'
      · exact h
      · have := h4 i' (by omega); omega
    rw [h2]
    exact sortT_ord hi (by omega)
section
variable {D : Debt} (hg : GoodD D) {dn : Nat} (hd : dn ≤ 30)
include hg hd
theorem need_pos (w : Nat) : 0 ≤ needN D dn w := (need_bd hg (w : Int) hd).1
theorem most_in {s : Int} (hs : 0 ≤ s) : (mostS D dn s < 2 ^ D.people.toNat ∧ sumM (needN D dn) (mostS D dn s) D.people.toNat ≤ s) ∧ ∀ x, x < 2 ^ D.people.toNat → sumM (needN D dn) x D.people.toNat ≤ s → pop x ≤ pop (mostS D dn s) ∧ (pop x = pop (mostS D dn s) → mostS D dn s ≤ x) := by
  have h := best_in (f := pop) (l := setsT D dn s) (onL_ne _ _ _ _ _ hs)
  refine ⟨((on_mem0 (need_pos hg hd)).1 h.1).2, fun x h1 h2 => h.2 x ((on_mem0 (need_pos hg hd)).2 ⟨hs, h1, h2⟩)⟩
omit hg hd in
theorem sumM_zero {f : Nat → Int} {x : Nat} : ∀ k, (∀ i, i < k → x.testBit i = true → f i = 0) → sumM f x k = 0
  | 0, _ => rfl
  | k + 1, h => by
    show sumM f x k + (if x.testBit k then f k else 0) = 0
    rw [sumM_zero k fun i hi => h i (by omega)]
    split
    · rename_i hb; rw [h k (by omega) hb]; rfl
    · rfl
end
/-! ### how many a set holds -/
def sizeK : Nat → Nat → Nat
  | 0, _ => 0
  | n + 1, x => x % 2 + sizeK n (x / 2)
theorem size_pop : ∀ m, m < 64 → sizeK 6 m = pop m := by decide +kernel
theorem size_0 : ∀ k, sizeK k 0 = 0
  | 0 => rfl
  | k + 1 => by show 0 % 2 + sizeK k (0 / 2) = 0; rw [show 0 / 2 = 0 from rfl, size_0 k]
end Go.Proofs.YtpfgiednfjfdmaaDoor


namespace Go.Proofs.YtpfgiednfjfdmaaDoor
open Go.G Debt10
set_option maxRecDepth 1000000
attribute [local irreducible] G.ParO G.Fin
theorem size_s {n x a : Nat} {t : Nat} (h : a + sizeK (n + 1) x = t) : a + x % 2 + sizeK n (x / 2) = t := by
  have e : sizeK (n + 1) x = x % 2 + sizeK n (x / 2) := rfl
  omega
theorem sum_y {f : Nat → Int} {x k : Nat} (h : x.testBit k = true) : sumM f x k + f k = sumM f x (k + 1) := by
  show _ = sumM f x k + (if x.testBit k then f k else 0)
  rw [if_pos h]
theorem sum_n {f : Nat → Int} {x k : Nat} (h : x.testBit k = false) : sumM f x k = sumM f x (k + 1) := by
  show _ = sumM f x k + (if x.testBit k then f k else 0)
  rw [h]
  show _ = sumM f x k + 0
  omega
theorem sumM_bd {f : Nat → Int} (hf : ∀ w, 0 ≤ f w ∧ f w ≤ 6000) (x : Nat) : ∀ k : Nat, 0 ≤ sumM f x k ∧ sumM f x k ≤ 6000 * (k : Int)
  | 0 => ⟨Int.le_refl _, by show (0 : Int) ≤ 6000 * ((0 : Nat) : Int); omega⟩
  | k + 1 => by
    have h1 := sumM_bd hf x k
    have h2 := hf k
    show 0 ≤ sumM f x k + (if x.testBit k then f k else 0) ∧ sumM f x k + (if x.testBit k then f k else 0) ≤ 6000 * ((k + 1 : Nat) : Int)
    split <;> omega
theorem mostB_ok {D : Debt} (hg : GoodD D) {d : Nat} {s : Int} (hd : d ≤ 30) (hs : 0 ≤ s ∧ s ≤ 5000) : mostB D (d : Int) s = (((pop (mostS D d s) : Int), (mostS D d s : Int)), 0) := by
  rw [mostB, ansD_0 (chkD_0 hg (okMT (decide_eq_true (by omega)) (decide_eq_true hs))), Int.toNat_natCast]
theorem two_p {p : Nat} (h : 1 ≤ p ∧ p ≤ 4) : 1 < 2 ^ p ∧ 2 ^ p ≤ 16 := by
  have h1 : 2 ^ 1 ≤ 2 ^ p := Nat.pow_le_pow_right (by decide) h.1
  have h2 : 2 ^ p ≤ 2 ^ 4 := Nat.pow_le_pow_right (by decide) h.2
  omega
attribute [local irreducible] leftT aheadT gradeS setT needT mostS pop sumM openK
set_option maxHeartbeats 4000000 in
theorem size40_v (m : Nat) (hm : m < 64) : FnV Tryd.prog 40 [i64 (m : Int)] [] (i64 (pop m : Nat)) := by
 refine FnV.intro Tryd.call40 Tryd.func40 rfl Tryd.ntmps40 rfl ?_
 intro W M Rf
 refine r_seq ?_
 refine r_region ?_
 refine o_q _ rfl rfl rfl (v_assign rfl rfl) ?_
 refine o_nil ?_
 with_reducible refine r_then ?_
 refine r_seq ?_
 refine r_region ?_
 refine o_q _ rfl rfl rfl (v_assign rfl rfl) ?_
 refine o_nil ?_
 with_reducible refine r_then ?_
 refine r_seq ?_
 refine r_block ?_
 refine r_loop (ι := Nat × Nat × Nat) (fun gh => gh.2.2 < 2 ^ gh.1 ∧ gh.1 ≤ 6 ∧ gh.2.1 + sizeK gh.1 gh.2.2 = pop m) (fun gh => [(0, i64 (gh.2.2 : Int)), (3, i64 (gh.2.1 : Int))]) (fun gh => M) (fun gh => [] ++ Rf) (fun gh => gh.1) (6, 0, m) ?_ ?_ ?_
 ·
  exact r_here (by repeat (first | exact FSub.nil | refine FSub.cons rfl ?_)) SelMC.sel SubRC.sub
 ·
  exact ⟨hm, Nat.le_refl _, by rw [← size_pop m hm]; exact Nat.zero_add _⟩
 ·
  rintro ⟨q, a, x⟩ hI0
  dsimp only at hI0
  dsimp only
  obtain ⟨hx1, hx2, hx3⟩ := hI0
  have hpl := pop_lt m
  have hq64 : 2 ^ q ≤ 2 ^ 6 := Nat.pow_le_pow_right (by decide) hx2
  have hx64 : x < 64 := by omega
  refine r_seq ?_
  refine r_seq ?_
  refine r_region ?_
  refine o_q _ rfl rfl rfl (v_move rfl rfl) ?_
  refine o_q _ rfl rfl rfl (v_gtr rfl rfl rfl) ?_
  refine o_nil ?_
  with_reducible refine r_then ?_
  refine r_condd rfl (fun hc5 => ?_) (fun hc5 => ?_)
  ·
   refine r_skip ?_
   with_reducible refine r_then ?_
   refine r_block ?_
   obtain ⟨q, rfl⟩ : ∃ n, q = n + 1 := by cases q with | zero => (exfalso; have h1 : x < 1 := hx1; omega) | succ n => exact ⟨n, rfl⟩
   refine r_region ?_
   refine o_q _ rfl rfl rfl (v_move rfl rfl) ?_
   refine o_q _ rfl rfl rfl (v_move rfl rfl) ?_
   refine o_q _ rfl rfl rfl (v_cast (v := i64 ((x % 2 : Nat) : Int)) (v_rem rfl rfl rfl (by omega)) (tmodE (b := 2) rfl rfl)) ?_
   refine o_q _ rfl rfl rfl (v_cast (v := i64 ((a + x % 2 : Nat) : Int)) (v_add rfl rfl rfl (by omega)) (congrArg (Value.int .i64) (by omega))) ?_
   refine o_q _ rfl rfl rfl (v_move rfl rfl) ?_
   refine o_q _ rfl rfl rfl (v_cast (v := i64 ((x / 2 : Nat) : Int)) (v_quo rfl rfl rfl (by omega) (by rw [Int.tdiv_eq_ediv_of_nonneg (by omega)]; omega)) (congrArg (Value.int .i64) (tdiv_nat (a := x) (b := 2)))) ?_
   refine o_q _ rfl rfl rfl (v_assign rfl rfl) ?_
   refine o_q _ rfl rfl rfl (v_assign rfl rfl) ?_
   refine o_nil ?_
   with_reducible refine r_in_normal ?_; refine r_then ?_
   exact r_next ((q, a + x % 2, x / 2)) (by exact r_here (by repeat (first | exact FSub.nil | refine FSub.cons rfl ?_)) SelMC.sel SubRC.sub) (by exact ⟨by rw [Nat.pow_succ] at hx1; show x / 2 < 2 ^ q; omega, by show q ≤ 6; omega, size_s hx3⟩) (by show q < q + 1; omega)
  ·
   refine r_exit ?_
   with_reducible refine r_then_exit ?_; refine r_then_exit ?_; refine r_in_here ?_; refine r_then ?_
   refine r_seq ?_
   have hx0 : x = 0 := by omega
   rw [hx0, size_0] at hx3
   refine r_region ?_
   refine o_q _ rfl rfl rfl (v_move rfl rfl) ?_
   refine o_q _ rfl rfl rfl (v_assign rfl rfl) ?_
   refine o_nil ?_
   with_reducible refine r_then ?_
   refine r_ret ?_
   exact r_retv2 (Rd.tmp rfl rfl) (congrArg (Value.int .i64) (congrArg Nat.cast (by omega))) SelMC.sel SubRC.sub
variable (D : Debt) (uo po : Option Addr) (uc pc : Nat)
end Go.Proofs.YtpfgiednfjfdmaaDoor


namespace Go.Proofs.YtpfgiednfjfdmaaDoor
open Go.G Debt10
set_option maxRecDepth 1000000
attribute [local irreducible] G.ParO G.Fin
theorem end_acc (D : Debt) (e : Nat) (who : Int) (d : Nat) : endA D e who d = acc0 D (amD D e) (paD D e) who (d + 1) := acc_alike (ends_alike D e) who (d + 1)
theorem end_total {D : Debt} (hg : GoodD D) (e : Nat) (who : Int) (d : Nat) : total (endA D e who d).1 = total (progA D e who (d + 1)).1 := by rw [prog_total hg, end_acc]
theorem leftT_same {D : Debt} (hg : GoodD D) (who : Int) (d : Nat) : leftRT D who d = leftT D who d := by
  unfold leftRT leftT
  rw [end_total hg 0, end_total hg 1]
theorem need_eq {D : Debt} (hg : GoodD D) (who : Int) (d : Nat) : sumTo (valF (payF (lstT D (amT D 1) (paT D 1) who d) (bagT D (amT D 1) (paT D 1) who d))) D.dues.length = needT D who d := by
  rw [← total_sum (by rw [nums_pay]; exact lst_nodup who d) (fun x hx => (((lst_ent who d).pay) x hx).1)]
  unfold needT
  rw [progB_total hg]
  exact congrArg (fun x : List Opn × Int => total x.1) (accB_alike (ends_alike D 1) who d)
attribute [local irreducible] leftB aheadB setlB openB needB leftR aheadR setlR openR needR
variable (D : Debt) (uo po : Option Addr) (uc pc : Nat)
end Go.Proofs.YtpfgiednfjfdmaaDoor


namespace Go.Proofs.YtpfgiednfjfdmaaDoor
open Go.G Debt10
set_option maxRecDepth 1000000
attribute [local irreducible] G.ParO G.Fin
/-- Whether one of the first j payments is of the same person and day as the k-th. -/
def TwT (D : Debt) (k j : Nat) : Prop := ∃ i, i < j ∧ (D.paid.getD i default).who = (D.paid.getD k default).who ∧ (D.paid.getD i default).day = (D.paid.getD k default).day
theorem TwT_0 {D : Debt} {k : Nat} : ¬ TwT D k 0 := fun ⟨i, h, _⟩ => by omega
theorem TwT_s {D : Debt} {k j : Nat} (h1 : (D.paid.getD j default).who = (D.paid.getD k default).who) (h2 : (D.paid.getD j default).day = (D.paid.getD k default).day) : TwT D k (j + 1) := ⟨j, by omega, h1, h2⟩
theorem TwT_n {D : Debt} {k j : Nat} (h : ¬ TwT D k j) (h1 : ¬ ((D.paid.getD j default).who = (D.paid.getD k default).who ∧ (D.paid.getD j default).day = (D.paid.getD k default).day)) : ¬ TwT D k (j + 1) := fun ⟨i, h2, h3⟩ => by
  rcases Nat.lt_succ_iff_lt_or_eq.1 h2 with h4 | rfl
  · exact h ⟨i, h4, h3⟩
  · exact h1 h3
attribute [local irreducible] leftT aheadT gradeS setT checkB worstA
variable (D : Debt) (uo po : Option Addr) (uc pc : Nat)
end Go.Proofs.YtpfgiednfjfdmaaDoor

