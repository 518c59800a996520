/- Part 3 of 6 of what the proofs of this seat stand on: a small logic for walks, what the functions come to, and the walks themselves. No condition of its own. -/
import Derived.Test.YtpfgiednfjfdmaaDoorQ2
set_option linter.unusedVariables false
set_option linter.unusedSimpArgs false
set_option linter.unusedSectionVars false
namespace Go.Proofs.YtpfgiednfjfdmaaDoor
open Go.G Debt10
set_option maxRecDepth 1000000
attribute [local irreducible] G.ParO G.Fin
set_option maxHeartbeats 4000000 in
theorem sum_v (xs : List Int) (oa : Option Addr) (c : Nat) (hl : xs.length ≤ 1000) (hb : ∀ x ∈ xs, 0 ≤ x ∧ x ≤ 1000000) : FnV Tryd.prog 82 [.slice oa xs.length c] [rowD oa 1 encI xs] (i64 xs.sum) := by
  refine FnV.intro Tryd.call82 Tryd.func82 rfl Tryd.ntmps82 rfl ?_
  intro W M Rf
  refine r_seq ?_
  refine r_region ?_
  refine o_q _ rfl rfl rfl (v_assign rfl rfl) ?_
  refine o_nil ?_
  repeat (first | with_reducible refine r_then ?_ | with_reducible refine r_in_normal ?_ | with_reducible refine r_sc_normal ?_)
  refine r_seq ?_
  refine r_seq ?_
  refine r_region ?_
  refine o_q _ rfl rfl rfl (v_move rfl rfl) ?_
  refine o_q _ rfl rfl rfl (v_len rfl rfl Tryd.underlying123 rfl) ?_
  refine o_q _ rfl rfl rfl (v_move rfl rfl) ?_
  refine o_nil ?_
  repeat (first | with_reducible refine r_then ?_ | with_reducible refine r_in_normal ?_ | with_reducible refine r_sc_normal ?_)
  refine r_block ?_
  refine r_loop (ι := Nat) (fun k => k ≤ xs.length) (fun k => [(2, i64 (sumK xs k)), (5, .slice oa xs.length c), (6, i64 xs.length), (7, i64 k)]) (fun k => M) (fun k => [rowD oa 1 encI xs] ++ Rf) (fun k => xs.length - k) 0 ?_ ?_ ?_
  ·
    exact r_here (by repeat (first | exact FSub.nil | refine FSub.cons rfl ?_)) SelMC.sel SubRC.sub
  ·
    omega
  ·
    rintro k hI0
    refine r_seq ?_
    refine r_region ?_
    refine o_q _ rfl rfl rfl (v_lss rfl rfl rfl) ?_
    refine o_nil ?_
    repeat (first | with_reducible refine r_then ?_ | with_reducible refine r_in_normal ?_ | with_reducible refine r_sc_normal ?_)
    refine r_seq ?_
    first | refine r_condd rfl (fun hc8 => ?_) (fun hc8 => ?_) | refine r_cond rfl (fun hc8 => ?_) (fun hc8 => ?_)
    ·
      first
      | (exfalso; revert hc8; decide)
      | (exfalso; omega)
      | skip
        refine r_skip ?_
        repeat (first | with_reducible refine r_then ?_ | with_reducible refine r_in_normal ?_ | with_reducible refine r_sc_normal ?_)
        refine r_seq ?_
        refine r_block ?_
        refine r_seq ?_
        refine r_region ?_
        first | refine o_q _ rfl rfl rfl (v_indexAddrSn rfl Tryd.underlying123 inf75 rfl rfl rfl (by omega) rfl) ?_ | refine o_q _ rfl rfl rfl (v_indexAddrS rfl Tryd.underlying123 inf75 rfl rfl rfl (by omega) (by omega) rfl) ?_
        refine o_q _ rfl rfl rfl (v_loadE1 (v := i64 (xs.getD k default)) rfl Tryd.underlying75 rfl rfl (by omega) rfl rfl) ?_
        refine o_q _ rfl rfl rfl (v_assign rfl rfl) ?_
        refine o_nil ?_
        repeat (first | with_reducible refine r_then ?_ | with_reducible refine r_in_normal ?_ | with_reducible refine r_sc_normal ?_)
        have hk1 := sumK_bd (by omega) hb (k := k) (by omega)
        have hk2 := sumK_bd (by omega) hb (k := k + 1) (by omega)
        have hk3 := sumK_s (l := xs) (k := k) (d := default) (by omega)
        refine r_region ?_
        refine o_q _ rfl rfl rfl (v_move rfl rfl) ?_
        refine o_q _ rfl rfl rfl (v_move rfl rfl) ?_
        refine o_q _ rfl rfl rfl (v_add rfl rfl rfl (by omega)) ?_
        refine o_q _ rfl rfl rfl (v_assign rfl rfl) ?_
        refine o_nil ?_
        repeat (first | with_reducible refine r_then ?_ | with_reducible refine r_in_normal ?_ | with_reducible refine r_sc_normal ?_)
        refine r_region ?_
        refine o_q _ rfl rfl rfl (v_add rfl rfl rfl (by omega)) ?_
        refine o_q _ rfl rfl rfl (v_move rfl rfl) ?_
        refine o_nil ?_
        repeat (first | with_reducible refine r_then ?_ | with_reducible refine r_in_normal ?_ | with_reducible refine r_sc_normal ?_)
        refine r_next (k + 1) ?_ ?_ ?_
        ·
          rw [hk3]
          exact r_here (by repeat (first | exact FSub.nil | refine FSub.cons rfl ?_)) SelMC.sel SubRC.sub
        ·
          omega
        ·
          omega
    ·
      first
      | (exfalso; revert hc8; decide)
      | (exfalso; omega)
      | skip
        refine r_exit ?_
        repeat (first | with_reducible refine r_then_exit ?_ | with_reducible refine r_sc_exit ?_ | with_reducible refine r_in_here ?_ | (with_reducible refine r_in_past (by decide) ?_) | with_reducible refine r_then ?_ | with_reducible refine r_in_normal ?_ | with_reducible refine r_sc_normal ?_)
        refine r_seq ?_
        refine r_region ?_
        refine o_q _ rfl rfl rfl (v_move rfl rfl) ?_
        refine o_q _ rfl rfl rfl (v_assign rfl rfl) ?_
        refine o_nil ?_
        repeat (first | with_reducible refine r_then ?_ | with_reducible refine r_in_normal ?_ | with_reducible refine r_sc_normal ?_)
        refine r_ret ?_
        repeat (first | with_reducible refine r_then_ret ?_ | with_reducible refine r_in_ret ?_ | with_reducible refine r_sc_ret ?_)
        obtain rfl : k = xs.length := by omega
        exact r_retv2 (Rd.tmp rfl rfl) (by rw [sumK_all]) SelMC.sel SubRC.sub
set_option maxHeartbeats 4000000 in
theorem left_v (l : List Opn) (oa : Option Addr) (c : Nat) (A : Int) (hl : l.length ≤ 100) (hb : ∀ x ∈ l, 0 ≤ x.left ∧ x.left ≤ 1000000) : FnV Tryd.prog 72 [vA oa l.length c A] [rowD oa 4 encO l] (i64 (total l)) := by
  refine FnV.intro Tryd.call72 Tryd.func72 rfl Tryd.ntmps72 rfl ?_
  intro W M Rf
  refine r_seq ?_
  refine r_region ?_
  refine o_boxA rfl rfl rfl rfl rfl (fun b1 => ?_)
  refine o_q _ rfl rfl rfl (v_assign rfl rfl) ?_
  refine o_nil ?_
  repeat (first | with_reducible refine r_then ?_ | with_reducible refine r_in_normal ?_ | with_reducible refine r_sc_normal ?_)
  refine r_seq ?_
  refine r_region ?_
  refine o_q _ rfl rfl rfl (v_assign rfl rfl) ?_
  refine o_nil ?_
  repeat (first | with_reducible refine r_then ?_ | with_reducible refine r_in_normal ?_ | with_reducible refine r_sc_normal ?_)
  refine r_seq ?_
  refine r_seq ?_
  refine Imp.nilL 75 1 encI ?_
  refine r_region ?_
  first | refine o_q _ rfl rfl rfl (v_fieldAddr rfl Tryd.underlying77 inf74 rfl rfl rfl rfl) ?_ | refine o_q _ rfl rfl rfl (v_fieldAddrE rfl Tryd.underlying77 inf74 rfl rfl rfl rfl) ?_
  first | refine o_q _ rfl rfl rfl (v_ld1 rfl Tryd.underlying74 rfl rfl rfl) ?_ | refine o_q _ rfl rfl rfl (v_lf1 rfl Tryd.underlying74 rfl rfl rfl) ?_ | refine o_q _ rfl rfl rfl (v_loadE1 rfl Tryd.underlying74 rfl rfl (by omega) rfl rfl) ?_
  refine o_q _ rfl rfl rfl (v_len rfl rfl Tryd.underlying74 rfl) ?_
  refine o_q _ rfl rfl rfl (v_move rfl rfl) ?_
  refine o_nil ?_
  repeat (first | with_reducible refine r_then ?_ | with_reducible refine r_in_normal ?_ | with_reducible refine r_sc_normal ?_)
  refine r_block ?_
  refine r_loop (ι := Nat × Value) (fun gh => gh.1 ≤ l.length) (fun gh => [(1, pt b1 0), (3, gh.2), (7, .slice oa l.length c), (8, i64 l.length), (9, i64 gh.1)]) (fun gh => ownL gh.2 75 1 encI ((l.map (·.left)).take gh.1) :: M) (fun gh => [rowD oa 4 encO l] ++ Rf) (fun gh => l.length - gh.1) (0, .slice none 0 0) ?_ ?_ ?_
  ·
    refine Imp.own_to (.slice none 0 0) ((l.map (·.left)).take 0) rfl ?_
    exact r_here (by repeat (first | exact FSub.nil | refine FSub.cons rfl ?_)) SelMC.sel SubRC.sub
  ·
    exact Nat.zero_le _
  ·
    rintro ⟨k, v⟩ hI0
    dsimp only at hI0
    dsimp only
    have hI : k ≤ l.length := hI0
    have hlen : ((l.map (·.left)).take k).length = k := by rw [List.length_take, List.length_map]; omega
    refine r_seq ?_
    refine r_region ?_
    refine o_q _ rfl rfl rfl (v_lss rfl rfl rfl) ?_
    refine o_nil ?_
    repeat (first | with_reducible refine r_then ?_ | with_reducible refine r_in_normal ?_ | with_reducible refine r_sc_normal ?_)
    refine r_seq ?_
    first | refine r_condd rfl (fun hc10 => ?_) (fun hc10 => ?_) | refine r_cond rfl (fun hc10 => ?_) (fun hc10 => ?_)
    ·
      first
      | (exfalso; revert hc10; decide)
      | (exfalso; omega)
      | skip
        refine r_skip ?_
        repeat (first | with_reducible refine r_then ?_ | with_reducible refine r_in_normal ?_ | with_reducible refine r_sc_normal ?_)
        refine r_seq ?_
        refine r_block ?_
        refine r_seq ?_
        refine r_region ?_
        first | refine o_q _ rfl rfl rfl (v_indexAddrSn rfl Tryd.underlying74 inf116 rfl rfl rfl (by omega) rfl) ?_ | refine o_q _ rfl rfl rfl (v_indexAddrS rfl Tryd.underlying74 inf116 rfl rfl rfl (by omega) (by omega) rfl) ?_
        refine o_q _ rfl rfl rfl (v_loadEN (us := encO (l.getD k default)) rfl Tryd.underlying116 rfl inf116 rfl (by omega) rfl rfl rfl) ?_
        refine o_alloc rfl inf116 rfl rfl rfl rfl rfl (fun b5 => ?_)
        refine o_st rfl inf116 rfl rfl rfl rfl rfl rfl rfl rfl ?_
        refine o_nil ?_
        repeat (first | with_reducible refine r_then ?_ | with_reducible refine r_in_normal ?_ | with_reducible refine r_sc_normal ?_)
        refine Imp.box_to b5 (encO (l.getD k default)) rfl ?_
        refine r_region ?_
        refine o_q _ rfl rfl rfl (v_move rfl rfl) ?_
        first | refine o_q _ rfl rfl rfl (v_fieldAddr rfl Tryd.underlying116 inf75 rfl rfl rfl rfl) ?_ | refine o_q _ rfl rfl rfl (v_fieldAddrE rfl Tryd.underlying116 inf75 rfl rfl rfl rfl) ?_
        first | refine o_q _ rfl rfl rfl (v_ld1 rfl Tryd.underlying75 rfl rfl rfl) ?_ | refine o_q _ rfl rfl rfl (v_lf1 rfl Tryd.underlying75 rfl rfl rfl) ?_ | refine o_q _ rfl rfl rfl (v_loadE1 rfl Tryd.underlying75 rfl rfl (by omega) rfl rfl) ?_
        refine o_lit rfl Tryd.underlying123 inf75 rfl rfl rfl rfl rfl rfl rfl rfl (by repeat (first | exact trivial | refine ⟨rfl, ?_⟩)) (by rfl) (fun b16 => ?_)
        refine o_app1 ((l.getD k default).left) rfl Tryd.underlying123 inf75 rfl (by rfl) (by rfl) rfl rfl rfl rfl rfl (by rfl) (by rfl) (by rfl) (by first | omega | (constructor <;> first | omega | decide)) (fun v17 => ?_)
        refine o_q _ rfl rfl rfl (v_assign rfl rfl) ?_
        refine o_nil ?_
        repeat (first | with_reducible refine r_then ?_ | with_reducible refine r_in_normal ?_ | with_reducible refine r_sc_normal ?_)
        refine r_region ?_
        refine o_q _ rfl rfl rfl (v_add rfl rfl rfl (by omega)) ?_
        refine o_q _ rfl rfl rfl (v_move rfl rfl) ?_
        refine o_nil ?_
        repeat (first | with_reducible refine r_then ?_ | with_reducible refine r_in_normal ?_ | with_reducible refine r_sc_normal ?_)
        first
        | exact r_next ((k + 1, v17)) (by refine Imp.own_to v17 ((l.map (·.left)).take (k + 1)) (by rw [← take_next (d := default) (by rw [List.length_map]; omega), map_at (d := default) (by omega)]) ?_; exact r_here (by repeat (first | exact FSub.nil | refine FSub.cons rfl ?_)) SelMC.sel SubRC.sub) (by first | omega | (show _ + 1 ≤ _; omega)) (by first | omega | (show _ - (_ + 1) < _ - _; omega))
    ·
      first
      | (exfalso; revert hc10; decide)
      | (exfalso; omega)
      | skip
        refine r_exit ?_
        repeat (first | with_reducible refine r_then_exit ?_ | with_reducible refine r_sc_exit ?_ | with_reducible refine r_in_here ?_ | (with_reducible refine r_in_past (by decide) ?_) | with_reducible refine r_then ?_ | with_reducible refine r_in_normal ?_ | with_reducible refine r_sc_normal ?_)
        refine r_seq ?_
        obtain rfl : k = l.length := by omega
        have hll : ((l.map (·.left)).take l.length).length = l.length := by rw [List.length_take, List.length_map]; omega
        refine Imp.settleS v encI_len (fun ob oc he => ?_)
        subst he
        refine r_region ?_
        refine o_q _ rfl rfl rfl (v_move rfl rfl) ?_
        refine o_q _ rfl rfl rfl (OpQ.fn (sum_v ((l.map (·.left)).take l.length) ob oc (by omega) (fun x hx => by obtain ⟨y, hy, rfl⟩ := List.mem_map.1 (List.mem_of_mem_take hx); exact hb y hy)) rfl rfl SubRC.sub) ?_
        refine o_q _ rfl rfl rfl (v_assign rfl rfl) ?_
        refine o_nil ?_
        repeat (first | with_reducible refine r_then ?_ | with_reducible refine r_in_normal ?_ | with_reducible refine r_sc_normal ?_)
        refine r_ret ?_
        repeat (first | with_reducible refine r_then_ret ?_ | with_reducible refine r_in_ret ?_ | with_reducible refine r_sc_ret ?_)
        exact r_retv2 (Rd.tmp rfl rfl) (by rw [total_map, show l.length = (l.map (·.left)).length from (List.length_map _).symm, List.take_length]) SelMC.sel SubRC.sub
set_option maxHeartbeats 4000000 in
theorem set_v (l : List Opn) (oa : Option Addr) (c : Nat) (A : Int) (hl : l.length ≤ 100) (hb : ∀ x ∈ l, x.number < 6) : FnV Tryd.prog 54 [vA oa l.length c A] [rowD oa 4 encO l] (i64 (setK l l.length : Nat)) := by
  refine FnV.intro Tryd.call54 Tryd.func54 rfl Tryd.ntmps54 rfl ?_
  intro W M Rf
  refine r_seq ?_
  refine r_region ?_
  refine o_boxA rfl rfl rfl rfl rfl (fun b1 => ?_)
  refine o_q _ rfl rfl rfl (v_assign rfl rfl) ?_
  refine o_nil ?_
  repeat (first | with_reducible refine r_then ?_ | with_reducible refine r_in_normal ?_ | with_reducible refine r_sc_normal ?_)
  refine r_seq ?_
  refine r_seq ?_
  refine r_region ?_
  first | refine o_q _ rfl rfl rfl (v_fieldAddr rfl Tryd.underlying77 inf74 rfl rfl rfl rfl) ?_ | refine o_q _ rfl rfl rfl (v_fieldAddrE rfl Tryd.underlying77 inf74 rfl rfl rfl rfl) ?_
  first | refine o_q _ rfl rfl rfl (v_ld1 rfl Tryd.underlying74 rfl rfl rfl) ?_ | refine o_q _ rfl rfl rfl (v_lf1 rfl Tryd.underlying74 rfl rfl rfl) ?_ | refine o_q _ rfl rfl rfl (v_loadE1 rfl Tryd.underlying74 rfl rfl (by omega) rfl rfl) ?_
  refine o_q _ rfl rfl rfl (v_len rfl rfl Tryd.underlying74 rfl) ?_
  refine o_q _ rfl rfl rfl (v_move rfl rfl) ?_
  refine o_nil ?_
  repeat (first | with_reducible refine r_then ?_ | with_reducible refine r_in_normal ?_ | with_reducible refine r_sc_normal ?_)
  refine r_block ?_
  refine r_loop (ι := Nat) (fun k => k ≤ l.length) (fun k => [(1, pt b1 0), (2, i64 (setK l k : Nat)), (6, .slice oa l.length c), (7, i64 l.length), (8, i64 k)]) (fun k => M) (fun k => [rowD oa 4 encO l] ++ Rf) (fun k => l.length - k) 0 ?_ ?_ ?_
  ·
    exact r_here (by repeat (first | exact FSub.nil | refine FSub.cons rfl ?_)) SelMC.sel SubRC.sub
  ·
    omega
  ·
    rintro k hI0
    refine r_seq ?_
    refine r_region ?_
    refine o_q _ rfl rfl rfl (v_lss rfl rfl rfl) ?_
    refine o_nil ?_
    repeat (first | with_reducible refine r_then ?_ | with_reducible refine r_in_normal ?_ | with_reducible refine r_sc_normal ?_)
    refine r_seq ?_
    first | refine r_condd rfl (fun hc9 => ?_) (fun hc9 => ?_) | refine r_cond rfl (fun hc9 => ?_) (fun hc9 => ?_)
    ·
      first
      | (exfalso; revert hc9; decide)
      | (exfalso; omega)
      | skip
        refine r_skip ?_
        repeat (first | with_reducible refine r_then ?_ | with_reducible refine r_in_normal ?_ | with_reducible refine r_sc_normal ?_)
        refine r_seq ?_
        refine r_block ?_
        refine r_seq ?_
        refine r_region ?_
        first | refine o_q _ rfl rfl rfl (v_indexAddrSn rfl Tryd.underlying74 inf116 rfl rfl rfl (by omega) rfl) ?_ | refine o_q _ rfl rfl rfl (v_indexAddrS rfl Tryd.underlying74 inf116 rfl rfl rfl (by omega) (by omega) rfl) ?_
        refine o_q _ rfl rfl rfl (v_loadEN (us := encO (l.getD k default)) rfl Tryd.underlying116 rfl inf116 rfl (by omega) rfl rfl rfl) ?_
        refine o_alloc rfl inf116 rfl rfl rfl rfl rfl (fun b4 => ?_)
        refine o_st rfl inf116 rfl rfl rfl rfl rfl rfl rfl rfl ?_
        refine o_nil ?_
        repeat (first | with_reducible refine r_then ?_ | with_reducible refine r_in_normal ?_ | with_reducible refine r_sc_normal ?_)
        refine Imp.box_to b4 (encO (l.getD k default)) rfl ?_
        have hnb := hb (l.getD k default) (mem_at (by omega))
        refine r_region ?_
        refine o_q _ rfl rfl rfl (v_move rfl rfl) ?_
        first | refine o_q _ rfl rfl rfl (v_fieldAddr rfl Tryd.underlying116 inf3 rfl rfl rfl rfl) ?_ | refine o_q _ rfl rfl rfl (v_fieldAddrE rfl Tryd.underlying116 inf3 rfl rfl rfl rfl) ?_
        first | refine o_q _ rfl rfl rfl (v_ld1 rfl Tryd.underlying3 rfl rfl rfl) ?_ | refine o_q _ rfl rfl rfl (v_lf1 rfl Tryd.underlying3 rfl rfl rfl) ?_ | refine o_q _ rfl rfl rfl (v_loadE1 rfl Tryd.underlying3 rfl rfl (by omega) rfl rfl) ?_
        refine o_q _ rfl rfl rfl (v_shl1 (h := (l.getD k default).number) rfl rfl rfl (by omega) rfl) ?_
        refine o_q _ rfl rfl rfl (v_orn (a := setK l k) (b := 2 ^ (l.getD k default).number) rfl rfl rfl (setK_lt hb (by omega)) (Nat.pow_lt_pow_right (by decide) (by omega))) ?_
        refine o_q _ rfl rfl rfl (v_assign rfl rfl) ?_
        refine o_nil ?_
        repeat (first | with_reducible refine r_then ?_ | with_reducible refine r_in_normal ?_ | with_reducible refine r_sc_normal ?_)
        refine r_region ?_
        refine o_q _ rfl rfl rfl (v_add rfl rfl rfl (by omega)) ?_
        refine o_q _ rfl rfl rfl (v_move rfl rfl) ?_
        refine o_nil ?_
        repeat (first | with_reducible refine r_then ?_ | with_reducible refine r_in_normal ?_ | with_reducible refine r_sc_normal ?_)
        refine r_next (k + 1) ?_ ?_ ?_
        ·
          rw [← setK_s (by omega)]
          exact r_here (by repeat (first | exact FSub.nil | refine FSub.cons rfl ?_)) SelMC.sel SubRC.sub
        ·
          omega
        ·
          omega
    ·
      first
      | (exfalso; revert hc9; decide)
      | (exfalso; omega)
      | skip
        refine r_exit ?_
        repeat (first | with_reducible refine r_then_exit ?_ | with_reducible refine r_sc_exit ?_ | with_reducible refine r_in_here ?_ | (with_reducible refine r_in_past (by decide) ?_) | with_reducible refine r_then ?_ | with_reducible refine r_in_normal ?_ | with_reducible refine r_sc_normal ?_)
        refine r_seq ?_
        refine r_region ?_
        refine o_q _ rfl rfl rfl (v_move rfl rfl) ?_
        refine o_q _ rfl rfl rfl (v_assign rfl rfl) ?_
        refine o_nil ?_
        repeat (first | with_reducible refine r_then ?_ | with_reducible refine r_in_normal ?_ | with_reducible refine r_sc_normal ?_)
        refine r_ret ?_
        repeat (first | with_reducible refine r_then_ret ?_ | with_reducible refine r_in_ret ?_ | with_reducible refine r_sc_ret ?_)
        obtain rfl : k = l.length := by omega
        exact r_retv2 (Rd.tmp rfl rfl) rfl SelMC.sel SubRC.sub
theorem oneO (x : Opn) : oneCells (encO x) = true := rfl
set_option maxHeartbeats 4000000 in
theorem pay_s (l : List Opn) (oa : Option Addr) (c : Nat) (A : Int) (hl : l.length ≤ 100) (hb : ∀ x ∈ l, 0 ≤ x.left ∧ x.left ≤ 1000000) (hA : 0 ≤ A ∧ A ≤ 1000000) : FnS Tryd.prog 103 [vA oa l.length c A] [] [rowD oa 4 encO l] (fun e M' R' => ∃ x : Option Addr × Nat, e = .returned (vA x.1 (payL l A).length x.2 (restF l A)) ∧ M' = [] ∧ R' = [rowD x.1 4 encO (payL l A)]) := by
  refine FnS.intro0 Tryd.call103 Tryd.func103 rfl Tryd.ntmps103 rfl ?_
  intro W M Rf
  refine r_seq ?_
  refine r_region ?_
  refine o_boxA rfl rfl rfl rfl rfl (fun b1 => ?_)
  refine o_alloc rfl inf77 rfl rfl rfl rfl rfl (fun b2 => ?_)
  refine o_nil ?_
  repeat (first | with_reducible refine r_then ?_ | with_reducible refine r_in_normal ?_ | with_reducible refine r_sc_normal ?_)
  refine r_seq ?_
  refine r_region ?_
  first | refine o_q _ rfl rfl rfl (v_fieldAddr rfl Tryd.underlying77 inf74 rfl rfl rfl rfl) ?_ | refine o_q _ rfl rfl rfl (v_fieldAddrE rfl Tryd.underlying77 inf74 rfl rfl rfl rfl) ?_
  first | refine o_q _ rfl rfl rfl (v_ld1 rfl Tryd.underlying74 rfl rfl rfl) ?_ | refine o_q _ rfl rfl rfl (v_lf1 rfl Tryd.underlying74 rfl rfl rfl) ?_ | refine o_q _ rfl rfl rfl (v_loadE1 rfl Tryd.underlying74 rfl rfl (by omega) rfl rfl) ?_
  refine o_q _ rfl rfl rfl (v_len rfl rfl Tryd.underlying74 rfl) ?_
  refine o_make (enc := encO) (sz := 4) (⟨0, 0, 0, 0⟩ : Opn) rfl Tryd.underlying74 inf116 rfl rfl rfl rfl rfl rfl rfl rfl rfl (Nat.zero_le _) ⟨by omega, by decide⟩ (fun b10 => ?_)
  refine o_q _ rfl rfl rfl (v_assign rfl rfl) ?_
  refine o_nil ?_
  repeat (first | with_reducible refine r_then ?_ | with_reducible refine r_in_normal ?_ | with_reducible refine r_sc_normal ?_)
  refine r_seq ?_
  refine r_seq ?_
  refine r_region ?_
  first | refine o_q _ rfl rfl rfl (v_fieldAddr rfl Tryd.underlying77 inf74 rfl rfl rfl rfl) ?_ | refine o_q _ rfl rfl rfl (v_fieldAddrE rfl Tryd.underlying77 inf74 rfl rfl rfl rfl) ?_
  first | refine o_q _ rfl rfl rfl (v_ld1 rfl Tryd.underlying74 rfl rfl rfl) ?_ | refine o_q _ rfl rfl rfl (v_lf1 rfl Tryd.underlying74 rfl rfl rfl) ?_ | refine o_q _ rfl rfl rfl (v_loadE1 rfl Tryd.underlying74 rfl rfl (by omega) rfl rfl) ?_
  refine o_q _ rfl rfl rfl (v_len rfl rfl Tryd.underlying74 rfl) ?_
  refine o_q _ rfl rfl rfl (v_move rfl rfl) ?_
  refine o_nil ?_
  repeat (first | with_reducible refine r_then ?_ | with_reducible refine r_in_normal ?_ | with_reducible refine r_sc_normal ?_)
  refine r_block ?_
  refine r_loop (ι := Nat × Value) (fun gh => gh.1 ≤ l.length) (fun gh => [(1, pt b1 0), (2, pt b2 0), (3, gh.2), (12, .slice oa l.length c), (13, i64 l.length), (14, i64 gh.1)]) (fun gh => ownL gh.2 116 4 encO (payK l A gh.1) :: bx b1 77 [.slice oa l.length c, i64 (restK l A gh.1)] :: bx b2 77 [.slice none 0 0, i64 0] :: M) (fun gh => [rowD oa 4 encO l] ++ Rf) (fun gh => l.length - gh.1) (0, .slice (some ⟨b10, 0, none⟩) 0 l.length) ?_ ?_ ?_
  ·
    refine Imp.own_to (.slice (some ⟨b10, 0, none⟩) 0 l.length) (payK l A 0) rfl ?_
    refine Imp.box_to b1 [.slice oa l.length c, i64 (restK l A 0)] rfl ?_
    refine Imp.box_to b2 [.slice none 0 0, i64 0] rfl ?_
    exact r_here (by repeat (first | exact FSub.nil | refine FSub.cons rfl ?_)) SelMC.sel SubRC.sub
  ·
    exact Nat.zero_le _
  ·
    rintro ⟨k, v⟩ hI0
    dsimp only at hI0
    dsimp only
    have hI : k ≤ l.length := hI0
    have hlen := payK_len l A k
    have hq := restK_bd (fun x hx => (hb x hx).1) hA.1 hI
    have hq2 := fun h => hb (l.getD k default) (mem_at (l := l) (d := default) h)
    have hr1 := fun h => restK_s (l := l) (A := A) (k := k) h
    refine r_seq ?_
    refine r_region ?_
    refine o_q _ rfl rfl rfl (v_lss rfl rfl rfl) ?_
    refine o_nil ?_
    repeat (first | with_reducible refine r_then ?_ | with_reducible refine r_in_normal ?_ | with_reducible refine r_sc_normal ?_)
    refine r_seq ?_
    first | refine r_condd rfl (fun hc15 => ?_) (fun hc15 => ?_) | refine r_cond rfl (fun hc15 => ?_) (fun hc15 => ?_)
    ·
      first
      | (exfalso; revert hc15; decide)
      | (exfalso; omega)
      | skip
        refine r_skip ?_
        repeat (first | with_reducible refine r_then ?_ | with_reducible refine r_in_normal ?_ | with_reducible refine r_sc_normal ?_)
        refine r_seq ?_
        refine r_block ?_
        refine r_seq ?_
        refine r_region ?_
        first | refine o_q _ rfl rfl rfl (v_indexAddrSn rfl Tryd.underlying74 inf116 rfl rfl rfl (by omega) rfl) ?_ | refine o_q _ rfl rfl rfl (v_indexAddrS rfl Tryd.underlying74 inf116 rfl rfl rfl (by omega) (by omega) rfl) ?_
        refine o_q _ rfl rfl rfl (v_loadEN (us := encO (l.getD k default)) rfl Tryd.underlying116 rfl inf116 rfl (by omega) rfl rfl rfl) ?_
        refine o_alloc rfl inf116 rfl rfl rfl rfl rfl (fun b5 => ?_)
        refine o_st rfl inf116 rfl rfl rfl rfl rfl rfl rfl rfl ?_
        refine o_nil ?_
        repeat (first | with_reducible refine r_then ?_ | with_reducible refine r_in_normal ?_ | with_reducible refine r_sc_normal ?_)
        refine r_seq ?_
        refine Imp.box_to b5 (encO (l.getD k default)) rfl ?_
        refine r_region ?_
        first | refine o_q _ rfl rfl rfl (v_fieldAddr rfl Tryd.underlying116 inf75 rfl rfl rfl rfl) ?_ | refine o_q _ rfl rfl rfl (v_fieldAddrE rfl Tryd.underlying116 inf75 rfl rfl rfl rfl) ?_
        first | refine o_q _ rfl rfl rfl (v_ld1 rfl Tryd.underlying75 rfl rfl rfl) ?_ | refine o_q _ rfl rfl rfl (v_lf1 rfl Tryd.underlying75 rfl rfl rfl) ?_ | refine o_q _ rfl rfl rfl (v_loadE1 rfl Tryd.underlying75 rfl rfl (by omega) rfl rfl) ?_
        refine o_q _ rfl rfl rfl (v_makeFunc rfl rfl rfl) ?_
        refine o_q _ rfl rfl rfl (v_assign rfl rfl) ?_
        refine o_nil ?_
        repeat (first | with_reducible refine r_then ?_ | with_reducible refine r_in_normal ?_ | with_reducible refine r_sc_normal ?_)
        refine r_seq ?_
        refine r_region ?_
        refine o_q _ rfl rfl rfl (v_move rfl rfl) ?_
        first | refine o_q _ rfl rfl rfl (v_fieldAddr rfl Tryd.underlying77 inf75 rfl rfl rfl rfl) ?_ | refine o_q _ rfl rfl rfl (v_fieldAddrE rfl Tryd.underlying77 inf75 rfl rfl rfl rfl) ?_
        first | refine o_q _ rfl rfl rfl (v_ld1 rfl Tryd.underlying75 rfl rfl rfl) ?_ | refine o_q _ rfl rfl rfl (v_lf1 rfl Tryd.underlying75 rfl rfl rfl) ?_ | refine o_q _ rfl rfl rfl (v_loadE1 rfl Tryd.underlying75 rfl rfl (by omega) rfl rfl) ?_
        refine o_q _ rfl rfl rfl (OpQ.call (less_v (l.getD k default).left (restK l A k) (by omega) (by omega)) rfl [i64 (l.getD k default).left] [] rfl rfl rfl SubRC.sub) ?_
        refine o_q _ rfl rfl rfl (v_move rfl rfl) ?_
        refine o_q _ rfl rfl rfl (v_extract rfl rfl rfl) ?_
        refine o_q _ rfl rfl rfl (v_extract rfl rfl rfl) ?_
        first | refine o_q _ rfl rfl rfl (v_fieldAddr rfl Tryd.underlying116 inf75 rfl rfl rfl rfl) ?_ | refine o_q _ rfl rfl rfl (v_fieldAddrE rfl Tryd.underlying116 inf75 rfl rfl rfl rfl) ?_
        refine o_st rfl inf75 rfl rfl rfl rfl rfl rfl rfl rfl ?_
        first | refine o_q _ rfl rfl rfl (v_fieldAddr rfl Tryd.underlying77 inf75 rfl rfl rfl rfl) ?_ | refine o_q _ rfl rfl rfl (v_fieldAddrE rfl Tryd.underlying77 inf75 rfl rfl rfl rfl) ?_
        refine o_st rfl inf75 rfl rfl rfl rfl rfl rfl rfl rfl ?_
        refine o_nil ?_
        repeat (first | with_reducible refine r_then ?_ | with_reducible refine r_in_normal ?_ | with_reducible refine r_sc_normal ?_)
        refine r_seq ?_
        refine Imp.box_to b5 [i64 (l.getD k default).number, i64 (l.getD k default).day, i64 (max 0 ((l.getD k default).left - restK l A k)), i64 (l.getD k default).late] rfl ?_
        refine Imp.box_to b1 [.slice oa l.length c, i64 (restK l A (k + 1))] (by rw [hr1 (by omega)]; rfl) ?_
        refine r_region ?_
        first | refine o_q _ rfl rfl rfl (v_fieldAddr rfl Tryd.underlying116 inf75 rfl rfl rfl rfl) ?_ | refine o_q _ rfl rfl rfl (v_fieldAddrE rfl Tryd.underlying116 inf75 rfl rfl rfl rfl) ?_
        first | refine o_q _ rfl rfl rfl (v_ld1 rfl Tryd.underlying75 rfl rfl rfl) ?_ | refine o_q _ rfl rfl rfl (v_lf1 rfl Tryd.underlying75 rfl rfl rfl) ?_ | refine o_q _ rfl rfl rfl (v_loadE1 rfl Tryd.underlying75 rfl rfl (by omega) rfl rfl) ?_
        refine o_q _ rfl rfl rfl (v_gtr rfl rfl rfl) ?_
        refine o_nil ?_
        repeat (first | with_reducible refine r_then ?_ | with_reducible refine r_in_normal ?_ | with_reducible refine r_sc_normal ?_)
        first | refine r_condd rfl (fun hc32 => ?_) (fun hc32 => ?_) | refine r_cond rfl (fun hc32 => ?_) (fun hc32 => ?_)
        ·
          first
          | (exfalso; revert hc32; decide)
          | (exfalso; omega)
          | skip
            refine r_region ?_
            refine o_q _ rfl rfl rfl (v_move rfl rfl) ?_
            first | refine o_q _ rfl rfl rfl (v_ldW rfl Tryd.underlying116 rfl inf116 rfl rfl) ?_ | refine o_q _ rfl rfl rfl (v_lfW rfl Tryd.underlying116 rfl inf116 rfl rfl) ?_ | refine o_q _ rfl rfl rfl (v_lfN rfl Tryd.underlying116 rfl inf116 rfl rfl rfl) ?_ | refine o_q _ rfl rfl rfl (v_ldN rfl Tryd.underlying116 rfl inf116 rfl rfl rfl) ?_ | refine o_q _ rfl rfl rfl (v_loadEN rfl Tryd.underlying116 rfl inf116 rfl (by omega) rfl rfl rfl) ?_
            refine o_lit rfl Tryd.underlying74 inf116 rfl rfl rfl rfl rfl rfl rfl rfl (by repeat (first | exact trivial | refine ⟨rfl, ?_⟩)) (by rfl) (fun b35 => ?_)
            refine o_app1 (({ (l.getD k default) with left := max 0 ((l.getD k default).left - restK l A k) } : Opn)) rfl Tryd.underlying74 inf116 rfl (by rfl) (by rfl) rfl rfl rfl rfl rfl (by rfl) (by rfl) (by rfl) (by first | omega | (constructor <;> first | omega | decide)) (fun v36 => ?_)
            refine o_q _ rfl rfl rfl (v_assign rfl rfl) ?_
            refine o_nil ?_
            repeat (first | with_reducible refine r_then ?_ | with_reducible refine r_in_normal ?_ | with_reducible refine r_sc_normal ?_)
            refine r_region ?_
            refine o_q _ rfl rfl rfl (v_add rfl rfl rfl (by omega)) ?_
            refine o_q _ rfl rfl rfl (v_move rfl rfl) ?_
            refine o_nil ?_
            repeat (first | with_reducible refine r_then ?_ | with_reducible refine r_in_normal ?_ | with_reducible refine r_sc_normal ?_)
            first
            | exact r_next ((k + 1, v36)) (by refine Imp.own_to v36 (payK l A (k + 1)) (payK_y (by omega) (by omega)) ?_; exact r_here (by repeat (first | exact FSub.nil | refine FSub.cons rfl ?_)) SelMC.sel SubRC.sub) (by first | omega | (show _ + 1 ≤ _; omega)) (by first | omega | (show _ - (_ + 1) < _ - _; omega))
            | exact r_next ((k + 1, v)) (by refine Imp.own_to v (payK l A (k + 1)) (payK_n (by omega) (by omega)) ?_; exact r_here (by repeat (first | exact FSub.nil | refine FSub.cons rfl ?_)) SelMC.sel SubRC.sub) (by first | omega | (show _ + 1 ≤ _; omega)) (by first | omega | (show _ - (_ + 1) < _ - _; omega))
        ·
          first
          | (exfalso; revert hc32; decide)
          | (exfalso; omega)
          | skip
            refine r_skip ?_
            repeat (first | with_reducible refine r_then ?_ | with_reducible refine r_in_normal ?_ | with_reducible refine r_sc_normal ?_)
            refine r_region ?_
            refine o_q _ rfl rfl rfl (v_add rfl rfl rfl (by omega)) ?_
            refine o_q _ rfl rfl rfl (v_move rfl rfl) ?_
            refine o_nil ?_
            repeat (first | with_reducible refine r_then ?_ | with_reducible refine r_in_normal ?_ | with_reducible refine r_sc_normal ?_)
            first
            | exact r_next ((k + 1, v36)) (by refine Imp.own_to v36 (payK l A (k + 1)) (payK_y (by omega) (by omega)) ?_; exact r_here (by repeat (first | exact FSub.nil | refine FSub.cons rfl ?_)) SelMC.sel SubRC.sub) (by first | omega | (show _ + 1 ≤ _; omega)) (by first | omega | (show _ - (_ + 1) < _ - _; omega))
            | exact r_next ((k + 1, v)) (by refine Imp.own_to v (payK l A (k + 1)) (payK_n (by omega) (by omega)) ?_; exact r_here (by repeat (first | exact FSub.nil | refine FSub.cons rfl ?_)) SelMC.sel SubRC.sub) (by first | omega | (show _ + 1 ≤ _; omega)) (by first | omega | (show _ - (_ + 1) < _ - _; omega))
    ·
      first
      | (exfalso; revert hc15; decide)
      | (exfalso; omega)
      | skip
        refine r_exit ?_
        repeat (first | with_reducible refine r_then_exit ?_ | with_reducible refine r_sc_exit ?_ | with_reducible refine r_in_here ?_ | (with_reducible refine r_in_past (by decide) ?_) | with_reducible refine r_then ?_ | with_reducible refine r_in_normal ?_ | with_reducible refine r_sc_normal ?_)
        refine r_seq ?_
        obtain rfl : k = l.length := by omega
        refine Imp.settleS v encO_len (fun ob oc he => ?_)
        subst he
        refine r_region ?_
        refine o_q _ rfl rfl rfl (v_move rfl rfl) ?_
        first | refine o_q _ rfl rfl rfl (v_fieldAddr rfl Tryd.underlying77 inf74 rfl rfl rfl rfl) ?_ | refine o_q _ rfl rfl rfl (v_fieldAddrE rfl Tryd.underlying77 inf74 rfl rfl rfl rfl) ?_
        refine o_st rfl inf74 rfl rfl rfl rfl rfl rfl rfl rfl ?_
        refine o_nil ?_
        repeat (first | with_reducible refine r_then ?_ | with_reducible refine r_in_normal ?_ | with_reducible refine r_sc_normal ?_)
        refine r_seq ?_
        refine Imp.box_to b1 [.slice ob (payK l A l.length).length oc, i64 (restK l A l.length)] rfl ?_
        refine r_region ?_
        first | refine o_q _ rfl rfl rfl (v_ldW rfl Tryd.underlying77 rfl inf77 rfl rfl) ?_ | refine o_q _ rfl rfl rfl (v_lfW rfl Tryd.underlying77 rfl inf77 rfl rfl) ?_ | refine o_q _ rfl rfl rfl (v_lfN rfl Tryd.underlying77 rfl inf77 rfl rfl rfl) ?_ | refine o_q _ rfl rfl rfl (v_ldN rfl Tryd.underlying77 rfl inf77 rfl rfl rfl) ?_ | refine o_q _ rfl rfl rfl (v_loadEN rfl Tryd.underlying77 rfl inf77 rfl (by omega) rfl rfl rfl) ?_
        refine o_st rfl inf77 rfl rfl rfl rfl rfl rfl rfl rfl ?_
        refine o_nil ?_
        repeat (first | with_reducible refine r_then ?_ | with_reducible refine r_in_normal ?_ | with_reducible refine r_sc_normal ?_)
        refine r_ret ?_
        repeat (first | with_reducible refine r_then_ret ?_ | with_reducible refine r_in_ret ?_ | with_reducible refine r_sc_ret ?_)
        refine Imp.box_to b2 [.slice ob (payK l A l.length).length oc, i64 (restK l A l.length)] rfl ?_
        exact r_rete [] [rowD ob 4 encO (payK l A l.length)] (Rd.one rfl (RdI.cellW Tryd.underlying77 rfl inf77 rfl rfl)) ⟨(ob, oc), by rw [payK_all, restK_all], rfl, by rw [payK_all]⟩ SelMC.sel SubRC.sub
theorem growC {l : List Opn} {d k j : Nat} (hk : k < l.length) (hj : j < 4) : ((growK l d k).flatMap encO)[k * 4 + j]? = (encO (l.getD k default))[j]? := by
  rw [flat_get0 encO_len (by rw [growK_len (by omega)]; exact hk) hj, growK_at hk]
theorem growS {l : List Opn} {d k : Nat} (hk : k < l.length) (h : (l.getD k default).day < d) : splice ((growK l d k).flatMap encO) (k * 4 + 2) [i64 ((l.getD k default).left + (l.getD k default).late)] = (growK l d (k + 1)).flatMap encO := by
  rw [growK_y hk h]
  exact flat_set0 encO_len (by rw [growK_len (by omega)]; exact hk) (by decide) (by rw [growK_at hk]; rfl)
theorem growB {l : List Opn} {d k : Nat} (hk : k < l.length) : Nat.ble (k * 4 + 2 + 1) ((growK l d k).flatMap encO).length = true := by
  refine Nat.ble_eq_true_of_le ?_
  rw [flat_len encO_len, growK_len (by omega)]; omega
set_option maxHeartbeats 4000000 in
theorem grow_s (l : List Opn) (oa : Option Addr) (c : Nat) (A : Int) (d : Nat) (hl : l.length ≤ 100) (hb : ∀ x ∈ l, (0 ≤ x.left ∧ x.left ≤ 100000) ∧ (0 ≤ x.late ∧ x.late ≤ 10)) (hd : d ≤ 1000) : FnS Tryd.prog 85 [vA oa l.length c A, i64 (d : Int)] [] [rowD oa 4 encO l] (fun e M' R' => ∃ x : Option Addr × Nat, e = .returned (vA x.1 (growL d l).length x.2 A) ∧ M' = [] ∧ R' = [rowD x.1 4 encO (growL d l)]) := by
  refine FnS.intro0 Tryd.call85 Tryd.func85 rfl Tryd.ntmps85 rfl ?_
  intro W M Rf
  refine r_seq ?_
  refine r_region ?_
  refine o_boxA rfl rfl rfl rfl rfl (fun b2 => ?_)
  refine o_alloc rfl inf77 rfl rfl rfl rfl rfl (fun b4 => ?_)
  refine o_nil ?_
  repeat (first | with_reducible refine r_then ?_ | with_reducible refine r_in_normal ?_ | with_reducible refine r_sc_normal ?_)
  refine r_seq ?_
  refine r_region ?_
  refine o_q _ rfl rfl rfl (v_assign rfl rfl) ?_
  refine o_nil ?_
  repeat (first | with_reducible refine r_then ?_ | with_reducible refine r_in_normal ?_ | with_reducible refine r_sc_normal ?_)
  refine r_seq ?_
  refine r_region ?_
  first | refine o_q _ rfl rfl rfl (v_fieldAddr rfl Tryd.underlying77 inf74 rfl rfl rfl rfl) ?_ | refine o_q _ rfl rfl rfl (v_fieldAddrE rfl Tryd.underlying77 inf74 rfl rfl rfl rfl) ?_
  first | refine o_q _ rfl rfl rfl (v_ld1 rfl Tryd.underlying74 rfl rfl rfl) ?_ | refine o_q _ rfl rfl rfl (v_lf1 rfl Tryd.underlying74 rfl rfl rfl) ?_ | refine o_q _ rfl rfl rfl (v_loadE1 rfl Tryd.underlying74 rfl rfl (by omega) rfl rfl) ?_
  refine o_q _ rfl rfl rfl (v_len rfl rfl Tryd.underlying74 rfl) ?_
  refine o_make (enc := encO) (sz := 4) (⟨0, 0, 0, 0⟩ : Opn) rfl Tryd.underlying74 inf116 rfl rfl rfl rfl rfl rfl rfl rfl rfl (Nat.le_refl _) ⟨by omega, by decide⟩ (fun b12 => ?_)
  refine o_q _ rfl rfl rfl (v_assign rfl rfl) ?_
  refine o_nil ?_
  repeat (first | with_reducible refine r_then ?_ | with_reducible refine r_in_normal ?_ | with_reducible refine r_sc_normal ?_)
  refine r_seq ?_
  refine r_region ?_
  refine o_q _ rfl rfl rfl (v_move rfl rfl) ?_
  first | refine o_q _ rfl rfl rfl (v_fieldAddr rfl Tryd.underlying77 inf74 rfl rfl rfl rfl) ?_ | refine o_q _ rfl rfl rfl (v_fieldAddrE rfl Tryd.underlying77 inf74 rfl rfl rfl rfl) ?_
  first | refine o_q _ rfl rfl rfl (v_ld1 rfl Tryd.underlying74 rfl rfl rfl) ?_ | refine o_q _ rfl rfl rfl (v_lf1 rfl Tryd.underlying74 rfl rfl rfl) ?_ | refine o_q _ rfl rfl rfl (v_loadE1 rfl Tryd.underlying74 rfl rfl (by omega) rfl rfl) ?_
  refine o_copy (enc := encO) (sz := 4) (xs := List.replicate l.length (⟨0, 0, 0, 0⟩ : Opn)) (ys := l) rfl Tryd.underlying74 inf116 rfl rfl rfl rfl encO_len oneO rfl rfl rfl (by simp) ?_
  refine o_nil ?_
  repeat (first | with_reducible refine r_then ?_ | with_reducible refine r_in_normal ?_ | with_reducible refine r_sc_normal ?_)
  refine r_seq ?_
  refine r_seq ?_
  refine Imp.boxOwn (xs := l) (b := b12) ?_
  refine r_region ?_
  refine o_q _ rfl rfl rfl (v_move rfl rfl) ?_
  refine o_q _ rfl rfl rfl (v_len rfl rfl Tryd.underlying74 rfl) ?_
  refine o_q _ rfl rfl rfl (v_move rfl rfl) ?_
  refine o_nil ?_
  repeat (first | with_reducible refine r_then ?_ | with_reducible refine r_in_normal ?_ | with_reducible refine r_sc_normal ?_)
  refine r_block ?_
  refine r_loop (ι := Nat) (fun k => k ≤ l.length) (fun k => [(1, i64 (d : Int)), (2, pt b2 0), (4, pt b4 0), (5, .func (.func 104) #[] #[]), (6, .slice (some ⟨b12, 0, none⟩) l.length l.length), (18, i64 l.length), (19, i64 k)]) (fun k => bx b12 116 ((growK l d k).flatMap encO) :: bx b2 77 [.slice oa l.length c, i64 A] :: bx b4 77 [.slice none 0 0, i64 0] :: M) (fun k => [rowD oa 4 encO l] ++ Rf) (fun k => l.length - k) 0 ?_ ?_ ?_
  ·
    refine Imp.box_to b12 ((growK l d 0).flatMap encO) rfl ?_
    refine Imp.box_to b4 [.slice none 0 0, i64 0] rfl ?_
    exact r_here (by repeat (first | exact FSub.nil | refine FSub.cons rfl ?_)) SelMC.sel SubRC.sub
  ·
    omega
  ·
    rintro k hI0
    refine r_seq ?_
    refine r_region ?_
    refine o_q _ rfl rfl rfl (v_lss rfl rfl rfl) ?_
    refine o_nil ?_
    repeat (first | with_reducible refine r_then ?_ | with_reducible refine r_in_normal ?_ | with_reducible refine r_sc_normal ?_)
    refine r_seq ?_
    first | refine r_condd rfl (fun hc20 => ?_) (fun hc20 => ?_) | refine r_cond rfl (fun hc20 => ?_) (fun hc20 => ?_)
    ·
      first
      | (exfalso; revert hc20; decide)
      | (exfalso; omega)
      | skip
        refine r_skip ?_
        repeat (first | with_reducible refine r_then ?_ | with_reducible refine r_in_normal ?_ | with_reducible refine r_sc_normal ?_)
        refine r_seq ?_
        refine r_block ?_
        refine r_seq ?_
        refine r_region ?_
        refine o_q _ rfl rfl rfl (v_move rfl rfl) ?_
        refine o_q _ rfl rfl rfl (v_assign rfl rfl) ?_
        refine o_nil ?_
        repeat (first | with_reducible refine r_then ?_ | with_reducible refine r_in_normal ?_ | with_reducible refine r_sc_normal ?_)
        refine r_seq ?_
        refine r_region ?_
        refine o_q _ rfl rfl rfl (v_move rfl rfl) ?_
        refine o_q _ rfl rfl rfl (v_move rfl rfl) ?_
        refine o_q _ rfl rfl rfl (v_indexAddrB rfl Tryd.underlying74 inf116 rfl rfl (by omega)) ?_
        refine o_q _ rfl rfl rfl (v_assign rfl rfl) ?_
        refine o_nil ?_
        repeat (first | with_reducible refine r_then ?_ | with_reducible refine r_in_normal ?_ | with_reducible refine r_sc_normal ?_)
        refine r_seq ?_
        have hq := hb (l.getD k default) (mem_at (by omega))
        refine r_region ?_
        refine o_q _ rfl rfl rfl (v_move rfl rfl) ?_
        refine o_q _ rfl rfl rfl (v_nilCheck rfl rfl) ?_
        first | refine o_q _ rfl rfl rfl (v_fieldAddr rfl Tryd.underlying116 inf3 rfl rfl rfl rfl) ?_ | refine o_q _ rfl rfl rfl (v_fieldAddrE rfl Tryd.underlying116 inf3 rfl rfl rfl rfl) ?_
        refine o_q _ rfl rfl rfl (v_ld1 (v := i64 (l.getD k default).day) rfl Tryd.underlying3 rfl rfl (growC (j := 1) (by omega) (by decide))) ?_
        refine o_q _ rfl rfl rfl (v_move rfl rfl) ?_
        refine o_q _ rfl rfl rfl (v_lss rfl rfl rfl) ?_
        refine o_nil ?_
        repeat (first | with_reducible refine r_then ?_ | with_reducible refine r_in_normal ?_ | with_reducible refine r_sc_normal ?_)
        first | refine r_condd rfl (fun hc30 => ?_) (fun hc30 => ?_) | refine r_cond rfl (fun hc30 => ?_) (fun hc30 => ?_)
        ·
          first
          | (exfalso; revert hc30; decide)
          | (exfalso; omega)
          | skip
            refine r_par' 11 mixed (by kernel_rfl) (by rfl) ?_
            refine p_q _ rfl rfl rfl (fun _ _ => v_move rfl rfl) ?_
            refine p_q _ rfl rfl rfl (fun _ _ => v_move rfl rfl) ?_
            refine p_q _ rfl rfl rfl (fun _ _ => v_move rfl rfl) ?_
            refine p_q _ rfl rfl rfl (fun _ _ => v_nilCheck rfl rfl) ?_
            first | refine p_q _ rfl rfl rfl (fun _ _ => v_fieldAddr rfl Tryd.underlying116 inf75 rfl rfl rfl rfl) ?_ | refine p_q _ rfl rfl rfl (fun _ _ => v_fieldAddrE rfl Tryd.underlying116 inf75 rfl rfl rfl rfl) ?_
            refine p_q _ rfl rfl rfl (fun _ _ => v_ld1 (v := i64 (l.getD k default).left) rfl Tryd.underlying75 rfl rfl (growC (j := 2) (by omega) (by decide))) ?_
            refine p_q _ rfl rfl rfl (fun _ _ => v_move rfl rfl) ?_
            refine p_q _ rfl rfl rfl (fun _ _ => v_nilCheck rfl rfl) ?_
            first | refine p_q _ rfl rfl rfl (fun _ _ => v_fieldAddr rfl Tryd.underlying116 inf75 rfl rfl rfl rfl) ?_ | refine p_q _ rfl rfl rfl (fun _ _ => v_fieldAddrE rfl Tryd.underlying116 inf75 rfl rfl rfl rfl) ?_
            refine p_q _ rfl rfl rfl (fun _ _ => v_ld1 (v := i64 (l.getD k default).late) rfl Tryd.underlying75 rfl rfl (growC (j := 3) (by omega) (by decide))) ?_
            refine p_q _ rfl rfl rfl (fun _ _ => OpQ.call (more_v (l.getD k default).left (l.getD k default).late (by omega) (by omega)) rfl [] [] rfl rfl rfl SubRC.sub) ?_
            refine p_nil2 (by simp only [List.nil_append, List.cons_append]; rfl) rfl ?_
            refine f_q rfl ?_
            refine f_q rfl ?_
            refine f_q rfl ?_
            refine f_q rfl ?_
            refine f_q rfl ?_
            refine f_q rfl ?_
            refine f_q rfl ?_
            refine f_q rfl ?_
            refine f_q rfl ?_
            refine f_q rfl ?_
            refine f_q rfl ?_
            refine f_nil ?_
            refine o_q _ rfl rfl rfl (v_nilCheck rfl rfl) ?_
            first | refine o_q _ rfl rfl rfl (v_fieldAddr rfl Tryd.underlying116 inf75 rfl rfl rfl rfl) ?_ | refine o_q _ rfl rfl rfl (v_fieldAddrE rfl Tryd.underlying116 inf75 rfl rfl rfl rfl) ?_
            refine o_st rfl inf75 rfl rfl rfl rfl rfl rfl rfl (growB (by omega)) ?_
            refine o_nil ?_
            repeat (first | with_reducible refine r_then ?_ | with_reducible refine r_in_normal ?_ | with_reducible refine r_sc_normal ?_)
            refine r_region ?_
            refine o_q _ rfl rfl rfl (v_add rfl rfl rfl (by omega)) ?_
            refine o_q _ rfl rfl rfl (v_move rfl rfl) ?_
            refine o_nil ?_
            repeat (first | with_reducible refine r_then ?_ | with_reducible refine r_in_normal ?_ | with_reducible refine r_sc_normal ?_)
            first
            | exact r_next (k + 1) (by refine Imp.box_to b12 ((growK l d (k + 1)).flatMap encO) (growS (by omega) (by omega)) ?_; exact r_here (by repeat (first | exact FSub.nil | refine FSub.cons rfl ?_)) SelMC.sel SubRC.sub) (by first | omega | (show _ + 1 ≤ _; omega)) (by first | omega | (show _ - (_ + 1) < _ - _; omega))
            | exact r_next (k + 1) (by refine Imp.box_to b12 ((growK l d (k + 1)).flatMap encO) (by rw [growK_n (by omega) (by omega)]) ?_; exact r_here (by repeat (first | exact FSub.nil | refine FSub.cons rfl ?_)) SelMC.sel SubRC.sub) (by first | omega | (show _ + 1 ≤ _; omega)) (by first | omega | (show _ - (_ + 1) < _ - _; omega))
        ·
          first
          | (exfalso; revert hc30; decide)
          | (exfalso; omega)
          | skip
            refine r_skip ?_
            repeat (first | with_reducible refine r_then ?_ | with_reducible refine r_in_normal ?_ | with_reducible refine r_sc_normal ?_)
            refine r_region ?_
            refine o_q _ rfl rfl rfl (v_add rfl rfl rfl (by omega)) ?_
            refine o_q _ rfl rfl rfl (v_move rfl rfl) ?_
            refine o_nil ?_
            repeat (first | with_reducible refine r_then ?_ | with_reducible refine r_in_normal ?_ | with_reducible refine r_sc_normal ?_)
            first
            | exact r_next (k + 1) (by refine Imp.box_to b12 ((growK l d (k + 1)).flatMap encO) (growS (by omega) (by omega)) ?_; exact r_here (by repeat (first | exact FSub.nil | refine FSub.cons rfl ?_)) SelMC.sel SubRC.sub) (by first | omega | (show _ + 1 ≤ _; omega)) (by first | omega | (show _ - (_ + 1) < _ - _; omega))
            | exact r_next (k + 1) (by refine Imp.box_to b12 ((growK l d (k + 1)).flatMap encO) (by rw [growK_n (by omega) (by omega)]) ?_; exact r_here (by repeat (first | exact FSub.nil | refine FSub.cons rfl ?_)) SelMC.sel SubRC.sub) (by first | omega | (show _ + 1 ≤ _; omega)) (by first | omega | (show _ - (_ + 1) < _ - _; omega))
    ·
      first
      | (exfalso; revert hc20; decide)
      | (exfalso; omega)
      | skip
        refine r_exit ?_
        repeat (first | with_reducible refine r_then_exit ?_ | with_reducible refine r_sc_exit ?_ | with_reducible refine r_in_here ?_ | (with_reducible refine r_in_past (by decide) ?_) | with_reducible refine r_then ?_ | with_reducible refine r_in_normal ?_ | with_reducible refine r_sc_normal ?_)
        refine r_seq ?_
        refine r_region ?_
        refine o_q _ rfl rfl rfl (v_move rfl rfl) ?_
        first | refine o_q _ rfl rfl rfl (v_fieldAddr rfl Tryd.underlying77 inf74 rfl rfl rfl rfl) ?_ | refine o_q _ rfl rfl rfl (v_fieldAddrE rfl Tryd.underlying77 inf74 rfl rfl rfl rfl) ?_
        refine o_st rfl inf74 rfl rfl rfl rfl rfl rfl rfl rfl ?_
        refine o_nil ?_
        repeat (first | with_reducible refine r_then ?_ | with_reducible refine r_in_normal ?_ | with_reducible refine r_sc_normal ?_)
        refine r_seq ?_
        obtain rfl : k = l.length := by omega
        refine Imp.box_to b2 [.slice (some ⟨b12, 0, none⟩) l.length l.length, i64 A] rfl ?_
        refine r_region ?_
        first | refine o_q _ rfl rfl rfl (v_ldW rfl Tryd.underlying77 rfl inf77 rfl rfl) ?_ | refine o_q _ rfl rfl rfl (v_lfW rfl Tryd.underlying77 rfl inf77 rfl rfl) ?_ | refine o_q _ rfl rfl rfl (v_lfN rfl Tryd.underlying77 rfl inf77 rfl rfl rfl) ?_ | refine o_q _ rfl rfl rfl (v_ldN rfl Tryd.underlying77 rfl inf77 rfl rfl rfl) ?_ | refine o_q _ rfl rfl rfl (v_loadEN rfl Tryd.underlying77 rfl inf77 rfl (by omega) rfl rfl rfl) ?_
        refine o_st rfl inf77 rfl rfl rfl rfl rfl rfl rfl rfl ?_
        refine o_nil ?_
        repeat (first | with_reducible refine r_then ?_ | with_reducible refine r_in_normal ?_ | with_reducible refine r_sc_normal ?_)
        refine r_ret ?_
        repeat (first | with_reducible refine r_then_ret ?_ | with_reducible refine r_in_ret ?_ | with_reducible refine r_sc_ret ?_)
        refine Imp.box_to b4 [.slice (some ⟨b12, 0, none⟩) l.length l.length, i64 A] rfl ?_
        refine Imp.sealB b12 ?_
        refine Imp.rowN (b := b12) (growK l d l.length) encO_len rfl ?_
        exact r_rete [] [rowD (some ⟨b12, 0, none⟩) 4 encO (growK l d l.length)] (Rd.one rfl (RdI.cellW Tryd.underlying77 rfl inf77 rfl rfl)) ⟨(some ⟨b12, 0, none⟩, l.length), by rw [growL, List.length_map], rfl, by rw [growK_all]⟩ SelMC.sel SubRC.sub
set_option maxHeartbeats 4000000 in
theorem clone_n (l : List Opn) (c : Nat) (hl : l.length ≤ 100) (h0 : l = []) : FnS Tryd.prog 99 [.slice none l.length c] [] [rowD none 4 encO l] (fun e M' R' => ∃ v : Value, e = .returned v ∧ M' = [ownZ v 116 4 encO l] ∧ R' = []) := by
  refine FnS.intro0 Tryd.call99 Tryd.func99 rfl Tryd.ntmps99 rfl ?_
  intro W M Rf
  refine r_seq ?_
  refine r_region ?_
  refine o_q _ rfl rfl rfl (v_assign rfl rfl) ?_
  refine o_nil ?_
  repeat (first | with_reducible refine r_then ?_ | with_reducible refine r_in_normal ?_ | with_reducible refine r_sc_normal ?_)
  refine r_seq ?_
  refine r_seq ?_
  refine r_region ?_
  refine o_q _ rfl rfl rfl (v_move rfl rfl) ?_
  refine o_q _ rfl rfl rfl (v_eqNil (b := true) rfl Tryd.underlying74 rfl rfl) ?_
  refine o_nil ?_
  repeat (first | with_reducible refine r_then ?_ | with_reducible refine r_in_normal ?_ | with_reducible refine r_sc_normal ?_)
  first | refine r_condd rfl (fun hc4 => ?_) (fun hc4 => ?_) | refine r_cond rfl (fun hc4 => ?_) (fun hc4 => ?_)
  ·
    first
    | (exfalso; revert hc4; decide)
    | (exfalso; omega)
    | skip
      refine r_seq ?_
      refine r_region ?_
      refine o_q _ rfl rfl rfl (v_assign rfl rfl) ?_
      refine o_nil ?_
      repeat (first | with_reducible refine r_then ?_ | with_reducible refine r_in_normal ?_ | with_reducible refine r_sc_normal ?_)
      refine r_ret ?_
      repeat (first | with_reducible refine r_then_ret ?_ | with_reducible refine r_in_ret ?_ | with_reducible refine r_sc_ret ?_)
      subst h0
      refine Imp.nilZ (enc := encO) (sz := 4) none 116 ?_
      exact r_rete [ownZ (.slice none 0 0) 116 4 encO []] [] (Rd.tmp rfl rfl) ⟨_, rfl, rfl, rfl⟩ SelMC.sel SubRC.sub
  ·
    first
    | (exfalso; revert hc4; decide)
    | (exfalso; omega)
    | skip
      refine r_skip ?_
      repeat (first | with_reducible refine r_then ?_ | with_reducible refine r_in_normal ?_ | with_reducible refine r_sc_normal ?_)
      refine r_seq ?_
      refine r_region ?_
      refine o_lit0' rfl Tryd.underlying74 inf116 rfl rfl rfl (fun b5 => ?_)
      refine o_q _ rfl rfl rfl (v_move rfl rfl) ?_
      refine o_appN (sz := 4) rfl Tryd.underlying74 inf116 rfl rfl rfl encO_len rfl rfl rfl rfl rfl ⟨by omega, by decide⟩ (fun v7 => ?_)
      refine o_q _ rfl rfl rfl (v_assign rfl rfl) ?_
      refine o_nil ?_
      repeat (first | with_reducible refine r_then ?_ | with_reducible refine r_in_normal ?_ | with_reducible refine r_sc_normal ?_)
      refine r_ret ?_
      repeat (first | with_reducible refine r_then_ret ?_ | with_reducible refine r_in_ret ?_ | with_reducible refine r_sc_ret ?_)
      subst h0
      refine Imp.nilZ (enc := encO) (sz := 4) none 116 ?_
      exact r_rete [ownZ (.slice none 0 0) 116 4 encO []] [] (Rd.tmp rfl rfl) ⟨_, rfl, rfl, rfl⟩ SelMC.sel SubRC.sub
set_option maxHeartbeats 4000000 in
theorem clone_y (ad : Addr) (l : List Opn) (c : Nat) (hl : l.length ≤ 100) : FnS Tryd.prog 99 [.slice (some ad) l.length c] [] [rowD (some ad) 4 encO l] (fun e M' R' => ∃ v : Value, e = .returned v ∧ M' = [ownZ v 116 4 encO l] ∧ R' = []) := by
  refine FnS.intro0 Tryd.call99 Tryd.func99 rfl Tryd.ntmps99 rfl ?_
  intro W M Rf
  refine r_seq ?_
  refine r_region ?_
  refine o_q _ rfl rfl rfl (v_assign rfl rfl) ?_
  refine o_nil ?_
  repeat (first | with_reducible refine r_then ?_ | with_reducible refine r_in_normal ?_ | with_reducible refine r_sc_normal ?_)
  refine r_seq ?_
  refine r_seq ?_
  refine r_region ?_
  refine o_q _ rfl rfl rfl (v_move rfl rfl) ?_
  refine o_q _ rfl rfl rfl (v_eqNil (b := false) rfl Tryd.underlying74 rfl rfl) ?_
  refine o_nil ?_
  repeat (first | with_reducible refine r_then ?_ | with_reducible refine r_in_normal ?_ | with_reducible refine r_sc_normal ?_)
  first | refine r_condd rfl (fun hc4 => ?_) (fun hc4 => ?_) | refine r_cond rfl (fun hc4 => ?_) (fun hc4 => ?_)
  ·
    first
    | (exfalso; revert hc4; decide)
    | (exfalso; omega)
    | skip
      refine r_seq ?_
      refine r_region ?_
      refine o_q _ rfl rfl rfl (v_assign rfl rfl) ?_
      refine o_nil ?_
      repeat (first | with_reducible refine r_then ?_ | with_reducible refine r_in_normal ?_ | with_reducible refine r_sc_normal ?_)
      refine r_ret ?_
      repeat (first | with_reducible refine r_then_ret ?_ | with_reducible refine r_in_ret ?_ | with_reducible refine r_sc_ret ?_)
      exact r_rete [ownZ v7 116 4 encO l] [] (Rd.tmp rfl rfl) ⟨_, rfl, rfl, rfl⟩ SelMC.sel SubRC.sub
  ·
    first
    | (exfalso; revert hc4; decide)
    | (exfalso; omega)
    | skip
      refine r_skip ?_
      repeat (first | with_reducible refine r_then ?_ | with_reducible refine r_in_normal ?_ | with_reducible refine r_sc_normal ?_)
      refine r_seq ?_
      refine r_region ?_
      refine o_lit0' rfl Tryd.underlying74 inf116 rfl rfl rfl (fun b5 => ?_)
      refine o_q _ rfl rfl rfl (v_move rfl rfl) ?_
      refine o_appN (sz := 4) rfl Tryd.underlying74 inf116 rfl rfl rfl encO_len rfl rfl rfl rfl rfl ⟨by omega, by decide⟩ (fun v7 => ?_)
      refine o_q _ rfl rfl rfl (v_assign rfl rfl) ?_
      refine o_nil ?_
      repeat (first | with_reducible refine r_then ?_ | with_reducible refine r_in_normal ?_ | with_reducible refine r_sc_normal ?_)
      refine r_ret ?_
      repeat (first | with_reducible refine r_then_ret ?_ | with_reducible refine r_in_ret ?_ | with_reducible refine r_sc_ret ?_)
      exact r_rete [ownZ v7 116 4 encO l] [] (Rd.tmp rfl rfl) ⟨_, rfl, rfl, rfl⟩ SelMC.sel SubRC.sub
theorem clone_s (l : List Opn) (oa : Option Addr) (c : Nat) (hl : l.length ≤ 100) : FnS Tryd.prog 99 [.slice oa l.length c] [] [rowD oa 4 encO l] (fun e M' R' => ∃ v : Value, e = .returned v ∧ M' = [ownZ v 116 4 encO l] ∧ R' = []) := by
  cases oa with
  | some ad => exact clone_y ad l c hl
  | none =>
    by_cases h0 : l = []
    · exact clone_n l c hl h0
    · refine ⟨Tryd.call99, fun W M Rf w hw => ?_⟩
      have h1 := hw.fact (φ := rowD none 4 encO l) (by simp)
      rcases h1 with h1 | ⟨b, off, C, T, fr, he, _⟩
      · exact absurd h1 h0
      · cases he
end Go.Proofs.YtpfgiednfjfdmaaDoor


namespace Go.Proofs.YtpfgiednfjfdmaaDoor
open Go.G Debt10
set_option maxRecDepth 1000000
attribute [local irreducible] G.ParO G.Fin
/-- How two numbers compare. -/
def cmpI (a b : Int) : Int := if a < b then -1 else if b < a then 1 else 0
theorem cmpI_l {a b : Int} (h : a < b) : Value.int .i64 (-1) = i64 (cmpI a b) := by unfold cmpI; rw [if_pos h]
theorem cmpI_g {a b : Int} (h : ¬ a < b) (h2 : b < a) : Value.int .i64 1 = i64 (cmpI a b) := by unfold cmpI; rw [if_neg h, if_pos h2]
theorem cmpI_e {a b : Int} (h : ¬ a < b) (h2 : ¬ b < a) : Value.int .i64 0 = i64 (cmpI a b) := by unfold cmpI; rw [if_neg h, if_neg h2]
theorem cmpI_ge {a b : Int} (h : b ≤ a) : ∃ z : Int, cmpI a b = z ∧ 0 ≤ z := ⟨_, rfl, by unfold cmpI; split; omega; split <;> omega⟩
set_option maxHeartbeats 4000000 in
theorem isNaN_v (a : Int) : FnV Tryd.prog 113 [i64 a] [] (.bool false) := by
  refine FnV.intro Tryd.call113 Tryd.func113 rfl Tryd.ntmps113 rfl ?_
  intro W M Rf
  refine r_seq ?_
  refine r_region ?_
  refine o_q _ rfl rfl rfl (v_assign rfl rfl) ?_
  refine o_nil ?_
  repeat (first | with_reducible refine r_then ?_ | with_reducible refine r_in_normal ?_ | with_reducible refine r_sc_normal ?_)
  refine r_seq ?_
  refine r_region ?_
  refine o_q _ rfl rfl rfl (v_move rfl rfl) ?_
  refine o_q _ rfl rfl rfl (v_move rfl rfl) ?_
  refine o_q _ rfl rfl rfl (v_neq rfl rfl rfl) ?_
  refine o_q _ rfl rfl rfl (v_assign rfl rfl) ?_
  refine o_nil ?_
  repeat (first | with_reducible refine r_then ?_ | with_reducible refine r_in_normal ?_ | with_reducible refine r_sc_normal ?_)
  refine r_ret ?_
  repeat (first | with_reducible refine r_then_ret ?_ | with_reducible refine r_in_ret ?_ | with_reducible refine r_sc_ret ?_)
  first | exact r_retv2 (Rd.tmp rfl rfl) rfl SelMC.sel SubRC.sub | exact r_retv2 (Rd.tmp rfl rfl) (congrArg Value.bool (decide_eq_false (by omega))) SelMC.sel SubRC.sub
set_option maxHeartbeats 4000000 in
theorem compare_v (a b : Int) : FnV Tryd.prog 102 [i64 a, i64 b] [] (i64 (cmpI a b)) := by
  refine FnV.intro Tryd.call102 Tryd.func102 rfl Tryd.ntmps102 rfl ?_
  intro W M Rf
  refine r_seq ?_
  refine r_region ?_
  refine o_q _ rfl rfl rfl (v_assign rfl rfl) ?_
  refine o_nil ?_
  repeat (first | with_reducible refine r_then ?_ | with_reducible refine r_in_normal ?_ | with_reducible refine r_sc_normal ?_)
  refine r_seq ?_
  refine r_region ?_
  refine o_q _ rfl rfl rfl (v_move rfl rfl) ?_
  refine o_q _ rfl rfl rfl (OpQ.fn (isNaN_v _) rfl rfl SubRC.sub) ?_
  refine o_q _ rfl rfl rfl (v_assign rfl rfl) ?_
  refine o_nil ?_
  repeat (first | with_reducible refine r_then ?_ | with_reducible refine r_in_normal ?_ | with_reducible refine r_sc_normal ?_)
  refine r_seq ?_
  refine r_region ?_
  refine o_q _ rfl rfl rfl (v_move rfl rfl) ?_
  refine o_q _ rfl rfl rfl (OpQ.fn (isNaN_v _) rfl rfl SubRC.sub) ?_
  refine o_q _ rfl rfl rfl (v_assign rfl rfl) ?_
  refine o_nil ?_
  repeat (first | with_reducible refine r_then ?_ | with_reducible refine r_in_normal ?_ | with_reducible refine r_sc_normal ?_)
  refine r_seq ?_
  refine r_seq ?_
  refine r_region ?_
  refine o_q _ rfl rfl rfl (v_move rfl rfl) ?_
  refine o_nil ?_
  repeat (first | with_reducible refine r_then ?_ | with_reducible refine r_in_normal ?_ | with_reducible refine r_sc_normal ?_)
  first | refine r_condd rfl (fun hc11 => ?_) (fun hc11 => ?_) | refine r_cond rfl (fun hc11 => ?_) (fun hc11 => ?_)
  ·
    first
    | (exfalso; revert hc11; decide)
    | (exfalso; omega)
    | skip
      refine r_seq ?_
      refine r_seq ?_
      refine r_region ?_
      refine o_q _ rfl rfl rfl (v_move rfl rfl) ?_
      refine o_nil ?_
      repeat (first | with_reducible refine r_then ?_ | with_reducible refine r_in_normal ?_ | with_reducible refine r_sc_normal ?_)
      first | refine r_condd rfl (fun hc12 => ?_) (fun hc12 => ?_) | refine r_cond rfl (fun hc12 => ?_) (fun hc12 => ?_)
      ·
        first
        | (exfalso; revert hc12; decide)
        | (exfalso; omega)
        | skip
          refine r_seq ?_
          refine r_region ?_
          refine o_q _ rfl rfl rfl (v_assign rfl rfl) ?_
          refine o_nil ?_
          repeat (first | with_reducible refine r_then ?_ | with_reducible refine r_in_normal ?_ | with_reducible refine r_sc_normal ?_)
          refine r_ret ?_
          repeat (first | with_reducible refine r_then_ret ?_ | with_reducible refine r_in_ret ?_ | with_reducible refine r_sc_ret ?_)
          first | exact r_retv2 (Rd.tmp rfl rfl) (cmpI_l (by omega)) SelMC.sel SubRC.sub | exact r_retv2 (Rd.tmp rfl rfl) (cmpI_g (by omega) (by omega)) SelMC.sel SubRC.sub | exact r_retv2 (Rd.tmp rfl rfl) (cmpI_e (by omega) (by omega)) SelMC.sel SubRC.sub
      ·
        first
        | (exfalso; revert hc12; decide)
        | (exfalso; omega)
        | skip
          refine r_skip ?_
          repeat (first | with_reducible refine r_then ?_ | with_reducible refine r_in_normal ?_ | with_reducible refine r_sc_normal ?_)
          refine r_seq ?_
          refine r_region ?_
          refine o_q _ rfl rfl rfl (v_assign rfl rfl) ?_
          refine o_nil ?_
          repeat (first | with_reducible refine r_then ?_ | with_reducible refine r_in_normal ?_ | with_reducible refine r_sc_normal ?_)
          refine r_ret ?_
          repeat (first | with_reducible refine r_then_ret ?_ | with_reducible refine r_in_ret ?_ | with_reducible refine r_sc_ret ?_)
          first | exact r_retv2 (Rd.tmp rfl rfl) (cmpI_l (by omega)) SelMC.sel SubRC.sub | exact r_retv2 (Rd.tmp rfl rfl) (cmpI_g (by omega) (by omega)) SelMC.sel SubRC.sub | exact r_retv2 (Rd.tmp rfl rfl) (cmpI_e (by omega) (by omega)) SelMC.sel SubRC.sub
  ·
    first
    | (exfalso; revert hc11; decide)
    | (exfalso; omega)
    | skip
      refine r_skip ?_
      repeat (first | with_reducible refine r_then ?_ | with_reducible refine r_in_normal ?_ | with_reducible refine r_sc_normal ?_)
      refine r_seq ?_
      refine r_seq ?_
      refine r_region ?_
      refine o_q _ rfl rfl rfl (v_move rfl rfl) ?_
      refine o_nil ?_
      repeat (first | with_reducible refine r_then ?_ | with_reducible refine r_in_normal ?_ | with_reducible refine r_sc_normal ?_)
      first | refine r_condd rfl (fun hc13 => ?_) (fun hc13 => ?_) | refine r_cond rfl (fun hc13 => ?_) (fun hc13 => ?_)
      ·
        first
        | (exfalso; revert hc13; decide)
        | (exfalso; omega)
        | skip
          refine r_seq ?_
          refine r_region ?_
          refine o_q _ rfl rfl rfl (v_assign rfl rfl) ?_
          refine o_nil ?_
          repeat (first | with_reducible refine r_then ?_ | with_reducible refine r_in_normal ?_ | with_reducible refine r_sc_normal ?_)
          refine r_ret ?_
          repeat (first | with_reducible refine r_then_ret ?_ | with_reducible refine r_in_ret ?_ | with_reducible refine r_sc_ret ?_)
          first | exact r_retv2 (Rd.tmp rfl rfl) (cmpI_l (by omega)) SelMC.sel SubRC.sub | exact r_retv2 (Rd.tmp rfl rfl) (cmpI_g (by omega) (by omega)) SelMC.sel SubRC.sub | exact r_retv2 (Rd.tmp rfl rfl) (cmpI_e (by omega) (by omega)) SelMC.sel SubRC.sub
      ·
        first
        | (exfalso; revert hc13; decide)
        | (exfalso; omega)
        | skip
          refine r_skip ?_
          repeat (first | with_reducible refine r_then ?_ | with_reducible refine r_in_normal ?_ | with_reducible refine r_sc_normal ?_)
          refine r_seq ?_
          refine r_seq ?_
          refine r_region ?_
          refine o_q _ rfl rfl rfl (v_move rfl rfl) ?_
          refine o_q _ rfl rfl rfl (v_move rfl rfl) ?_
          refine o_q _ rfl rfl rfl (v_lss rfl rfl rfl) ?_
          refine o_nil ?_
          repeat (first | with_reducible refine r_then ?_ | with_reducible refine r_in_normal ?_ | with_reducible refine r_sc_normal ?_)
          first | refine r_condd rfl (fun hc16 => ?_) (fun hc16 => ?_) | refine r_cond rfl (fun hc16 => ?_) (fun hc16 => ?_)
          ·
            first
            | (exfalso; revert hc16; decide)
            | (exfalso; omega)
            | skip
              refine r_seq ?_
              refine r_region ?_
              refine o_q _ rfl rfl rfl (v_assign rfl rfl) ?_
              refine o_nil ?_
              repeat (first | with_reducible refine r_then ?_ | with_reducible refine r_in_normal ?_ | with_reducible refine r_sc_normal ?_)
              refine r_ret ?_
              repeat (first | with_reducible refine r_then_ret ?_ | with_reducible refine r_in_ret ?_ | with_reducible refine r_sc_ret ?_)
              first | exact r_retv2 (Rd.tmp rfl rfl) (cmpI_l (by omega)) SelMC.sel SubRC.sub | exact r_retv2 (Rd.tmp rfl rfl) (cmpI_g (by omega) (by omega)) SelMC.sel SubRC.sub | exact r_retv2 (Rd.tmp rfl rfl) (cmpI_e (by omega) (by omega)) SelMC.sel SubRC.sub
          ·
            first
            | (exfalso; revert hc16; decide)
            | (exfalso; omega)
            | skip
              refine r_skip ?_
              repeat (first | with_reducible refine r_then ?_ | with_reducible refine r_in_normal ?_ | with_reducible refine r_sc_normal ?_)
              refine r_seq ?_
              refine r_seq ?_
              refine r_region ?_
              refine o_q _ rfl rfl rfl (v_move rfl rfl) ?_
              refine o_q _ rfl rfl rfl (v_move rfl rfl) ?_
              refine o_q _ rfl rfl rfl (v_gtr rfl rfl rfl) ?_
              refine o_nil ?_
              repeat (first | with_reducible refine r_then ?_ | with_reducible refine r_in_normal ?_ | with_reducible refine r_sc_normal ?_)
              first | refine r_condd rfl (fun hc19 => ?_) (fun hc19 => ?_) | refine r_cond rfl (fun hc19 => ?_) (fun hc19 => ?_)
              ·
                first
                | (exfalso; revert hc19; decide)
                | (exfalso; omega)
                | skip
                  refine r_seq ?_
                  refine r_region ?_
                  refine o_q _ rfl rfl rfl (v_assign rfl rfl) ?_
                  refine o_nil ?_
                  repeat (first | with_reducible refine r_then ?_ | with_reducible refine r_in_normal ?_ | with_reducible refine r_sc_normal ?_)
                  refine r_ret ?_
                  repeat (first | with_reducible refine r_then_ret ?_ | with_reducible refine r_in_ret ?_ | with_reducible refine r_sc_ret ?_)
                  first | exact r_retv2 (Rd.tmp rfl rfl) (cmpI_l (by omega)) SelMC.sel SubRC.sub | exact r_retv2 (Rd.tmp rfl rfl) (cmpI_g (by omega) (by omega)) SelMC.sel SubRC.sub | exact r_retv2 (Rd.tmp rfl rfl) (cmpI_e (by omega) (by omega)) SelMC.sel SubRC.sub
              ·
                first
                | (exfalso; revert hc19; decide)
                | (exfalso; omega)
                | skip
                  refine r_skip ?_
                  repeat (first | with_reducible refine r_then ?_ | with_reducible refine r_in_normal ?_ | with_reducible refine r_sc_normal ?_)
                  refine r_seq ?_
                  refine r_region ?_
                  refine o_q _ rfl rfl rfl (v_assign rfl rfl) ?_
                  refine o_nil ?_
                  repeat (first | with_reducible refine r_then ?_ | with_reducible refine r_in_normal ?_ | with_reducible refine r_sc_normal ?_)
                  refine r_ret ?_
                  repeat (first | with_reducible refine r_then_ret ?_ | with_reducible refine r_in_ret ?_ | with_reducible refine r_sc_ret ?_)
                  first | exact r_retv2 (Rd.tmp rfl rfl) (cmpI_l (by omega)) SelMC.sel SubRC.sub | exact r_retv2 (Rd.tmp rfl rfl) (cmpI_g (by omega) (by omega)) SelMC.sel SubRC.sub | exact r_retv2 (Rd.tmp rfl rfl) (cmpI_e (by omega) (by omega)) SelMC.sel SubRC.sub
set_option maxHeartbeats 4000000 in
theorem day1_v (x y : Opn) : FnV Tryd.prog 101 [.agg (encO x).toArray, .agg (encO y).toArray] [] (i64 (cmpI x.day y.day)) := by
  refine FnV.intro Tryd.call101 Tryd.func101 rfl Tryd.ntmps101 rfl ?_
  intro W M Rf
  refine r_seq ?_
  refine r_region ?_
  refine o_boxA rfl rfl rfl rfl rfl (fun b2 => ?_)
  refine o_boxA rfl rfl rfl rfl rfl (fun b3 => ?_)
  refine o_q _ rfl rfl rfl (v_assign rfl rfl) ?_
  refine o_nil ?_
  repeat (first | with_reducible refine r_then ?_ | with_reducible refine r_in_normal ?_ | with_reducible refine r_sc_normal ?_)
  refine r_seq ?_
  refine Imp.box_to b2 (encO x) rfl ?_
  refine Imp.box_to b3 (encO y) rfl ?_
  refine r_region ?_
  first | refine o_q _ rfl rfl rfl (v_fieldAddr rfl Tryd.underlying116 inf3 rfl rfl rfl rfl) ?_ | refine o_q _ rfl rfl rfl (v_fieldAddrE rfl Tryd.underlying116 inf3 rfl rfl rfl rfl) ?_
  first | refine o_q _ rfl rfl rfl (v_ld1 rfl Tryd.underlying3 rfl rfl rfl) ?_ | refine o_q _ rfl rfl rfl (v_lf1 rfl Tryd.underlying3 rfl rfl rfl) ?_ | refine o_q _ rfl rfl rfl (v_loadE1 rfl Tryd.underlying3 rfl rfl (by omega) rfl rfl) ?_
  first | refine o_q _ rfl rfl rfl (v_fieldAddr rfl Tryd.underlying116 inf3 rfl rfl rfl rfl) ?_ | refine o_q _ rfl rfl rfl (v_fieldAddrE rfl Tryd.underlying116 inf3 rfl rfl rfl rfl) ?_
  first | refine o_q _ rfl rfl rfl (v_ld1 rfl Tryd.underlying3 rfl rfl rfl) ?_ | refine o_q _ rfl rfl rfl (v_lf1 rfl Tryd.underlying3 rfl rfl rfl) ?_ | refine o_q _ rfl rfl rfl (v_loadE1 rfl Tryd.underlying3 rfl rfl (by omega) rfl rfl) ?_
  refine o_q _ rfl rfl rfl (OpQ.fn (compare_v _ _) rfl rfl SubRC.sub) ?_
  refine o_q _ rfl rfl rfl (v_assign rfl rfl) ?_
  refine o_nil ?_
  repeat (first | with_reducible refine r_then ?_ | with_reducible refine r_in_normal ?_ | with_reducible refine r_sc_normal ?_)
  refine r_ret ?_
  repeat (first | with_reducible refine r_then_ret ?_ | with_reducible refine r_in_ret ?_ | with_reducible refine r_sc_ret ?_)
  exact r_retv2 (Rd.tmp rfl rfl) rfl SelMC.sel SubRC.sub
set_option maxHeartbeats 4000000 in
theorem insertion_v (l : List Opn) (oa : Option Addr) (c : Nat) (hl : l.length ≤ 100) (hs : SortedO l) : FnV Tryd.prog 116 [.slice oa l.length c, i64 0, i64 l.length, .func (.func 101) #[] #[]] [rowD oa 4 encO l] (.tuple #[]) := by
  refine FnV.intro Tryd.call116 Tryd.func116 rfl Tryd.ntmps116 rfl ?_
  intro W M Rf
  refine r_seq ?_
  refine r_region ?_
  refine o_q _ rfl rfl rfl (v_move rfl rfl) ?_
  refine o_q _ rfl rfl rfl (v_add rfl rfl rfl (by omega)) ?_
  refine o_q _ rfl rfl rfl (v_assign rfl rfl) ?_
  refine o_nil ?_
  repeat (first | with_reducible refine r_then ?_ | with_reducible refine r_in_normal ?_ | with_reducible refine r_sc_normal ?_)
  refine r_block ?_
  refine r_loop (ι := Nat) (fun i => 1 ≤ i ∧ (i ≤ l.length ∨ i = 1)) (fun i => [(0, .slice oa l.length c), (1, i64 0), (2, i64 l.length), (3, .func (.func 101) #[] #[]), (8, i64 (i : Nat))]) (fun i => M) (fun i => [rowD oa 4 encO l] ++ Rf) (fun i => l.length + 1 - i) 1 ?_ ?_ ?_
  ·
    exact r_here (by repeat (first | exact FSub.nil | refine FSub.cons rfl ?_)) SelMC.sel SubRC.sub
  ·
    omega
  ·
    rintro i hI0
    refine r_seq ?_
    refine r_seq ?_
    refine r_region ?_
    refine o_q _ rfl rfl rfl (v_move rfl rfl) ?_
    refine o_q _ rfl rfl rfl (v_move rfl rfl) ?_
    refine o_q _ rfl rfl rfl (v_lss rfl rfl rfl) ?_
    refine o_nil ?_
    repeat (first | with_reducible refine r_then ?_ | with_reducible refine r_in_normal ?_ | with_reducible refine r_sc_normal ?_)
    first | refine r_condd rfl (fun hc14 => ?_) (fun hc14 => ?_) | refine r_cond rfl (fun hc14 => ?_) (fun hc14 => ?_)
    ·
      first
      | (exfalso; revert hc14; decide)
      | (exfalso; omega)
      | skip
        refine r_skip ?_
        repeat (first | with_reducible refine r_then ?_ | with_reducible refine r_in_normal ?_ | with_reducible refine r_sc_normal ?_)
        refine r_seq ?_
        refine r_block ?_
        refine r_seq ?_
        refine r_region ?_
        refine o_q _ rfl rfl rfl (v_move rfl rfl) ?_
        refine o_q _ rfl rfl rfl (v_assign rfl rfl) ?_
        refine o_nil ?_
        repeat (first | with_reducible refine r_then ?_ | with_reducible refine r_in_normal ?_ | with_reducible refine r_sc_normal ?_)
        refine r_block ?_
        refine r_loop (ι := Nat) (fun j => j = i) (fun j => [(0, .slice oa l.length c), (1, i64 0), (2, i64 l.length), (3, .func (.func 101) #[] #[]), (8, i64 (i : Nat)), (9, i64 (j : Nat))]) (fun j => M) (fun j => [rowD oa 4 encO l] ++ Rf) (fun j => 0) i ?_ ?_ ?_
        ·
          exact r_here (by repeat (first | exact FSub.nil | refine FSub.cons rfl ?_)) SelMC.sel SubRC.sub
        ·
          rfl
        ·
          rintro j hI1
          have hij := hI1.symm
          subst hij
          refine r_seq ?_
          refine r_seq ?_
          have hsi := hs (i - 1)
          rw [show i - 1 + 1 = i from by omega] at hsi
          obtain ⟨z, hz, hz0⟩ := cmpI_ge (a := (l.getD i default).day) (b := (l.getD (i - 1) default).day) (by have := hsi (by omega); omega)
          refine r_region_q mixed (by kernel_rfl) ?_
          refine q_q _ rfl rfl rfl (v_move rfl rfl) ?_
          refine q_q _ rfl rfl rfl (v_move rfl rfl) ?_
          first | refine q_q _ rfl rfl rfl (v_true (v_gtr rfl rfl rfl) (by omega)) ?_ | refine q_q _ rfl rfl rfl (v_false (v_gtr rfl rfl rfl) (by omega)) ?_ | refine q_test rfl rfl rfl (v_gtr rfl rfl rfl) (fun h20 => ?_) (fun h20 => ?_)
          all_goals
            refine q_q _ rfl rfl rfl (v_move rfl rfl) ?_
            first | refine q_gn rfl rfl rfl rfl ?_ | refine q_g _ rfl rfl rfl rfl (v_move rfl rfl) ?_
            first | refine q_gn rfl rfl rfl rfl ?_ | refine q_g _ rfl rfl rfl rfl (v_move rfl rfl) ?_
            first | refine q_gn rfl rfl rfl rfl ?_ | refine q_g _ rfl rfl rfl rfl (v_move rfl rfl) ?_
            first | refine q_gn rfl rfl rfl rfl ?_ | refine q_g _ rfl rfl rfl rfl (v_indexAddrSn rfl Tryd.underlying74 inf116 rfl rfl rfl (by omega) rfl) ?_ | refine q_g _ rfl rfl rfl rfl (v_indexAddrS rfl Tryd.underlying74 inf116 rfl rfl rfl (by omega) (by omega) rfl) ?_
            first | refine q_gn rfl rfl rfl rfl ?_ | refine q_g _ rfl rfl rfl rfl (v_loadEN (us := encO (l.getD i default)) rfl Tryd.underlying116 rfl inf116 rfl (by omega) rfl rfl rfl) ?_
            first | refine q_gn rfl rfl rfl rfl ?_ | refine q_g _ rfl rfl rfl rfl (v_move rfl rfl) ?_
            first | refine q_gn rfl rfl rfl rfl ?_ | refine q_g _ rfl rfl rfl rfl (v_move rfl rfl) ?_
            first | refine q_gn rfl rfl rfl rfl ?_ | refine q_g _ rfl rfl rfl rfl (v_cast (v := i64 ((i - 1 : Nat) : Int)) (v_sub rfl rfl rfl (by omega)) (congrArg (Value.int .i64) (by omega))) ?_
            first | refine q_gn rfl rfl rfl rfl ?_ | refine q_g _ rfl rfl rfl rfl (v_indexAddrSn rfl Tryd.underlying74 inf116 rfl rfl rfl (by omega) rfl) ?_ | refine q_g _ rfl rfl rfl rfl (v_indexAddrS rfl Tryd.underlying74 inf116 rfl rfl rfl (by omega) (by omega) rfl) ?_
            first | refine q_gn rfl rfl rfl rfl ?_ | refine q_g _ rfl rfl rfl rfl (v_loadEN (us := encO (l.getD (i - 1) default)) rfl Tryd.underlying116 rfl inf116 rfl (by omega) rfl rfl rfl) ?_
            first | refine q_gn rfl rfl rfl rfl ?_ | refine q_g _ rfl rfl rfl rfl (v_cast (v := i64 z) (OpQ.call (day1_v (l.getD i default) (l.getD (i - 1) default)) rfl [] [] rfl rfl rfl SubRC.sub) (congrArg (Value.int .i64) hz)) ?_
            first | refine q_gn rfl rfl rfl rfl ?_ | refine q_g _ rfl rfl rfl rfl (v_true (v_lss rfl rfl rfl) (by omega)) ?_ | refine q_g _ rfl rfl rfl rfl (v_false (v_lss rfl rfl rfl) (by omega)) ?_ | refine q_gtest rfl rfl rfl rfl (v_lss rfl rfl rfl) (fun h33 => ?_) (fun h33 => ?_)
            all_goals
              first | refine q_q _ rfl rfl rfl (v_pick_t rfl rfl rfl) ?_ | refine q_q _ rfl rfl rfl (v_pick_f rfl rfl rfl) ?_
              refine q_nil ?_
              repeat (first | with_reducible refine r_then ?_ | with_reducible refine r_in_normal ?_ | with_reducible refine r_sc_normal ?_)
              first | refine r_condd rfl (fun hc34 => ?_) (fun hc34 => ?_) | refine r_cond rfl (fun hc34 => ?_) (fun hc34 => ?_)
              ·
                first
                | (exfalso; revert hc34; decide)
                | (exfalso; omega)
                | skip
                  refine r_skip ?_
                  repeat (first | with_reducible refine r_then ?_ | with_reducible refine r_in_normal ?_ | with_reducible refine r_sc_normal ?_)
                  refine r_seq ?_
                  refine r_block ?_
                  (exfalso; omega)
              ·
                first
                | (exfalso; revert hc34; decide)
                | (exfalso; omega)
                | skip
                  refine r_exit ?_
                  repeat (first | with_reducible refine r_then_exit ?_ | with_reducible refine r_sc_exit ?_ | with_reducible refine r_in_here ?_ | (with_reducible refine r_in_past (by decide) ?_) | with_reducible refine r_then ?_ | with_reducible refine r_in_normal ?_ | with_reducible refine r_sc_normal ?_)
                  refine r_region ?_
                  refine o_q _ rfl rfl rfl (v_move rfl rfl) ?_
                  refine o_q _ rfl rfl rfl (v_add rfl rfl rfl (by omega)) ?_
                  refine o_q _ rfl rfl rfl (v_assign rfl rfl) ?_
                  refine o_nil ?_
                  repeat (first | with_reducible refine r_then ?_ | with_reducible refine r_in_normal ?_ | with_reducible refine r_sc_normal ?_)
                  refine r_next (i + 1) ?_ ?_ ?_
                  ·
                    exact r_here (by repeat (first | exact FSub.nil | refine FSub.cons rfl ?_)) SelMC.sel SubRC.sub
                  ·
                    omega
                  ·
                    omega
    ·
      first
      | (exfalso; revert hc14; decide)
      | (exfalso; omega)
      | skip
        refine r_exit ?_
        repeat (first | with_reducible refine r_then_exit ?_ | with_reducible refine r_sc_exit ?_ | with_reducible refine r_in_here ?_ | (with_reducible refine r_in_past (by decide) ?_) | with_reducible refine r_then ?_ | with_reducible refine r_in_normal ?_ | with_reducible refine r_sc_normal ?_)
        exact r_endv (Rd.none rfl) SelMC.sel SubRC.sub
set_option maxHeartbeats 4000000 in
theorem stable_v (l : List Opn) (oa : Option Addr) (c : Nat) (hl : l.length ≤ 10) (hs : SortedO l) : FnV Tryd.prog 112 [.slice oa l.length c, i64 l.length, .func (.func 101) #[] #[]] [rowD oa 4 encO l] (.tuple #[]) := by
  refine FnV.intro Tryd.call112 Tryd.func112 rfl Tryd.ntmps112 rfl ?_
  intro W M Rf
  refine r_seq ?_
  refine r_region ?_
  refine o_q _ rfl rfl rfl (v_assign rfl rfl) ?_
  refine o_nil ?_
  repeat (first | with_reducible refine r_then ?_ | with_reducible refine r_in_normal ?_ | with_reducible refine r_sc_normal ?_)
  refine r_seq ?_
  refine r_region ?_
  refine o_q _ rfl rfl rfl (v_move rfl rfl) ?_
  refine o_q _ rfl rfl rfl (v_assign rfl rfl) ?_
  refine o_q _ rfl rfl rfl (v_assign rfl rfl) ?_
  refine o_nil ?_
  repeat (first | with_reducible refine r_then ?_ | with_reducible refine r_in_normal ?_ | with_reducible refine r_sc_normal ?_)
  refine r_seq ?_
  refine r_block ?_
  refine r_loop (ι := Unit) (fun uu => True) (fun uu => [(0, .slice oa l.length c), (1, i64 l.length), (2, .func (.func 101) #[] #[]), (6, i64 20), (7, i64 0), (8, i64 20)]) (fun uu => M) (fun uu => [rowD oa 4 encO l] ++ Rf) (fun uu => 0) () ?_ ?_ ?_
  ·
    exact r_here (by repeat (first | exact FSub.nil | refine FSub.cons rfl ?_)) SelMC.sel SubRC.sub
  ·
    trivial
  ·
    rintro uu hI0
    refine r_seq ?_
    refine r_seq ?_
    refine r_region ?_
    refine o_q _ rfl rfl rfl (v_move rfl rfl) ?_
    refine o_q _ rfl rfl rfl (v_move rfl rfl) ?_
    refine o_q _ rfl rfl rfl (v_leq rfl rfl rfl) ?_
    refine o_nil ?_
    repeat (first | with_reducible refine r_then ?_ | with_reducible refine r_in_normal ?_ | with_reducible refine r_sc_normal ?_)
    first | refine r_condd rfl (fun hc13 => ?_) (fun hc13 => ?_) | refine r_cond rfl (fun hc13 => ?_) (fun hc13 => ?_)
    ·
      first
      | (exfalso; revert hc13; decide)
      | (exfalso; omega)
      | skip
        refine r_skip ?_
        repeat (first | with_reducible refine r_then ?_ | with_reducible refine r_in_normal ?_ | with_reducible refine r_sc_normal ?_)
        refine r_block ?_
        refine r_seq ?_
        (exfalso; omega)
    ·
      first
      | (exfalso; revert hc13; decide)
      | (exfalso; omega)
      | skip
        refine r_exit ?_
        repeat (first | with_reducible refine r_then_exit ?_ | with_reducible refine r_sc_exit ?_ | with_reducible refine r_in_here ?_ | (with_reducible refine r_in_past (by decide) ?_) | with_reducible refine r_then ?_ | with_reducible refine r_in_normal ?_ | with_reducible refine r_sc_normal ?_)
        refine r_seq ?_
        refine r_region ?_
        refine o_q _ rfl rfl rfl (v_move rfl rfl) ?_
        refine o_q _ rfl rfl rfl (v_move rfl rfl) ?_
        refine o_q _ rfl rfl rfl (v_move rfl rfl) ?_
        refine o_q _ rfl rfl rfl (v_move rfl rfl) ?_
        refine o_q _ rfl rfl rfl (OpQ.fn (insertion_v l oa c (by omega) hs) rfl rfl SubRC.sub) ?_
        refine o_nil ?_
        repeat (first | with_reducible refine r_then ?_ | with_reducible refine r_in_normal ?_ | with_reducible refine r_sc_normal ?_)
        refine r_block ?_
        refine r_loop (ι := Unit) (fun uu => True) (fun uu => [(0, .slice oa l.length c), (1, i64 l.length), (2, .func (.func 101) #[] #[]), (6, i64 20)]) (fun uu => M) (fun uu => [rowD oa 4 encO l] ++ Rf) (fun uu => 0) () ?_ ?_ ?_
        ·
          exact r_here (by repeat (first | exact FSub.nil | refine FSub.cons rfl ?_)) SelMC.sel SubRC.sub
        ·
          trivial
        ·
          rintro uu hI1
          refine r_seq ?_
          refine r_seq ?_
          refine r_region ?_
          refine o_q _ rfl rfl rfl (v_move rfl rfl) ?_
          refine o_q _ rfl rfl rfl (v_move rfl rfl) ?_
          refine o_q _ rfl rfl rfl (v_lss rfl rfl rfl) ?_
          refine o_nil ?_
          repeat (first | with_reducible refine r_then ?_ | with_reducible refine r_in_normal ?_ | with_reducible refine r_sc_normal ?_)
          first | refine r_condd rfl (fun hc30 => ?_) (fun hc30 => ?_) | refine r_cond rfl (fun hc30 => ?_) (fun hc30 => ?_)
          ·
            first
            | (exfalso; revert hc30; decide)
            | (exfalso; omega)
            | skip
              refine r_skip ?_
              repeat (first | with_reducible refine r_then ?_ | with_reducible refine r_in_normal ?_ | with_reducible refine r_sc_normal ?_)
              refine r_block ?_
              refine r_seq ?_
              (exfalso; omega)
          ·
            first
            | (exfalso; revert hc30; decide)
            | (exfalso; omega)
            | skip
              refine r_exit ?_
              repeat (first | with_reducible refine r_then_exit ?_ | with_reducible refine r_sc_exit ?_ | with_reducible refine r_in_here ?_ | (with_reducible refine r_in_past (by decide) ?_) | with_reducible refine r_then ?_ | with_reducible refine r_in_normal ?_ | with_reducible refine r_sc_normal ?_)
              exact r_endv (Rd.none rfl) SelMC.sel SubRC.sub
set_option maxHeartbeats 4000000 in
theorem sort_v (l : List Opn) (oa : Option Addr) (c : Nat) (hl : l.length ≤ 10) (hs : SortedO l) : FnV Tryd.prog 100 [.slice oa l.length c, .func (.func 101) #[] #[]] [rowD oa 4 encO l] (.tuple #[]) := by
  refine FnV.intro Tryd.call100 Tryd.func100 rfl Tryd.ntmps100 rfl ?_
  intro W M Rf
  refine r_region ?_
  refine o_q _ rfl rfl rfl (v_move rfl rfl) ?_
  refine o_q _ rfl rfl rfl (v_move rfl rfl) ?_
  refine o_q _ rfl rfl rfl (v_len rfl rfl Tryd.underlying74 rfl) ?_
  refine o_q _ rfl rfl rfl (v_move rfl rfl) ?_
  refine o_q _ rfl rfl rfl (OpQ.fn (stable_v l oa c hl hs) rfl rfl SubRC.sub) ?_
  refine o_nil ?_
  repeat (first | with_reducible refine r_then ?_ | with_reducible refine r_in_normal ?_ | with_reducible refine r_sc_normal ?_)
  exact r_endv (Rd.none rfl) SelMC.sel SubRC.sub
end Go.Proofs.YtpfgiednfjfdmaaDoor


namespace Go.Proofs.YtpfgiednfjfdmaaDoor
open Go.G Debt10
set_option maxRecDepth 1000000
attribute [local irreducible] G.ParO G.Fin
theorem laid0 : laidOutB Tryd.prog = true := by kernel_rfl
theorem keyLaw113 : WideMaps.KeyLaw Tryd.prog 113 := deep_law_gate laid0 (by decide +kernel) (by decide +kernel) (by kernel_rfl) (by kernel_rfl)
@[reducible] def keyV (who : Int) (e d : Nat) (g : Bool) : Value := .agg #[i64 who, i64 (e : Int), i64 (d : Int), .bool g]
theorem key_of {who : Int} {e d : Nat} {g : Bool} (hw : -1000 ≤ who ∧ who ≤ 1000) (he : e < 2) (hd : d ≤ 1000) : ∃ l, keyOf Tryd.prog 113 (keyV who e d g) = some l := by
  have h1 := Tryd.underlying113
  unfold keyOf
  rw [h1]
  have h2 : Tryd.prog.keyType 113 = true := by kernel_rfl
  have h3 : (keyV who e d g).formed Tryd.prog 113 = true := by cases g <;> kernel_rfl
  have c113 : Tryd.prog.cellsOf 113 = 4 := by kernel_rfl
  have c3 : Tryd.prog.cellsOf 3 = 1 := by kernel_rfl
  have c4 : Tryd.prog.cellsOf 4 = 1 := by kernel_rfl
  have kl3 : ∀ (s : Int), (-1000 ≤ s ∧ s ≤ 1000) → ∀ d, Tryd.prog.keyLits (d + 1) 3 [i64 s] = some [.int .i64 s] := fun s hs d => by
    have hw : (Lit.int .i64 s).wf = true := by
      have m1 : IntKind.i64.min = -9223372036854775808 := rfl
      have m2 : IntKind.i64.max = 9223372036854775807 := rfl
      simp only [Lit.wf]
      simp
      omega
    unfold Program.keyLits
    rw [Tryd.underlying3]
    simp [hw]
  have kl4 : ∀ d, Tryd.prog.keyLits (d + 1) 4 [.bool g] = some [.bool g] := fun d => by
    unfold Program.keyLits
    rw [Tryd.underlying4]
  have k1 := kl3 who hw
  have k2 := kl3 (e : Int) (by omega)
  have k3 := kl3 (d : Int) (by omega)
  have e113 : Tryd.prog.keyLits (Tryd.prog.types.size + 1) 113 (keyV who e d g).cells.toList = some [.int .i64 who, .int .i64 (e : Int), .int .i64 (d : Int), .bool g] := by
    have hsz : Tryd.prog.types.size + 1 = 184 + 2 := by kernel_rfl
    rw [hsz]
    unfold Program.keyLits
    rw [Tryd.underlying113]
    simp [c113, c3, c4, Value.cells, k1, k2, k3, kl4]
  rw [e113, h2, h3]
  exact ⟨_, rfl⟩
/-- The two ends, as they are laid. -/
def encE (e : Nat) : List Value := [endV e]
theorem ends_at {e : Nat} (he : e < 2) : (encE (([0, 1] : List Nat).getD e default))[0]? = some (endV e) := by
  obtain rfl | rfl : e = 0 ∨ e = 1 := by omega
  · rfl
  · rfl
theorem Imp.toZ {α : Type} {enc : α → List Value} {sz : Nat} {T : TypeId} {xs : List α} {W : World} {n : Nat} {Df : List Deferred} {L : Tm} {M M' : List Res} {R : List Fact} {X : Act → World → Prop} (v : Value) [hd : HasOwn v M T sz enc xs M'] (ys : List α) (e : xs = ys) (h : Imp W n Df L (ownZ v T sz enc ys :: M') R X) : Imp W n Df L M R X := by
  subst e
  intro a w g1 g2 g3
  refine h a w g1 g2 ?_
  have g4 : St W (ownL v T sz enc xs :: M') R w := g3.perm hd.del.perm
  obtain ⟨s, ⟨s1, s2, rfl, hz, hS⟩, hO, hR⟩ := g4.mem
  exact ⟨g4.os, g4.tape, g4.output, s1 ++ s2, ⟨s1, s2, rfl, .inr hz, hS⟩, hO, hR⟩
class HasOwnZ {α : outParam Type} (v : Value) (M : List Res) (T : outParam TypeId) (sz : outParam Nat) (enc : outParam (α → List Value)) (xs : outParam (List α)) (M' : outParam (List Res)) : Prop where
  del : Del M (ownZ v T sz enc xs) M'
instance HasOwnZ.head {α : Type} {v : Value} {M : List Res} {T : TypeId} {sz : Nat} {enc : α → List Value} {xs : List α} : HasOwnZ v (ownZ v T sz enc xs :: M) T sz enc xs M := ⟨Del.here⟩
instance HasOwnZ.tail {α : Type} {v : Value} {r : Res} {M M' : List Res} {T : TypeId} {sz : Nat} {enc : α → List Value} {xs : List α} [h : HasOwnZ v M T sz enc xs M'] : HasOwnZ v (r :: M) T sz enc xs (r :: M') := ⟨Del.there h.del⟩
theorem Imp.isZ2 {α : Type} {enc : α → List Value} {sz : Nat} {T : TypeId} {xs : List α} {W : World} {n : Nat} {Df : List Deferred} {L : Tm} {M M' : List Res} {R : List Fact} {X : Act → World → Prop} (v : Value) [hd : HasOwnZ v M T sz enc xs M'] (h : isSl xs.length v → Imp W n Df L M R X) : Imp W n Df L M R X := by
  haveI : DelC M (ownZ v T sz enc xs) M' := ⟨hd.del⟩
  exact Imp.isZ (enc := enc) (sz := sz) (T := T) (xs := xs) (M' := M') v h
theorem Imp.settleZ2 {α : Type} {enc : α → List Value} {sz : Nat} {T : TypeId} {xs : List α} {W : World} {n : Nat} {Df : List Deferred} {L : Tm} {M M' : List Res} {R : List Fact} {X : Act → World → Prop} (v : Value) [hd : HasOwnZ v M T sz enc xs M'] (henc : ∀ x, (enc x).length = sz) (h : ∀ oa cap, v = .slice oa xs.length cap → Imp W n Df L M' (rowD oa sz enc xs :: R) X) : Imp W n Df L M R X := by
  haveI : DelC M (ownZ v T sz enc xs) M' := ⟨hd.del⟩
  exact Imp.settleZ (T := T) (xs := xs) (M' := M') v henc h
theorem Imp.toZZ {α : Type} {enc : α → List Value} {sz : Nat} {T : TypeId} {xs : List α} {W : World} {n : Nat} {Df : List Deferred} {L : Tm} {M M' : List Res} {R : List Fact} {X : Act → World → Prop} (v : Value) [hd : HasOwnZ v M T sz enc xs M'] (ys : List α) (e : xs = ys) (h : Imp W n Df L (ownZ v T sz enc ys :: M') R X) : Imp W n Df L M R X := by
  subst e
  exact fun a w g1 g2 g3 => h a w g1 g2 (g3.perm hd.del.perm)
variable (D : Debt) (uo po : Option Addr) (uc pc : Nat)
variable (lb mb : Nat)
/-- What is laid when a debt is looked at. -/
def ledR (b : Nat) : Res := exR fun mb : Nat => [mapG Tryd.prog 113 mb (fun _ => none), bx b 108 [i64 D.people, .slice uo D.dues.length uc, .slice po D.paid.length pc, .map (some mb)]]
theorem Imp.pk1 {α : Type} {N : α → List Res} {W : World} {n : Nat} {Df : List Deferred} {L : Tm} {M M' : List Res} {R : List Fact} {X : Act → World → Prop} (x : α) (hM : SelM M (N x ++ M')) (h : Imp W n Df L (exR N :: M') R X) : Imp W n Df L M R X := fun a w h1 h2 h3 => h a w h1 h2 (St.pk x (h3.sel hM))
theorem led_pk {W : World} {n : Nat} {Df : List Deferred} {L : Tm} {M M' : List Res} {R : List Fact} {X : Act → World → Prop} (hM : SelM M (mapG Tryd.prog 113 mb (fun _ => none) :: bx lb 108 [i64 D.people, .slice uo D.dues.length uc, .slice po D.paid.length pc, .map (some mb)] :: M')) (h : Imp W n Df L (ledR D uo po uc pc lb :: M') R X) : Imp W n Df L M R X := Imp.pk1 (N := fun mb : Nat => [mapG Tryd.prog 113 mb (fun _ => none), bx lb 108 [i64 D.people, .slice uo D.dues.length uc, .slice po D.paid.length pc, .map (some mb)]]) mb hM h
set_option maxHeartbeats 4000000 in
theorem look_ok (hl1 : D.dues.length ≤ 40) (hl2 : D.paid.length ≤ 40) (hg : GoodD D) : FnS Tryd.prog 44 [valD D uo po uc pc, .bool true] [] [rowD uo 5 encD D.dues, rowD po 4 encP D.paid] (fun e M' R' => ∃ b, e = .returned (pt b 0) ∧ M' = [ledR D uo po uc pc b] ∧ R' = []) := by
  refine FnS.intro0 Tryd.call44 Tryd.func44 rfl Tryd.ntmps44 rfl ?_
  intro W M Rf
  refine r_seq ?_
  refine r_region ?_
  refine o_boxA rfl rfl rfl rfl rfl (fun b2 => ?_)
  refine o_q _ rfl rfl rfl (v_assign rfl rfl) ?_
  refine o_nil ?_
  repeat (first | with_reducible refine r_then ?_ | with_reducible refine r_in_normal ?_ | with_reducible refine r_sc_normal ?_)
  refine r_seq ?_
  have hq1 := hg.np
  have hq2 := hg.nd
  have hq3 := hg.ny
  refine r_region ?_
  first | refine o_q _ rfl rfl rfl (v_fieldAddr rfl Tryd.underlying25 inf3 rfl rfl rfl rfl) ?_ | refine o_q _ rfl rfl rfl (v_fieldAddrE rfl Tryd.underlying25 inf3 rfl rfl rfl rfl) ?_
  first | refine o_q _ rfl rfl rfl (v_ld1 rfl Tryd.underlying3 rfl rfl rfl) ?_ | refine o_q _ rfl rfl rfl (v_lf1 rfl Tryd.underlying3 rfl rfl rfl) ?_ | refine o_q _ rfl rfl rfl (v_loadE1 rfl Tryd.underlying3 rfl rfl (by omega) rfl rfl) ?_
  first | refine o_q _ rfl rfl rfl (v_true (OpQ.fn (within_v _ _ _) rfl rfl SubRC.sub) (by omega)) ?_ | refine o_q _ rfl rfl rfl (v_false (OpQ.fn (within_v _ _ _) rfl rfl SubRC.sub) (by omega)) ?_ | refine o_test rfl rfl rfl (OpQ.fn (within_v _ _ _) rfl rfl SubRC.sub) (fun h11 => ?_) (fun h11 => ?_)
  all_goals
    refine o_q _ rfl rfl rfl (v_move rfl rfl) ?_
    first | refine o_gn rfl rfl rfl rfl ?_ | refine o_g _ rfl rfl rfl rfl (v_fieldAddr rfl Tryd.underlying25 inf22 rfl rfl rfl rfl) ?_ | refine o_g _ rfl rfl rfl rfl (v_fieldAddrE rfl Tryd.underlying25 inf22 rfl rfl rfl rfl) ?_
    first | refine o_gn rfl rfl rfl rfl ?_ | refine o_g _ rfl rfl rfl rfl (v_ld1 rfl Tryd.underlying22 rfl rfl rfl) ?_ | refine o_g _ rfl rfl rfl rfl (v_lf1 rfl Tryd.underlying22 rfl rfl rfl) ?_ | refine o_g _ rfl rfl rfl rfl (v_loadE1 rfl Tryd.underlying22 rfl rfl (by omega) rfl rfl) ?_
    first | refine o_gn rfl rfl rfl rfl ?_ | refine o_g _ rfl rfl rfl rfl (v_len rfl rfl Tryd.underlying22 rfl) ?_
    first | refine o_gn rfl rfl rfl rfl ?_ | refine o_g _ rfl rfl rfl rfl (v_true (v_leq rfl rfl rfl) (by omega)) ?_ | refine o_g _ rfl rfl rfl rfl (v_false (v_leq rfl rfl rfl) (by omega)) ?_ | refine o_gtest rfl rfl rfl rfl (v_leq rfl rfl rfl) (fun h16 => ?_) (fun h16 => ?_)
    all_goals
      first | refine o_q _ rfl rfl rfl (v_pick_t rfl rfl rfl) ?_ | refine o_q _ rfl rfl rfl (v_pick_f rfl rfl rfl) ?_
      refine o_q _ rfl rfl rfl (v_move rfl rfl) ?_
      first | refine o_gn rfl rfl rfl rfl ?_ | refine o_g _ rfl rfl rfl rfl (v_fieldAddr rfl Tryd.underlying25 inf23 rfl rfl rfl rfl) ?_ | refine o_g _ rfl rfl rfl rfl (v_fieldAddrE rfl Tryd.underlying25 inf23 rfl rfl rfl rfl) ?_
      first | refine o_gn rfl rfl rfl rfl ?_ | refine o_g _ rfl rfl rfl rfl (v_ld1 rfl Tryd.underlying23 rfl rfl rfl) ?_ | refine o_g _ rfl rfl rfl rfl (v_lf1 rfl Tryd.underlying23 rfl rfl rfl) ?_ | refine o_g _ rfl rfl rfl rfl (v_loadE1 rfl Tryd.underlying23 rfl rfl (by omega) rfl rfl) ?_
      first | refine o_gn rfl rfl rfl rfl ?_ | refine o_g _ rfl rfl rfl rfl (v_len rfl rfl Tryd.underlying23 rfl) ?_
      first | refine o_gn rfl rfl rfl rfl ?_ | refine o_g _ rfl rfl rfl rfl (v_true (v_leq rfl rfl rfl) (by omega)) ?_ | refine o_g _ rfl rfl rfl rfl (v_false (v_leq rfl rfl rfl) (by omega)) ?_ | refine o_gtest rfl rfl rfl rfl (v_leq rfl rfl rfl) (fun h22 => ?_) (fun h22 => ?_)
      all_goals
        first | refine o_q _ rfl rfl rfl (v_pick_t rfl rfl rfl) ?_ | refine o_q _ rfl rfl rfl (v_pick_f rfl rfl rfl) ?_
        first | refine o_q _ rfl rfl rfl (OpQ.fn (ask_t _) rfl rfl SubRC.sub) ?_ | refine o_fnx (ask_f _) rfl rfl rfl SubRC.sub ?_
        repeat (first | with_reducible refine r_then_panic ?_ | with_reducible refine r_in_panic ?_ | with_reducible refine r_sc_panic ?_)
        try ((exfalso; first | omega | (have hok2 := hok (by omega); first | omega | exact absurd hok2.2.2.1 (by assumption) | exact absurd hok2.2.2 (by assumption))))
        all_goals
          refine o_nil ?_
          repeat (first | with_reducible refine r_then ?_ | with_reducible refine r_in_normal ?_ | with_reducible refine r_sc_normal ?_)
          refine r_seq ?_
          refine r_seq ?_
          refine r_region ?_
          first | refine o_q _ rfl rfl rfl (v_fieldAddr rfl Tryd.underlying25 inf22 rfl rfl rfl rfl) ?_ | refine o_q _ rfl rfl rfl (v_fieldAddrE rfl Tryd.underlying25 inf22 rfl rfl rfl rfl) ?_
          first | refine o_q _ rfl rfl rfl (v_ld1 rfl Tryd.underlying22 rfl rfl rfl) ?_ | refine o_q _ rfl rfl rfl (v_lf1 rfl Tryd.underlying22 rfl rfl rfl) ?_ | refine o_q _ rfl rfl rfl (v_loadE1 rfl Tryd.underlying22 rfl rfl (by omega) rfl rfl) ?_
          refine o_q _ rfl rfl rfl (v_len rfl rfl Tryd.underlying22 rfl) ?_
          refine o_q _ rfl rfl rfl (v_move rfl rfl) ?_
          refine o_nil ?_
          repeat (first | with_reducible refine r_then ?_ | with_reducible refine r_in_normal ?_ | with_reducible refine r_sc_normal ?_)
          refine r_block ?_
          refine r_loop (ι := Nat) (fun k => k ≤ D.dues.length ∧ (1 ≤ D.people ∧ D.people ≤ 4) ∧ D.dues.length ≤ 6 ∧ D.paid.length ≤ 6 ∧ ∀ j, j < k → DueOk D (D.dues.getD j default)) (fun k => [(1, .bool true), (2, pt b2 0), (26, .slice uo D.dues.length uc), (27, i64 D.dues.length), (28, i64 k)]) (fun k => bx b2 25 (cellsD D uo po uc pc) :: M) (fun k => [rowD uo 5 encD D.dues, rowD po 4 encP D.paid] ++ Rf) (fun k => D.dues.length - k) 0 ?_ ?_ ?_
          ·
            exact r_here (by repeat (first | exact FSub.nil | refine FSub.cons rfl ?_)) SelMC.sel SubRC.sub
          ·
            exact ⟨Nat.zero_le _, by omega, by omega, by omega, fun j hj => absurd hj (by omega)⟩
          ·
            rintro k hI0
            have hwr : IntKind.i64.wrap (D.people - 1) = D.people - 1 := IntWalk.i64_in _ (by omega)
            have hok := hg.dues k
            unfold DueOk at hok
            refine r_seq ?_
            refine r_region ?_
            refine o_q _ rfl rfl rfl (v_lss rfl rfl rfl) ?_
            refine o_nil ?_
            repeat (first | with_reducible refine r_then ?_ | with_reducible refine r_in_normal ?_ | with_reducible refine r_sc_normal ?_)
            refine r_seq ?_
            first | refine r_condd rfl (fun hc29 => ?_) (fun hc29 => ?_) | refine r_cond rfl (fun hc29 => ?_) (fun hc29 => ?_)
            ·
              first
              | (exfalso; revert hc29; decide)
              | (exfalso; omega)
              | skip
                refine r_skip ?_
                repeat (first | with_reducible refine r_then ?_ | with_reducible refine r_in_normal ?_ | with_reducible refine r_sc_normal ?_)
                refine r_seq ?_
                refine r_block ?_
                refine r_seq ?_
                refine r_region ?_
                first | refine o_q _ rfl rfl rfl (v_indexAddrSn rfl Tryd.underlying22 inf62 rfl rfl rfl (by omega) rfl) ?_ | refine o_q _ rfl rfl rfl (v_indexAddrS rfl Tryd.underlying22 inf62 rfl rfl rfl (by omega) (by omega) rfl) ?_
                refine o_q _ rfl rfl rfl (v_loadEN (us := encD (D.dues.getD k default)) rfl Tryd.underlying62 rfl inf62 rfl (by omega) rfl rfl rfl) ?_
                refine o_alloc rfl inf62 rfl rfl rfl rfl rfl (fun b6 => ?_)
                refine o_st rfl inf62 rfl rfl rfl rfl rfl rfl rfl rfl ?_
                refine o_nil ?_
                repeat (first | with_reducible refine r_then ?_ | with_reducible refine r_in_normal ?_ | with_reducible refine r_sc_normal ?_)
                refine Imp.box_to b6 (encD (D.dues.getD k default)) rfl ?_
                refine r_region ?_
                first | refine o_q _ rfl rfl rfl (v_ldW rfl Tryd.underlying25 rfl inf25 rfl rfl) ?_ | refine o_q _ rfl rfl rfl (v_lfW rfl Tryd.underlying25 rfl inf25 rfl rfl) ?_ | refine o_q _ rfl rfl rfl (v_lfN rfl Tryd.underlying25 rfl inf25 rfl rfl rfl) ?_ | refine o_q _ rfl rfl rfl (v_ldN rfl Tryd.underlying25 rfl inf25 rfl rfl rfl) ?_ | refine o_q _ rfl rfl rfl (v_loadEN rfl Tryd.underlying25 rfl inf25 rfl (by omega) rfl rfl rfl) ?_
                first | refine o_q _ rfl rfl rfl (v_fieldAddr rfl Tryd.underlying62 inf3 rfl rfl rfl rfl) ?_ | refine o_q _ rfl rfl rfl (v_fieldAddrE rfl Tryd.underlying62 inf3 rfl rfl rfl rfl) ?_
                first | refine o_q _ rfl rfl rfl (v_ld1 rfl Tryd.underlying3 rfl rfl rfl) ?_ | refine o_q _ rfl rfl rfl (v_lf1 rfl Tryd.underlying3 rfl rfl rfl) ?_ | refine o_q _ rfl rfl rfl (v_loadE1 rfl Tryd.underlying3 rfl rfl (by omega) rfl rfl) ?_
                first | refine o_q _ rfl rfl rfl (v_true (OpQ.fn (isWho_v D uo po uc pc (D.dues.getD k default).who) rfl rfl SubRC.sub) (by omega)) ?_ | refine o_q _ rfl rfl rfl (v_false (OpQ.fn (isWho_v D uo po uc pc (D.dues.getD k default).who) rfl rfl SubRC.sub) (by omega)) ?_ | refine o_test rfl rfl rfl (OpQ.fn (isWho_v D uo po uc pc (D.dues.getD k default).who) rfl rfl SubRC.sub) (fun h35 => ?_) (fun h35 => ?_)
                all_goals
                  refine o_q _ rfl rfl rfl (v_move rfl rfl) ?_
                  first | refine o_gn rfl rfl rfl rfl ?_ | refine o_g _ rfl rfl rfl rfl (v_fieldAddr rfl Tryd.underlying62 inf3 rfl rfl rfl rfl) ?_ | refine o_g _ rfl rfl rfl rfl (v_fieldAddrE rfl Tryd.underlying62 inf3 rfl rfl rfl rfl) ?_
                  first | refine o_gn rfl rfl rfl rfl ?_ | refine o_g _ rfl rfl rfl rfl (v_ld1 rfl Tryd.underlying3 rfl rfl rfl) ?_ | refine o_g _ rfl rfl rfl rfl (v_lf1 rfl Tryd.underlying3 rfl rfl rfl) ?_ | refine o_g _ rfl rfl rfl rfl (v_loadE1 rfl Tryd.underlying3 rfl rfl (by omega) rfl rfl) ?_
                  first | refine o_gn rfl rfl rfl rfl ?_ | refine o_g _ rfl rfl rfl rfl (v_true (OpQ.fn (isDay_v _) rfl rfl SubRC.sub) (by omega)) ?_ | refine o_g _ rfl rfl rfl rfl (v_false (OpQ.fn (isDay_v _) rfl rfl SubRC.sub) (by omega)) ?_ | refine o_gtest rfl rfl rfl rfl (OpQ.fn (isDay_v _) rfl rfl SubRC.sub) (fun h39 => ?_) (fun h39 => ?_)
                  all_goals
                    first | refine o_q _ rfl rfl rfl (v_pick_t rfl rfl rfl) ?_ | refine o_q _ rfl rfl rfl (v_pick_f rfl rfl rfl) ?_
                    refine o_q _ rfl rfl rfl (v_move rfl rfl) ?_
                    first | refine o_gn rfl rfl rfl rfl ?_ | refine o_g _ rfl rfl rfl rfl (v_fieldAddr rfl Tryd.underlying62 inf29 rfl rfl rfl rfl) ?_ | refine o_g _ rfl rfl rfl rfl (v_fieldAddrE rfl Tryd.underlying62 inf29 rfl rfl rfl rfl) ?_
                    first | refine o_gn rfl rfl rfl rfl ?_ | refine o_g _ rfl rfl rfl rfl (v_ldW rfl Tryd.underlying29 rfl inf29 rfl rfl) ?_ | refine o_g _ rfl rfl rfl rfl (v_lfW rfl Tryd.underlying29 rfl inf29 rfl rfl) ?_ | refine o_g _ rfl rfl rfl rfl (v_lfN rfl Tryd.underlying29 rfl inf29 rfl rfl rfl) ?_ | refine o_g _ rfl rfl rfl rfl (v_ldN rfl Tryd.underlying29 rfl inf29 rfl rfl rfl) ?_ | refine o_g _ rfl rfl rfl rfl (v_loadEN rfl Tryd.underlying29 rfl inf29 rfl (by omega) rfl rfl rfl) ?_
                    first | refine o_gn rfl rfl rfl rfl ?_ | refine o_g _ rfl rfl rfl rfl (v_true (OpQ.fn (isSods_v (D.dues.getD k default).sods.lo (D.dues.getD k default).sods.hi) rfl rfl SubRC.sub) (by omega)) ?_ | refine o_g _ rfl rfl rfl rfl (v_false (OpQ.fn (isSods_v (D.dues.getD k default).sods.lo (D.dues.getD k default).sods.hi) rfl rfl SubRC.sub) (by omega)) ?_ | refine o_gtest rfl rfl rfl rfl (OpQ.fn (isSods_v (D.dues.getD k default).sods.lo (D.dues.getD k default).sods.hi) rfl rfl SubRC.sub) (fun h44 => ?_) (fun h44 => ?_)
                    all_goals
                      first | refine o_q _ rfl rfl rfl (v_pick_t rfl rfl rfl) ?_ | refine o_q _ rfl rfl rfl (v_pick_f rfl rfl rfl) ?_
                      refine o_q _ rfl rfl rfl (v_move rfl rfl) ?_
                      first | refine o_gn rfl rfl rfl rfl ?_ | refine o_g _ rfl rfl rfl rfl (v_fieldAddr rfl Tryd.underlying62 inf3 rfl rfl rfl rfl) ?_ | refine o_g _ rfl rfl rfl rfl (v_fieldAddrE rfl Tryd.underlying62 inf3 rfl rfl rfl rfl) ?_
                      first | refine o_gn rfl rfl rfl rfl ?_ | refine o_g _ rfl rfl rfl rfl (v_ld1 rfl Tryd.underlying3 rfl rfl rfl) ?_ | refine o_g _ rfl rfl rfl rfl (v_lf1 rfl Tryd.underlying3 rfl rfl rfl) ?_ | refine o_g _ rfl rfl rfl rfl (v_loadE1 rfl Tryd.underlying3 rfl rfl (by omega) rfl rfl) ?_
                      first | refine o_gn rfl rfl rfl rfl ?_ | refine o_g _ rfl rfl rfl rfl (v_true (OpQ.fn (within_v _ _ _) rfl rfl SubRC.sub) (by omega)) ?_ | refine o_g _ rfl rfl rfl rfl (v_false (OpQ.fn (within_v _ _ _) rfl rfl SubRC.sub) (by omega)) ?_ | refine o_gtest rfl rfl rfl rfl (OpQ.fn (within_v _ _ _) rfl rfl SubRC.sub) (fun h49 => ?_) (fun h49 => ?_)
                      all_goals
                        first | refine o_q _ rfl rfl rfl (v_pick_t rfl rfl rfl) ?_ | refine o_q _ rfl rfl rfl (v_pick_f rfl rfl rfl) ?_
                        first | refine o_q _ rfl rfl rfl (OpQ.fn (ask_t _) rfl rfl SubRC.sub) ?_ | refine o_fnx (ask_f _) rfl rfl rfl SubRC.sub ?_
                        repeat (first | with_reducible refine r_then_panic ?_ | with_reducible refine r_in_panic ?_ | with_reducible refine r_sc_panic ?_)
                        try ((exfalso; first | omega | (have hok2 := hok (by omega); first | omega | exact absurd hok2.2.2.1 (by assumption) | exact absurd hok2.2.2 (by assumption))))
                        all_goals
                          refine o_nil ?_
                          repeat (first | with_reducible refine r_then ?_ | with_reducible refine r_in_normal ?_ | with_reducible refine r_sc_normal ?_)
                          refine r_region ?_
                          refine o_q _ rfl rfl rfl (v_add rfl rfl rfl (by omega)) ?_
                          refine o_q _ rfl rfl rfl (v_move rfl rfl) ?_
                          refine o_nil ?_
                          repeat (first | with_reducible refine r_then ?_ | with_reducible refine r_in_normal ?_ | with_reducible refine r_sc_normal ?_)
                          refine r_next (k + 1) ?_ ?_ ?_
                          ·
                            exact r_here (by repeat (first | exact FSub.nil | refine FSub.cons rfl ?_)) SelMC.sel SubRC.sub
                          ·
                            exact ⟨by omega, by omega, by omega, by omega, all_step hI0.2.2.2.2 (by unfold DueOk; refine ⟨by omega, by omega, by assumption, by omega⟩)⟩
                          ·
                            omega
            ·
              first
              | (exfalso; revert hc29; decide)
              | (exfalso; omega)
              | skip
                refine r_exit ?_
                repeat (first | with_reducible refine r_then_exit ?_ | with_reducible refine r_sc_exit ?_ | with_reducible refine r_in_here ?_ | (with_reducible refine r_in_past (by decide) ?_) | with_reducible refine r_then ?_ | with_reducible refine r_in_normal ?_ | with_reducible refine r_sc_normal ?_)
                refine r_seq ?_
                refine r_seq ?_
                refine r_region ?_
                first | refine o_q _ rfl rfl rfl (v_fieldAddr rfl Tryd.underlying25 inf23 rfl rfl rfl rfl) ?_ | refine o_q _ rfl rfl rfl (v_fieldAddrE rfl Tryd.underlying25 inf23 rfl rfl rfl rfl) ?_
                first | refine o_q _ rfl rfl rfl (v_ld1 rfl Tryd.underlying23 rfl rfl rfl) ?_ | refine o_q _ rfl rfl rfl (v_lf1 rfl Tryd.underlying23 rfl rfl rfl) ?_ | refine o_q _ rfl rfl rfl (v_loadE1 rfl Tryd.underlying23 rfl rfl (by omega) rfl rfl) ?_
                refine o_q _ rfl rfl rfl (v_len rfl rfl Tryd.underlying23 rfl) ?_
                refine o_q _ rfl rfl rfl (v_move rfl rfl) ?_
                refine o_nil ?_
                repeat (first | with_reducible refine r_then ?_ | with_reducible refine r_in_normal ?_ | with_reducible refine r_sc_normal ?_)
                refine r_block ?_
                refine r_loop (ι := Nat) (fun k => k ≤ D.paid.length ∧ (1 ≤ D.people ∧ D.people ≤ 4) ∧ D.dues.length ≤ 6 ∧ D.paid.length ≤ 6 ∧ (∀ j, j < D.dues.length → DueOk D (D.dues.getD j default)) ∧ ∀ j, j < k → PaidOk D (D.paid.getD j default)) (fun k => [(1, .bool true), (2, pt b2 0), (54, .slice po D.paid.length pc), (55, i64 D.paid.length), (56, i64 k)]) (fun k => bx b2 25 (cellsD D uo po uc pc) :: M) (fun k => [rowD uo 5 encD D.dues, rowD po 4 encP D.paid] ++ Rf) (fun k => D.paid.length - k) 0 ?_ ?_ ?_
                ·
                  exact r_here (by repeat (first | exact FSub.nil | refine FSub.cons rfl ?_)) SelMC.sel SubRC.sub
                ·
                  exact ⟨Nat.zero_le _, by omega, by omega, by omega, (by have hk : k = D.dues.length := (by omega); rw [← hk]; exact hI0.2.2.2.2), fun j hj => absurd hj (by omega)⟩
                ·
                  rintro k hI1
                  have hwr : IntKind.i64.wrap (D.people - 1) = D.people - 1 := IntWalk.i64_in _ (by omega)
                  have hok := hg.paid k
                  unfold PaidOk at hok
                  refine r_seq ?_
                  refine r_region ?_
                  refine o_q _ rfl rfl rfl (v_lss rfl rfl rfl) ?_
                  refine o_nil ?_
                  repeat (first | with_reducible refine r_then ?_ | with_reducible refine r_in_normal ?_ | with_reducible refine r_sc_normal ?_)
                  refine r_seq ?_
                  first | refine r_condd rfl (fun hc57 => ?_) (fun hc57 => ?_) | refine r_cond rfl (fun hc57 => ?_) (fun hc57 => ?_)
                  ·
                    first
                    | (exfalso; revert hc57; decide)
                    | (exfalso; omega)
                    | skip
                      refine r_skip ?_
                      repeat (first | with_reducible refine r_then ?_ | with_reducible refine r_in_normal ?_ | with_reducible refine r_sc_normal ?_)
                      refine r_seq ?_
                      refine r_block ?_
                      refine r_seq ?_
                      refine r_region ?_
                      first | refine o_q _ rfl rfl rfl (v_indexAddrSn rfl Tryd.underlying23 inf54 rfl rfl rfl (by omega) rfl) ?_ | refine o_q _ rfl rfl rfl (v_indexAddrS rfl Tryd.underlying23 inf54 rfl rfl rfl (by omega) (by omega) rfl) ?_
                      refine o_q _ rfl rfl rfl (v_loadEN (us := encP (D.paid.getD k default)) rfl Tryd.underlying54 rfl inf54 rfl (by omega) rfl rfl rfl) ?_
                      refine o_alloc rfl inf54 rfl rfl rfl rfl rfl (fun b8 => ?_)
                      refine o_st rfl inf54 rfl rfl rfl rfl rfl rfl rfl rfl ?_
                      refine o_nil ?_
                      repeat (first | with_reducible refine r_then ?_ | with_reducible refine r_in_normal ?_ | with_reducible refine r_sc_normal ?_)
                      refine Imp.box_to b8 (encP (D.paid.getD k default)) rfl ?_
                      refine r_region ?_
                      first | refine o_q _ rfl rfl rfl (v_ldW rfl Tryd.underlying25 rfl inf25 rfl rfl) ?_ | refine o_q _ rfl rfl rfl (v_lfW rfl Tryd.underlying25 rfl inf25 rfl rfl) ?_ | refine o_q _ rfl rfl rfl (v_lfN rfl Tryd.underlying25 rfl inf25 rfl rfl rfl) ?_ | refine o_q _ rfl rfl rfl (v_ldN rfl Tryd.underlying25 rfl inf25 rfl rfl rfl) ?_ | refine o_q _ rfl rfl rfl (v_loadEN rfl Tryd.underlying25 rfl inf25 rfl (by omega) rfl rfl rfl) ?_
                      first | refine o_q _ rfl rfl rfl (v_fieldAddr rfl Tryd.underlying54 inf3 rfl rfl rfl rfl) ?_ | refine o_q _ rfl rfl rfl (v_fieldAddrE rfl Tryd.underlying54 inf3 rfl rfl rfl rfl) ?_
                      first | refine o_q _ rfl rfl rfl (v_ld1 rfl Tryd.underlying3 rfl rfl rfl) ?_ | refine o_q _ rfl rfl rfl (v_lf1 rfl Tryd.underlying3 rfl rfl rfl) ?_ | refine o_q _ rfl rfl rfl (v_loadE1 rfl Tryd.underlying3 rfl rfl (by omega) rfl rfl) ?_
                      first | refine o_q _ rfl rfl rfl (v_true (OpQ.fn (isWho_v D uo po uc pc (D.paid.getD k default).who) rfl rfl SubRC.sub) (by omega)) ?_ | refine o_q _ rfl rfl rfl (v_false (OpQ.fn (isWho_v D uo po uc pc (D.paid.getD k default).who) rfl rfl SubRC.sub) (by omega)) ?_ | refine o_test rfl rfl rfl (OpQ.fn (isWho_v D uo po uc pc (D.paid.getD k default).who) rfl rfl SubRC.sub) (fun h63 => ?_) (fun h63 => ?_)
                      all_goals
                        refine o_q _ rfl rfl rfl (v_move rfl rfl) ?_
                        first | refine o_gn rfl rfl rfl rfl ?_ | refine o_g _ rfl rfl rfl rfl (v_fieldAddr rfl Tryd.underlying54 inf3 rfl rfl rfl rfl) ?_ | refine o_g _ rfl rfl rfl rfl (v_fieldAddrE rfl Tryd.underlying54 inf3 rfl rfl rfl rfl) ?_
                        first | refine o_gn rfl rfl rfl rfl ?_ | refine o_g _ rfl rfl rfl rfl (v_ld1 rfl Tryd.underlying3 rfl rfl rfl) ?_ | refine o_g _ rfl rfl rfl rfl (v_lf1 rfl Tryd.underlying3 rfl rfl rfl) ?_ | refine o_g _ rfl rfl rfl rfl (v_loadE1 rfl Tryd.underlying3 rfl rfl (by omega) rfl rfl) ?_
                        first | refine o_gn rfl rfl rfl rfl ?_ | refine o_g _ rfl rfl rfl rfl (v_true (OpQ.fn (isDay_v _) rfl rfl SubRC.sub) (by omega)) ?_ | refine o_g _ rfl rfl rfl rfl (v_false (OpQ.fn (isDay_v _) rfl rfl SubRC.sub) (by omega)) ?_ | refine o_gtest rfl rfl rfl rfl (OpQ.fn (isDay_v _) rfl rfl SubRC.sub) (fun h67 => ?_) (fun h67 => ?_)
                        all_goals
                          first | refine o_q _ rfl rfl rfl (v_pick_t rfl rfl rfl) ?_ | refine o_q _ rfl rfl rfl (v_pick_f rfl rfl rfl) ?_
                          refine o_q _ rfl rfl rfl (v_move rfl rfl) ?_
                          first | refine o_gn rfl rfl rfl rfl ?_ | refine o_g _ rfl rfl rfl rfl (v_fieldAddr rfl Tryd.underlying54 inf29 rfl rfl rfl rfl) ?_ | refine o_g _ rfl rfl rfl rfl (v_fieldAddrE rfl Tryd.underlying54 inf29 rfl rfl rfl rfl) ?_
                          first | refine o_gn rfl rfl rfl rfl ?_ | refine o_g _ rfl rfl rfl rfl (v_ldW rfl Tryd.underlying29 rfl inf29 rfl rfl) ?_ | refine o_g _ rfl rfl rfl rfl (v_lfW rfl Tryd.underlying29 rfl inf29 rfl rfl) ?_ | refine o_g _ rfl rfl rfl rfl (v_lfN rfl Tryd.underlying29 rfl inf29 rfl rfl rfl) ?_ | refine o_g _ rfl rfl rfl rfl (v_ldN rfl Tryd.underlying29 rfl inf29 rfl rfl rfl) ?_ | refine o_g _ rfl rfl rfl rfl (v_loadEN rfl Tryd.underlying29 rfl inf29 rfl (by omega) rfl rfl rfl) ?_
                          first | refine o_gn rfl rfl rfl rfl ?_ | refine o_g _ rfl rfl rfl rfl (v_true (OpQ.fn (isSods_v (D.paid.getD k default).sods.lo (D.paid.getD k default).sods.hi) rfl rfl SubRC.sub) (by omega)) ?_ | refine o_g _ rfl rfl rfl rfl (v_false (OpQ.fn (isSods_v (D.paid.getD k default).sods.lo (D.paid.getD k default).sods.hi) rfl rfl SubRC.sub) (by omega)) ?_ | refine o_gtest rfl rfl rfl rfl (OpQ.fn (isSods_v (D.paid.getD k default).sods.lo (D.paid.getD k default).sods.hi) rfl rfl SubRC.sub) (fun h72 => ?_) (fun h72 => ?_)
                          all_goals
                            first | refine o_q _ rfl rfl rfl (v_pick_t rfl rfl rfl) ?_ | refine o_q _ rfl rfl rfl (v_pick_f rfl rfl rfl) ?_
                            first | refine o_q _ rfl rfl rfl (OpQ.fn (ask_t _) rfl rfl SubRC.sub) ?_ | refine o_fnx (ask_f _) rfl rfl rfl SubRC.sub ?_
                            repeat (first | with_reducible refine r_then_panic ?_ | with_reducible refine r_in_panic ?_ | with_reducible refine r_sc_panic ?_)
                            try ((exfalso; first | omega | (have hok2 := hok (by omega); first | omega | exact absurd hok2.2.2.1 (by assumption) | exact absurd hok2.2.2 (by assumption))))
                            all_goals
                              refine o_nil ?_
                              repeat (first | with_reducible refine r_then ?_ | with_reducible refine r_in_normal ?_ | with_reducible refine r_sc_normal ?_)
                              refine r_region ?_
                              refine o_q _ rfl rfl rfl (v_add rfl rfl rfl (by omega)) ?_
                              refine o_q _ rfl rfl rfl (v_move rfl rfl) ?_
                              refine o_nil ?_
                              repeat (first | with_reducible refine r_then ?_ | with_reducible refine r_in_normal ?_ | with_reducible refine r_sc_normal ?_)
                              refine r_next (k + 1) ?_ ?_ ?_
                              ·
                                exact r_here (by repeat (first | exact FSub.nil | refine FSub.cons rfl ?_)) SelMC.sel SubRC.sub
                              ·
                                exact ⟨by omega, by omega, by omega, by omega, hI1.2.2.2.2.1, all_step hI1.2.2.2.2.2 (by unfold PaidOk; refine ⟨by omega, by omega, by assumption⟩)⟩
                              ·
                                omega
                  ·
                    first
                    | (exfalso; revert hc57; decide)
                    | (exfalso; omega)
                    | skip
                      refine r_exit ?_
                      repeat (first | with_reducible refine r_then_exit ?_ | with_reducible refine r_sc_exit ?_ | with_reducible refine r_in_here ?_ | (with_reducible refine r_in_past (by decide) ?_) | with_reducible refine r_then ?_ | with_reducible refine r_in_normal ?_ | with_reducible refine r_sc_normal ?_)
                      refine r_seq ?_
                      refine r_region ?_
                      refine o_q _ rfl rfl rfl (v_move rfl rfl) ?_
                      first | refine o_q _ rfl rfl rfl (OpQ.fn (ask_t _) rfl rfl SubRC.sub) ?_ | refine o_fnx (ask_f _) rfl rfl rfl SubRC.sub ?_
                      repeat (first | with_reducible refine r_then_panic ?_ | with_reducible refine r_in_panic ?_ | with_reducible refine r_sc_panic ?_)
                      try ((exfalso; first | omega | (have hok2 := hok (by omega); first | omega | exact absurd hok2.2.2.1 (by assumption) | exact absurd hok2.2.2 (by assumption))))
                      all_goals
                        refine o_nil ?_
                        repeat (first | with_reducible refine r_then ?_ | with_reducible refine r_in_normal ?_ | with_reducible refine r_sc_normal ?_)
                        refine r_seq ?_
                        refine r_region ?_
                        first | refine o_q _ rfl rfl rfl (v_ldW rfl Tryd.underlying25 rfl inf25 rfl rfl) ?_ | refine o_q _ rfl rfl rfl (v_lfW rfl Tryd.underlying25 rfl inf25 rfl rfl) ?_ | refine o_q _ rfl rfl rfl (v_lfN rfl Tryd.underlying25 rfl inf25 rfl rfl rfl) ?_ | refine o_q _ rfl rfl rfl (v_ldN rfl Tryd.underlying25 rfl inf25 rfl rfl rfl) ?_ | refine o_q _ rfl rfl rfl (v_loadEN rfl Tryd.underlying25 rfl inf25 rfl (by omega) rfl rfl rfl) ?_
                        refine o_makeMapG (P := Tryd.prog) (k := 113) rfl rfl rfl rfl (fun b79 => ?_)
                        refine o_q _ rfl rfl rfl (v_bS rfl Tryd.underlying108 inf108 plt108 rfl rfl rfl (by repeat (first | exact trivial | refine ⟨rfl, ?_⟩)) (by rfl)) ?_
                        refine o_boxA rfl rfl rfl rfl rfl (fun b81 => ?_)
                        refine o_q _ rfl rfl rfl (v_assign rfl rfl) ?_
                        refine o_nil ?_
                        repeat (first | with_reducible refine r_then ?_ | with_reducible refine r_in_normal ?_ | with_reducible refine r_sc_normal ?_)
                        refine r_ret ?_
                        repeat (first | with_reducible refine r_then_ret ?_ | with_reducible refine r_in_ret ?_ | with_reducible refine r_sc_ret ?_)
                        refine Imp.box_to b81 [i64 D.people, .slice uo D.dues.length uc, .slice po D.paid.length pc, .map (some b79)] rfl ?_
                        refine led_pk D uo po uc pc b81 b79 (M' := M) SelMC.sel ?_
                        exact r_rete [ledR D uo po uc pc b81] [] (Rd.tmp rfl rfl) ⟨b81, rfl, rfl, rfl⟩ SelMC.sel SubRC.sub
set_option maxHeartbeats 4000000 in
theorem look_x2 (hl1 : D.dues.length ≤ 40) (hl2 : D.paid.length ≤ 40) (hg : GoodD D) : FnX Tryd.prog 44 [valD D uo po uc pc, .bool false] [rowD uo 5 encD D.dues, rowD po 4 encP D.paid] (.iface 103 (i64 2)) := by
  refine FnX.intro Tryd.call44 Tryd.func44 rfl Tryd.ntmps44 rfl ?_
  intro W M Rf
  refine r_seq ?_
  refine r_region ?_
  refine o_boxA rfl rfl rfl rfl rfl (fun b2 => ?_)
  refine o_q _ rfl rfl rfl (v_assign rfl rfl) ?_
  refine o_nil ?_
  repeat (first | with_reducible refine r_then ?_ | with_reducible refine r_in_normal ?_ | with_reducible refine r_sc_normal ?_)
  refine r_seq ?_
  have hq1 := hg.np
  have hq2 := hg.nd
  have hq3 := hg.ny
  refine r_region ?_
  first | refine o_q _ rfl rfl rfl (v_fieldAddr rfl Tryd.underlying25 inf3 rfl rfl rfl rfl) ?_ | refine o_q _ rfl rfl rfl (v_fieldAddrE rfl Tryd.underlying25 inf3 rfl rfl rfl rfl) ?_
  first | refine o_q _ rfl rfl rfl (v_ld1 rfl Tryd.underlying3 rfl rfl rfl) ?_ | refine o_q _ rfl rfl rfl (v_lf1 rfl Tryd.underlying3 rfl rfl rfl) ?_ | refine o_q _ rfl rfl rfl (v_loadE1 rfl Tryd.underlying3 rfl rfl (by omega) rfl rfl) ?_
  first | refine o_q _ rfl rfl rfl (v_true (OpQ.fn (within_v _ _ _) rfl rfl SubRC.sub) (by omega)) ?_ | refine o_q _ rfl rfl rfl (v_false (OpQ.fn (within_v _ _ _) rfl rfl SubRC.sub) (by omega)) ?_ | refine o_test rfl rfl rfl (OpQ.fn (within_v _ _ _) rfl rfl SubRC.sub) (fun h11 => ?_) (fun h11 => ?_)
  all_goals
    refine o_q _ rfl rfl rfl (v_move rfl rfl) ?_
    first | refine o_gn rfl rfl rfl rfl ?_ | refine o_g _ rfl rfl rfl rfl (v_fieldAddr rfl Tryd.underlying25 inf22 rfl rfl rfl rfl) ?_ | refine o_g _ rfl rfl rfl rfl (v_fieldAddrE rfl Tryd.underlying25 inf22 rfl rfl rfl rfl) ?_
    first | refine o_gn rfl rfl rfl rfl ?_ | refine o_g _ rfl rfl rfl rfl (v_ld1 rfl Tryd.underlying22 rfl rfl rfl) ?_ | refine o_g _ rfl rfl rfl rfl (v_lf1 rfl Tryd.underlying22 rfl rfl rfl) ?_ | refine o_g _ rfl rfl rfl rfl (v_loadE1 rfl Tryd.underlying22 rfl rfl (by omega) rfl rfl) ?_
    first | refine o_gn rfl rfl rfl rfl ?_ | refine o_g _ rfl rfl rfl rfl (v_len rfl rfl Tryd.underlying22 rfl) ?_
    first | refine o_gn rfl rfl rfl rfl ?_ | refine o_g _ rfl rfl rfl rfl (v_true (v_leq rfl rfl rfl) (by omega)) ?_ | refine o_g _ rfl rfl rfl rfl (v_false (v_leq rfl rfl rfl) (by omega)) ?_ | refine o_gtest rfl rfl rfl rfl (v_leq rfl rfl rfl) (fun h16 => ?_) (fun h16 => ?_)
    all_goals
      first | refine o_q _ rfl rfl rfl (v_pick_t rfl rfl rfl) ?_ | refine o_q _ rfl rfl rfl (v_pick_f rfl rfl rfl) ?_
      refine o_q _ rfl rfl rfl (v_move rfl rfl) ?_
      first | refine o_gn rfl rfl rfl rfl ?_ | refine o_g _ rfl rfl rfl rfl (v_fieldAddr rfl Tryd.underlying25 inf23 rfl rfl rfl rfl) ?_ | refine o_g _ rfl rfl rfl rfl (v_fieldAddrE rfl Tryd.underlying25 inf23 rfl rfl rfl rfl) ?_
      first | refine o_gn rfl rfl rfl rfl ?_ | refine o_g _ rfl rfl rfl rfl (v_ld1 rfl Tryd.underlying23 rfl rfl rfl) ?_ | refine o_g _ rfl rfl rfl rfl (v_lf1 rfl Tryd.underlying23 rfl rfl rfl) ?_ | refine o_g _ rfl rfl rfl rfl (v_loadE1 rfl Tryd.underlying23 rfl rfl (by omega) rfl rfl) ?_
      first | refine o_gn rfl rfl rfl rfl ?_ | refine o_g _ rfl rfl rfl rfl (v_len rfl rfl Tryd.underlying23 rfl) ?_
      first | refine o_gn rfl rfl rfl rfl ?_ | refine o_g _ rfl rfl rfl rfl (v_true (v_leq rfl rfl rfl) (by omega)) ?_ | refine o_g _ rfl rfl rfl rfl (v_false (v_leq rfl rfl rfl) (by omega)) ?_ | refine o_gtest rfl rfl rfl rfl (v_leq rfl rfl rfl) (fun h22 => ?_) (fun h22 => ?_)
      all_goals
        first | refine o_q _ rfl rfl rfl (v_pick_t rfl rfl rfl) ?_ | refine o_q _ rfl rfl rfl (v_pick_f rfl rfl rfl) ?_
        first | refine o_q _ rfl rfl rfl (OpQ.fn (ask_t _) rfl rfl SubRC.sub) ?_ | refine o_fnx (ask_f _) rfl rfl rfl SubRC.sub ?_
        repeat (first | with_reducible refine r_then_panic ?_ | with_reducible refine r_in_panic ?_ | with_reducible refine r_sc_panic ?_)
        try (first | exact r_retx SelMC.sel SubRC.sub | (exfalso; first | omega | (have hok2 := hok (by omega); first | omega | exact absurd hok2.2.2.1 (by assumption) | exact absurd hok2.2.2 (by assumption))))
        all_goals
          refine o_nil ?_
          repeat (first | with_reducible refine r_then ?_ | with_reducible refine r_in_normal ?_ | with_reducible refine r_sc_normal ?_)
          refine r_seq ?_
          refine r_seq ?_
          refine r_region ?_
          first | refine o_q _ rfl rfl rfl (v_fieldAddr rfl Tryd.underlying25 inf22 rfl rfl rfl rfl) ?_ | refine o_q _ rfl rfl rfl (v_fieldAddrE rfl Tryd.underlying25 inf22 rfl rfl rfl rfl) ?_
          first | refine o_q _ rfl rfl rfl (v_ld1 rfl Tryd.underlying22 rfl rfl rfl) ?_ | refine o_q _ rfl rfl rfl (v_lf1 rfl Tryd.underlying22 rfl rfl rfl) ?_ | refine o_q _ rfl rfl rfl (v_loadE1 rfl Tryd.underlying22 rfl rfl (by omega) rfl rfl) ?_
          refine o_q _ rfl rfl rfl (v_len rfl rfl Tryd.underlying22 rfl) ?_
          refine o_q _ rfl rfl rfl (v_move rfl rfl) ?_
          refine o_nil ?_
          repeat (first | with_reducible refine r_then ?_ | with_reducible refine r_in_normal ?_ | with_reducible refine r_sc_normal ?_)
          refine r_block ?_
          refine r_loop (ι := Nat) (fun k => k ≤ D.dues.length ∧ (1 ≤ D.people ∧ D.people ≤ 4) ∧ D.dues.length ≤ 6 ∧ D.paid.length ≤ 6 ∧ ∀ j, j < k → DueOk D (D.dues.getD j default)) (fun k => [(1, .bool false), (2, pt b2 0), (26, .slice uo D.dues.length uc), (27, i64 D.dues.length), (28, i64 k)]) (fun k => bx b2 25 (cellsD D uo po uc pc) :: M) (fun k => [rowD uo 5 encD D.dues, rowD po 4 encP D.paid] ++ Rf) (fun k => D.dues.length - k) 0 ?_ ?_ ?_
          ·
            exact r_here (by repeat (first | exact FSub.nil | refine FSub.cons rfl ?_)) SelMC.sel SubRC.sub
          ·
            exact ⟨Nat.zero_le _, by omega, by omega, by omega, fun j hj => absurd hj (by omega)⟩
          ·
            rintro k hI0
            have hwr : IntKind.i64.wrap (D.people - 1) = D.people - 1 := IntWalk.i64_in _ (by omega)
            have hok := hg.dues k
            unfold DueOk at hok
            refine r_seq ?_
            refine r_region ?_
            refine o_q _ rfl rfl rfl (v_lss rfl rfl rfl) ?_
            refine o_nil ?_
            repeat (first | with_reducible refine r_then ?_ | with_reducible refine r_in_normal ?_ | with_reducible refine r_sc_normal ?_)
            refine r_seq ?_
            first | refine r_condd rfl (fun hc29 => ?_) (fun hc29 => ?_) | refine r_cond rfl (fun hc29 => ?_) (fun hc29 => ?_)
            ·
              first
              | (exfalso; revert hc29; decide)
              | (exfalso; omega)
              | skip
                refine r_skip ?_
                repeat (first | with_reducible refine r_then ?_ | with_reducible refine r_in_normal ?_ | with_reducible refine r_sc_normal ?_)
                refine r_seq ?_
                refine r_block ?_
                refine r_seq ?_
                refine r_region ?_
                first | refine o_q _ rfl rfl rfl (v_indexAddrSn rfl Tryd.underlying22 inf62 rfl rfl rfl (by omega) rfl) ?_ | refine o_q _ rfl rfl rfl (v_indexAddrS rfl Tryd.underlying22 inf62 rfl rfl rfl (by omega) (by omega) rfl) ?_
                refine o_q _ rfl rfl rfl (v_loadEN (us := encD (D.dues.getD k default)) rfl Tryd.underlying62 rfl inf62 rfl (by omega) rfl rfl rfl) ?_
                refine o_alloc rfl inf62 rfl rfl rfl rfl rfl (fun b6 => ?_)
                refine o_st rfl inf62 rfl rfl rfl rfl rfl rfl rfl rfl ?_
                refine o_nil ?_
                repeat (first | with_reducible refine r_then ?_ | with_reducible refine r_in_normal ?_ | with_reducible refine r_sc_normal ?_)
                refine Imp.box_to b6 (encD (D.dues.getD k default)) rfl ?_
                refine r_region ?_
                first | refine o_q _ rfl rfl rfl (v_ldW rfl Tryd.underlying25 rfl inf25 rfl rfl) ?_ | refine o_q _ rfl rfl rfl (v_lfW rfl Tryd.underlying25 rfl inf25 rfl rfl) ?_ | refine o_q _ rfl rfl rfl (v_lfN rfl Tryd.underlying25 rfl inf25 rfl rfl rfl) ?_ | refine o_q _ rfl rfl rfl (v_ldN rfl Tryd.underlying25 rfl inf25 rfl rfl rfl) ?_ | refine o_q _ rfl rfl rfl (v_loadEN rfl Tryd.underlying25 rfl inf25 rfl (by omega) rfl rfl rfl) ?_
                first | refine o_q _ rfl rfl rfl (v_fieldAddr rfl Tryd.underlying62 inf3 rfl rfl rfl rfl) ?_ | refine o_q _ rfl rfl rfl (v_fieldAddrE rfl Tryd.underlying62 inf3 rfl rfl rfl rfl) ?_
                first | refine o_q _ rfl rfl rfl (v_ld1 rfl Tryd.underlying3 rfl rfl rfl) ?_ | refine o_q _ rfl rfl rfl (v_lf1 rfl Tryd.underlying3 rfl rfl rfl) ?_ | refine o_q _ rfl rfl rfl (v_loadE1 rfl Tryd.underlying3 rfl rfl (by omega) rfl rfl) ?_
                first | refine o_q _ rfl rfl rfl (v_true (OpQ.fn (isWho_v D uo po uc pc (D.dues.getD k default).who) rfl rfl SubRC.sub) (by omega)) ?_ | refine o_q _ rfl rfl rfl (v_false (OpQ.fn (isWho_v D uo po uc pc (D.dues.getD k default).who) rfl rfl SubRC.sub) (by omega)) ?_ | refine o_test rfl rfl rfl (OpQ.fn (isWho_v D uo po uc pc (D.dues.getD k default).who) rfl rfl SubRC.sub) (fun h35 => ?_) (fun h35 => ?_)
                all_goals
                  refine o_q _ rfl rfl rfl (v_move rfl rfl) ?_
                  first | refine o_gn rfl rfl rfl rfl ?_ | refine o_g _ rfl rfl rfl rfl (v_fieldAddr rfl Tryd.underlying62 inf3 rfl rfl rfl rfl) ?_ | refine o_g _ rfl rfl rfl rfl (v_fieldAddrE rfl Tryd.underlying62 inf3 rfl rfl rfl rfl) ?_
                  first | refine o_gn rfl rfl rfl rfl ?_ | refine o_g _ rfl rfl rfl rfl (v_ld1 rfl Tryd.underlying3 rfl rfl rfl) ?_ | refine o_g _ rfl rfl rfl rfl (v_lf1 rfl Tryd.underlying3 rfl rfl rfl) ?_ | refine o_g _ rfl rfl rfl rfl (v_loadE1 rfl Tryd.underlying3 rfl rfl (by omega) rfl rfl) ?_
                  first | refine o_gn rfl rfl rfl rfl ?_ | refine o_g _ rfl rfl rfl rfl (v_true (OpQ.fn (isDay_v _) rfl rfl SubRC.sub) (by omega)) ?_ | refine o_g _ rfl rfl rfl rfl (v_false (OpQ.fn (isDay_v _) rfl rfl SubRC.sub) (by omega)) ?_ | refine o_gtest rfl rfl rfl rfl (OpQ.fn (isDay_v _) rfl rfl SubRC.sub) (fun h39 => ?_) (fun h39 => ?_)
                  all_goals
                    first | refine o_q _ rfl rfl rfl (v_pick_t rfl rfl rfl) ?_ | refine o_q _ rfl rfl rfl (v_pick_f rfl rfl rfl) ?_
                    refine o_q _ rfl rfl rfl (v_move rfl rfl) ?_
                    first | refine o_gn rfl rfl rfl rfl ?_ | refine o_g _ rfl rfl rfl rfl (v_fieldAddr rfl Tryd.underlying62 inf29 rfl rfl rfl rfl) ?_ | refine o_g _ rfl rfl rfl rfl (v_fieldAddrE rfl Tryd.underlying62 inf29 rfl rfl rfl rfl) ?_
                    first | refine o_gn rfl rfl rfl rfl ?_ | refine o_g _ rfl rfl rfl rfl (v_ldW rfl Tryd.underlying29 rfl inf29 rfl rfl) ?_ | refine o_g _ rfl rfl rfl rfl (v_lfW rfl Tryd.underlying29 rfl inf29 rfl rfl) ?_ | refine o_g _ rfl rfl rfl rfl (v_lfN rfl Tryd.underlying29 rfl inf29 rfl rfl rfl) ?_ | refine o_g _ rfl rfl rfl rfl (v_ldN rfl Tryd.underlying29 rfl inf29 rfl rfl rfl) ?_ | refine o_g _ rfl rfl rfl rfl (v_loadEN rfl Tryd.underlying29 rfl inf29 rfl (by omega) rfl rfl rfl) ?_
                    first | refine o_gn rfl rfl rfl rfl ?_ | refine o_g _ rfl rfl rfl rfl (v_true (OpQ.fn (isSods_v (D.dues.getD k default).sods.lo (D.dues.getD k default).sods.hi) rfl rfl SubRC.sub) (by omega)) ?_ | refine o_g _ rfl rfl rfl rfl (v_false (OpQ.fn (isSods_v (D.dues.getD k default).sods.lo (D.dues.getD k default).sods.hi) rfl rfl SubRC.sub) (by omega)) ?_ | refine o_gtest rfl rfl rfl rfl (OpQ.fn (isSods_v (D.dues.getD k default).sods.lo (D.dues.getD k default).sods.hi) rfl rfl SubRC.sub) (fun h44 => ?_) (fun h44 => ?_)
                    all_goals
                      first | refine o_q _ rfl rfl rfl (v_pick_t rfl rfl rfl) ?_ | refine o_q _ rfl rfl rfl (v_pick_f rfl rfl rfl) ?_
                      refine o_q _ rfl rfl rfl (v_move rfl rfl) ?_
                      first | refine o_gn rfl rfl rfl rfl ?_ | refine o_g _ rfl rfl rfl rfl (v_fieldAddr rfl Tryd.underlying62 inf3 rfl rfl rfl rfl) ?_ | refine o_g _ rfl rfl rfl rfl (v_fieldAddrE rfl Tryd.underlying62 inf3 rfl rfl rfl rfl) ?_
                      first | refine o_gn rfl rfl rfl rfl ?_ | refine o_g _ rfl rfl rfl rfl (v_ld1 rfl Tryd.underlying3 rfl rfl rfl) ?_ | refine o_g _ rfl rfl rfl rfl (v_lf1 rfl Tryd.underlying3 rfl rfl rfl) ?_ | refine o_g _ rfl rfl rfl rfl (v_loadE1 rfl Tryd.underlying3 rfl rfl (by omega) rfl rfl) ?_
                      first | refine o_gn rfl rfl rfl rfl ?_ | refine o_g _ rfl rfl rfl rfl (v_true (OpQ.fn (within_v _ _ _) rfl rfl SubRC.sub) (by omega)) ?_ | refine o_g _ rfl rfl rfl rfl (v_false (OpQ.fn (within_v _ _ _) rfl rfl SubRC.sub) (by omega)) ?_ | refine o_gtest rfl rfl rfl rfl (OpQ.fn (within_v _ _ _) rfl rfl SubRC.sub) (fun h49 => ?_) (fun h49 => ?_)
                      all_goals
                        first | refine o_q _ rfl rfl rfl (v_pick_t rfl rfl rfl) ?_ | refine o_q _ rfl rfl rfl (v_pick_f rfl rfl rfl) ?_
                        first | refine o_q _ rfl rfl rfl (OpQ.fn (ask_t _) rfl rfl SubRC.sub) ?_ | refine o_fnx (ask_f _) rfl rfl rfl SubRC.sub ?_
                        repeat (first | with_reducible refine r_then_panic ?_ | with_reducible refine r_in_panic ?_ | with_reducible refine r_sc_panic ?_)
                        try (first | exact r_retx SelMC.sel SubRC.sub | (exfalso; first | omega | (have hok2 := hok (by omega); first | omega | exact absurd hok2.2.2.1 (by assumption) | exact absurd hok2.2.2 (by assumption))))
                        all_goals
                          refine o_nil ?_
                          repeat (first | with_reducible refine r_then ?_ | with_reducible refine r_in_normal ?_ | with_reducible refine r_sc_normal ?_)
                          refine r_region ?_
                          refine o_q _ rfl rfl rfl (v_add rfl rfl rfl (by omega)) ?_
                          refine o_q _ rfl rfl rfl (v_move rfl rfl) ?_
                          refine o_nil ?_
                          repeat (first | with_reducible refine r_then ?_ | with_reducible refine r_in_normal ?_ | with_reducible refine r_sc_normal ?_)
                          refine r_next (k + 1) ?_ ?_ ?_
                          ·
                            exact r_here (by repeat (first | exact FSub.nil | refine FSub.cons rfl ?_)) SelMC.sel SubRC.sub
                          ·
                            exact ⟨by omega, by omega, by omega, by omega, all_step hI0.2.2.2.2 (by unfold DueOk; refine ⟨by omega, by omega, by assumption, by omega⟩)⟩
                          ·
                            omega
            ·
              first
              | (exfalso; revert hc29; decide)
              | (exfalso; omega)
              | skip
                refine r_exit ?_
                repeat (first | with_reducible refine r_then_exit ?_ | with_reducible refine r_sc_exit ?_ | with_reducible refine r_in_here ?_ | (with_reducible refine r_in_past (by decide) ?_) | with_reducible refine r_then ?_ | with_reducible refine r_in_normal ?_ | with_reducible refine r_sc_normal ?_)
                refine r_seq ?_
                refine r_seq ?_
                refine r_region ?_
                first | refine o_q _ rfl rfl rfl (v_fieldAddr rfl Tryd.underlying25 inf23 rfl rfl rfl rfl) ?_ | refine o_q _ rfl rfl rfl (v_fieldAddrE rfl Tryd.underlying25 inf23 rfl rfl rfl rfl) ?_
                first | refine o_q _ rfl rfl rfl (v_ld1 rfl Tryd.underlying23 rfl rfl rfl) ?_ | refine o_q _ rfl rfl rfl (v_lf1 rfl Tryd.underlying23 rfl rfl rfl) ?_ | refine o_q _ rfl rfl rfl (v_loadE1 rfl Tryd.underlying23 rfl rfl (by omega) rfl rfl) ?_
                refine o_q _ rfl rfl rfl (v_len rfl rfl Tryd.underlying23 rfl) ?_
                refine o_q _ rfl rfl rfl (v_move rfl rfl) ?_
                refine o_nil ?_
                repeat (first | with_reducible refine r_then ?_ | with_reducible refine r_in_normal ?_ | with_reducible refine r_sc_normal ?_)
                refine r_block ?_
                refine r_loop (ι := Nat) (fun k => k ≤ D.paid.length ∧ (1 ≤ D.people ∧ D.people ≤ 4) ∧ D.dues.length ≤ 6 ∧ D.paid.length ≤ 6 ∧ (∀ j, j < D.dues.length → DueOk D (D.dues.getD j default)) ∧ ∀ j, j < k → PaidOk D (D.paid.getD j default)) (fun k => [(1, .bool false), (2, pt b2 0), (54, .slice po D.paid.length pc), (55, i64 D.paid.length), (56, i64 k)]) (fun k => bx b2 25 (cellsD D uo po uc pc) :: M) (fun k => [rowD uo 5 encD D.dues, rowD po 4 encP D.paid] ++ Rf) (fun k => D.paid.length - k) 0 ?_ ?_ ?_
                ·
                  exact r_here (by repeat (first | exact FSub.nil | refine FSub.cons rfl ?_)) SelMC.sel SubRC.sub
                ·
                  exact ⟨Nat.zero_le _, by omega, by omega, by omega, (by have hk : k = D.dues.length := (by omega); rw [← hk]; exact hI0.2.2.2.2), fun j hj => absurd hj (by omega)⟩
                ·
                  rintro k hI1
                  have hwr : IntKind.i64.wrap (D.people - 1) = D.people - 1 := IntWalk.i64_in _ (by omega)
                  have hok := hg.paid k
                  unfold PaidOk at hok
                  refine r_seq ?_
                  refine r_region ?_
                  refine o_q _ rfl rfl rfl (v_lss rfl rfl rfl) ?_
                  refine o_nil ?_
                  repeat (first | with_reducible refine r_then ?_ | with_reducible refine r_in_normal ?_ | with_reducible refine r_sc_normal ?_)
                  refine r_seq ?_
                  first | refine r_condd rfl (fun hc57 => ?_) (fun hc57 => ?_) | refine r_cond rfl (fun hc57 => ?_) (fun hc57 => ?_)
                  ·
                    first
                    | (exfalso; revert hc57; decide)
                    | (exfalso; omega)
                    | skip
                      refine r_skip ?_
                      repeat (first | with_reducible refine r_then ?_ | with_reducible refine r_in_normal ?_ | with_reducible refine r_sc_normal ?_)
                      refine r_seq ?_
                      refine r_block ?_
                      refine r_seq ?_
                      refine r_region ?_
                      first | refine o_q _ rfl rfl rfl (v_indexAddrSn rfl Tryd.underlying23 inf54 rfl rfl rfl (by omega) rfl) ?_ | refine o_q _ rfl rfl rfl (v_indexAddrS rfl Tryd.underlying23 inf54 rfl rfl rfl (by omega) (by omega) rfl) ?_
                      refine o_q _ rfl rfl rfl (v_loadEN (us := encP (D.paid.getD k default)) rfl Tryd.underlying54 rfl inf54 rfl (by omega) rfl rfl rfl) ?_
                      refine o_alloc rfl inf54 rfl rfl rfl rfl rfl (fun b8 => ?_)
                      refine o_st rfl inf54 rfl rfl rfl rfl rfl rfl rfl rfl ?_
                      refine o_nil ?_
                      repeat (first | with_reducible refine r_then ?_ | with_reducible refine r_in_normal ?_ | with_reducible refine r_sc_normal ?_)
                      refine Imp.box_to b8 (encP (D.paid.getD k default)) rfl ?_
                      refine r_region ?_
                      first | refine o_q _ rfl rfl rfl (v_ldW rfl Tryd.underlying25 rfl inf25 rfl rfl) ?_ | refine o_q _ rfl rfl rfl (v_lfW rfl Tryd.underlying25 rfl inf25 rfl rfl) ?_ | refine o_q _ rfl rfl rfl (v_lfN rfl Tryd.underlying25 rfl inf25 rfl rfl rfl) ?_ | refine o_q _ rfl rfl rfl (v_ldN rfl Tryd.underlying25 rfl inf25 rfl rfl rfl) ?_ | refine o_q _ rfl rfl rfl (v_loadEN rfl Tryd.underlying25 rfl inf25 rfl (by omega) rfl rfl rfl) ?_
                      first | refine o_q _ rfl rfl rfl (v_fieldAddr rfl Tryd.underlying54 inf3 rfl rfl rfl rfl) ?_ | refine o_q _ rfl rfl rfl (v_fieldAddrE rfl Tryd.underlying54 inf3 rfl rfl rfl rfl) ?_
                      first | refine o_q _ rfl rfl rfl (v_ld1 rfl Tryd.underlying3 rfl rfl rfl) ?_ | refine o_q _ rfl rfl rfl (v_lf1 rfl Tryd.underlying3 rfl rfl rfl) ?_ | refine o_q _ rfl rfl rfl (v_loadE1 rfl Tryd.underlying3 rfl rfl (by omega) rfl rfl) ?_
                      first | refine o_q _ rfl rfl rfl (v_true (OpQ.fn (isWho_v D uo po uc pc (D.paid.getD k default).who) rfl rfl SubRC.sub) (by omega)) ?_ | refine o_q _ rfl rfl rfl (v_false (OpQ.fn (isWho_v D uo po uc pc (D.paid.getD k default).who) rfl rfl SubRC.sub) (by omega)) ?_ | refine o_test rfl rfl rfl (OpQ.fn (isWho_v D uo po uc pc (D.paid.getD k default).who) rfl rfl SubRC.sub) (fun h63 => ?_) (fun h63 => ?_)
                      all_goals
                        refine o_q _ rfl rfl rfl (v_move rfl rfl) ?_
                        first | refine o_gn rfl rfl rfl rfl ?_ | refine o_g _ rfl rfl rfl rfl (v_fieldAddr rfl Tryd.underlying54 inf3 rfl rfl rfl rfl) ?_ | refine o_g _ rfl rfl rfl rfl (v_fieldAddrE rfl Tryd.underlying54 inf3 rfl rfl rfl rfl) ?_
                        first | refine o_gn rfl rfl rfl rfl ?_ | refine o_g _ rfl rfl rfl rfl (v_ld1 rfl Tryd.underlying3 rfl rfl rfl) ?_ | refine o_g _ rfl rfl rfl rfl (v_lf1 rfl Tryd.underlying3 rfl rfl rfl) ?_ | refine o_g _ rfl rfl rfl rfl (v_loadE1 rfl Tryd.underlying3 rfl rfl (by omega) rfl rfl) ?_
                        first | refine o_gn rfl rfl rfl rfl ?_ | refine o_g _ rfl rfl rfl rfl (v_true (OpQ.fn (isDay_v _) rfl rfl SubRC.sub) (by omega)) ?_ | refine o_g _ rfl rfl rfl rfl (v_false (OpQ.fn (isDay_v _) rfl rfl SubRC.sub) (by omega)) ?_ | refine o_gtest rfl rfl rfl rfl (OpQ.fn (isDay_v _) rfl rfl SubRC.sub) (fun h67 => ?_) (fun h67 => ?_)
                        all_goals
                          first | refine o_q _ rfl rfl rfl (v_pick_t rfl rfl rfl) ?_ | refine o_q _ rfl rfl rfl (v_pick_f rfl rfl rfl) ?_
                          refine o_q _ rfl rfl rfl (v_move rfl rfl) ?_
                          first | refine o_gn rfl rfl rfl rfl ?_ | refine o_g _ rfl rfl rfl rfl (v_fieldAddr rfl Tryd.underlying54 inf29 rfl rfl rfl rfl) ?_ | refine o_g _ rfl rfl rfl rfl (v_fieldAddrE rfl Tryd.underlying54 inf29 rfl rfl rfl rfl) ?_
                          first | refine o_gn rfl rfl rfl rfl ?_ | refine o_g _ rfl rfl rfl rfl (v_ldW rfl Tryd.underlying29 rfl inf29 rfl rfl) ?_ | refine o_g _ rfl rfl rfl rfl (v_lfW rfl Tryd.underlying29 rfl inf29 rfl rfl) ?_ | refine o_g _ rfl rfl rfl rfl (v_lfN rfl Tryd.underlying29 rfl inf29 rfl rfl rfl) ?_ | refine o_g _ rfl rfl rfl rfl (v_ldN rfl Tryd.underlying29 rfl inf29 rfl rfl rfl) ?_ | refine o_g _ rfl rfl rfl rfl (v_loadEN rfl Tryd.underlying29 rfl inf29 rfl (by omega) rfl rfl rfl) ?_
                          first | refine o_gn rfl rfl rfl rfl ?_ | refine o_g _ rfl rfl rfl rfl (v_true (OpQ.fn (isSods_v (D.paid.getD k default).sods.lo (D.paid.getD k default).sods.hi) rfl rfl SubRC.sub) (by omega)) ?_ | refine o_g _ rfl rfl rfl rfl (v_false (OpQ.fn (isSods_v (D.paid.getD k default).sods.lo (D.paid.getD k default).sods.hi) rfl rfl SubRC.sub) (by omega)) ?_ | refine o_gtest rfl rfl rfl rfl (OpQ.fn (isSods_v (D.paid.getD k default).sods.lo (D.paid.getD k default).sods.hi) rfl rfl SubRC.sub) (fun h72 => ?_) (fun h72 => ?_)
                          all_goals
                            first | refine o_q _ rfl rfl rfl (v_pick_t rfl rfl rfl) ?_ | refine o_q _ rfl rfl rfl (v_pick_f rfl rfl rfl) ?_
                            first | refine o_q _ rfl rfl rfl (OpQ.fn (ask_t _) rfl rfl SubRC.sub) ?_ | refine o_fnx (ask_f _) rfl rfl rfl SubRC.sub ?_
                            repeat (first | with_reducible refine r_then_panic ?_ | with_reducible refine r_in_panic ?_ | with_reducible refine r_sc_panic ?_)
                            try (first | exact r_retx SelMC.sel SubRC.sub | (exfalso; first | omega | (have hok2 := hok (by omega); first | omega | exact absurd hok2.2.2.1 (by assumption) | exact absurd hok2.2.2 (by assumption))))
                            all_goals
                              refine o_nil ?_
                              repeat (first | with_reducible refine r_then ?_ | with_reducible refine r_in_normal ?_ | with_reducible refine r_sc_normal ?_)
                              refine r_region ?_
                              refine o_q _ rfl rfl rfl (v_add rfl rfl rfl (by omega)) ?_
                              refine o_q _ rfl rfl rfl (v_move rfl rfl) ?_
                              refine o_nil ?_
                              repeat (first | with_reducible refine r_then ?_ | with_reducible refine r_in_normal ?_ | with_reducible refine r_sc_normal ?_)
                              refine r_next (k + 1) ?_ ?_ ?_
                              ·
                                exact r_here (by repeat (first | exact FSub.nil | refine FSub.cons rfl ?_)) SelMC.sel SubRC.sub
                              ·
                                exact ⟨by omega, by omega, by omega, by omega, hI1.2.2.2.2.1, all_step hI1.2.2.2.2.2 (by unfold PaidOk; refine ⟨by omega, by omega, by assumption⟩)⟩
                              ·
                                omega
                  ·
                    first
                    | (exfalso; revert hc57; decide)
                    | (exfalso; omega)
                    | skip
                      refine r_exit ?_
                      repeat (first | with_reducible refine r_then_exit ?_ | with_reducible refine r_sc_exit ?_ | with_reducible refine r_in_here ?_ | (with_reducible refine r_in_past (by decide) ?_) | with_reducible refine r_then ?_ | with_reducible refine r_in_normal ?_ | with_reducible refine r_sc_normal ?_)
                      refine r_seq ?_
                      refine r_region ?_
                      refine o_q _ rfl rfl rfl (v_move rfl rfl) ?_
                      first | refine o_q _ rfl rfl rfl (OpQ.fn (ask_t _) rfl rfl SubRC.sub) ?_ | refine o_fnx (ask_f _) rfl rfl rfl SubRC.sub ?_
                      repeat (first | with_reducible refine r_then_panic ?_ | with_reducible refine r_in_panic ?_ | with_reducible refine r_sc_panic ?_)
                      try (first | exact r_retx SelMC.sel SubRC.sub | (exfalso; first | omega | (have hok2 := hok (by omega); first | omega | exact absurd hok2.2.2.1 (by assumption) | exact absurd hok2.2.2 (by assumption))))
                      all_goals
                        refine o_nil ?_
                        repeat (first | with_reducible refine r_then ?_ | with_reducible refine r_in_normal ?_ | with_reducible refine r_sc_normal ?_)
                        refine r_seq ?_
                        skip
set_option maxHeartbeats 4000000 in
theorem look_x1t (hl1 : D.dues.length ≤ 40) (hl2 : D.paid.length ≤ 40) (hng : ¬ GoodD D) : FnX Tryd.prog 44 [valD D uo po uc pc, .bool true] [rowD uo 5 encD D.dues, rowD po 4 encP D.paid] (.iface 103 (i64 1)) := by
  refine FnX.intro Tryd.call44 Tryd.func44 rfl Tryd.ntmps44 rfl ?_
  intro W M Rf
  refine r_seq ?_
  refine r_region ?_
  refine o_boxA rfl rfl rfl rfl rfl (fun b2 => ?_)
  refine o_q _ rfl rfl rfl (v_assign rfl rfl) ?_
  refine o_nil ?_
  repeat (first | with_reducible refine r_then ?_ | with_reducible refine r_in_normal ?_ | with_reducible refine r_sc_normal ?_)
  refine r_seq ?_
  refine r_region ?_
  first | refine o_q _ rfl rfl rfl (v_fieldAddr rfl Tryd.underlying25 inf3 rfl rfl rfl rfl) ?_ | refine o_q _ rfl rfl rfl (v_fieldAddrE rfl Tryd.underlying25 inf3 rfl rfl rfl rfl) ?_
  first | refine o_q _ rfl rfl rfl (v_ld1 rfl Tryd.underlying3 rfl rfl rfl) ?_ | refine o_q _ rfl rfl rfl (v_lf1 rfl Tryd.underlying3 rfl rfl rfl) ?_ | refine o_q _ rfl rfl rfl (v_loadE1 rfl Tryd.underlying3 rfl rfl (by omega) rfl rfl) ?_
  first | refine o_q _ rfl rfl rfl (v_true (OpQ.fn (within_v _ _ _) rfl rfl SubRC.sub) (by omega)) ?_ | refine o_q _ rfl rfl rfl (v_false (OpQ.fn (within_v _ _ _) rfl rfl SubRC.sub) (by omega)) ?_ | refine o_test rfl rfl rfl (OpQ.fn (within_v _ _ _) rfl rfl SubRC.sub) (fun h11 => ?_) (fun h11 => ?_)
  all_goals
    refine o_q _ rfl rfl rfl (v_move rfl rfl) ?_
    first | refine o_gn rfl rfl rfl rfl ?_ | refine o_g _ rfl rfl rfl rfl (v_fieldAddr rfl Tryd.underlying25 inf22 rfl rfl rfl rfl) ?_ | refine o_g _ rfl rfl rfl rfl (v_fieldAddrE rfl Tryd.underlying25 inf22 rfl rfl rfl rfl) ?_
    first | refine o_gn rfl rfl rfl rfl ?_ | refine o_g _ rfl rfl rfl rfl (v_ld1 rfl Tryd.underlying22 rfl rfl rfl) ?_ | refine o_g _ rfl rfl rfl rfl (v_lf1 rfl Tryd.underlying22 rfl rfl rfl) ?_ | refine o_g _ rfl rfl rfl rfl (v_loadE1 rfl Tryd.underlying22 rfl rfl (by omega) rfl rfl) ?_
    first | refine o_gn rfl rfl rfl rfl ?_ | refine o_g _ rfl rfl rfl rfl (v_len rfl rfl Tryd.underlying22 rfl) ?_
    first | refine o_gn rfl rfl rfl rfl ?_ | refine o_g _ rfl rfl rfl rfl (v_true (v_leq rfl rfl rfl) (by omega)) ?_ | refine o_g _ rfl rfl rfl rfl (v_false (v_leq rfl rfl rfl) (by omega)) ?_ | refine o_gtest rfl rfl rfl rfl (v_leq rfl rfl rfl) (fun h16 => ?_) (fun h16 => ?_)
    all_goals
      first | refine o_q _ rfl rfl rfl (v_pick_t rfl rfl rfl) ?_ | refine o_q _ rfl rfl rfl (v_pick_f rfl rfl rfl) ?_
      refine o_q _ rfl rfl rfl (v_move rfl rfl) ?_
      first | refine o_gn rfl rfl rfl rfl ?_ | refine o_g _ rfl rfl rfl rfl (v_fieldAddr rfl Tryd.underlying25 inf23 rfl rfl rfl rfl) ?_ | refine o_g _ rfl rfl rfl rfl (v_fieldAddrE rfl Tryd.underlying25 inf23 rfl rfl rfl rfl) ?_
      first | refine o_gn rfl rfl rfl rfl ?_ | refine o_g _ rfl rfl rfl rfl (v_ld1 rfl Tryd.underlying23 rfl rfl rfl) ?_ | refine o_g _ rfl rfl rfl rfl (v_lf1 rfl Tryd.underlying23 rfl rfl rfl) ?_ | refine o_g _ rfl rfl rfl rfl (v_loadE1 rfl Tryd.underlying23 rfl rfl (by omega) rfl rfl) ?_
      first | refine o_gn rfl rfl rfl rfl ?_ | refine o_g _ rfl rfl rfl rfl (v_len rfl rfl Tryd.underlying23 rfl) ?_
      first | refine o_gn rfl rfl rfl rfl ?_ | refine o_g _ rfl rfl rfl rfl (v_true (v_leq rfl rfl rfl) (by omega)) ?_ | refine o_g _ rfl rfl rfl rfl (v_false (v_leq rfl rfl rfl) (by omega)) ?_ | refine o_gtest rfl rfl rfl rfl (v_leq rfl rfl rfl) (fun h22 => ?_) (fun h22 => ?_)
      all_goals
        first | refine o_q _ rfl rfl rfl (v_pick_t rfl rfl rfl) ?_ | refine o_q _ rfl rfl rfl (v_pick_f rfl rfl rfl) ?_
        first | refine o_q _ rfl rfl rfl (OpQ.fn (ask_t _) rfl rfl SubRC.sub) ?_ | refine o_fnx (ask_f _) rfl rfl rfl SubRC.sub ?_
        repeat (first | with_reducible refine r_then_panic ?_ | with_reducible refine r_in_panic ?_ | with_reducible refine r_sc_panic ?_)
        try (exact r_retx SelMC.sel SubRC.sub)
        all_goals
          refine o_nil ?_
          repeat (first | with_reducible refine r_then ?_ | with_reducible refine r_in_normal ?_ | with_reducible refine r_sc_normal ?_)
          refine r_seq ?_
          refine r_seq ?_
          refine r_region ?_
          first | refine o_q _ rfl rfl rfl (v_fieldAddr rfl Tryd.underlying25 inf22 rfl rfl rfl rfl) ?_ | refine o_q _ rfl rfl rfl (v_fieldAddrE rfl Tryd.underlying25 inf22 rfl rfl rfl rfl) ?_
          first | refine o_q _ rfl rfl rfl (v_ld1 rfl Tryd.underlying22 rfl rfl rfl) ?_ | refine o_q _ rfl rfl rfl (v_lf1 rfl Tryd.underlying22 rfl rfl rfl) ?_ | refine o_q _ rfl rfl rfl (v_loadE1 rfl Tryd.underlying22 rfl rfl (by omega) rfl rfl) ?_
          refine o_q _ rfl rfl rfl (v_len rfl rfl Tryd.underlying22 rfl) ?_
          refine o_q _ rfl rfl rfl (v_move rfl rfl) ?_
          refine o_nil ?_
          repeat (first | with_reducible refine r_then ?_ | with_reducible refine r_in_normal ?_ | with_reducible refine r_sc_normal ?_)
          refine r_block ?_
          refine r_loop (ι := Nat) (fun k => k ≤ D.dues.length ∧ (1 ≤ D.people ∧ D.people ≤ 4) ∧ D.dues.length ≤ 6 ∧ D.paid.length ≤ 6 ∧ ∀ j, j < k → DueOk D (D.dues.getD j default)) (fun k => [(1, .bool true), (2, pt b2 0), (26, .slice uo D.dues.length uc), (27, i64 D.dues.length), (28, i64 k)]) (fun k => bx b2 25 (cellsD D uo po uc pc) :: M) (fun k => [rowD uo 5 encD D.dues, rowD po 4 encP D.paid] ++ Rf) (fun k => D.dues.length - k) 0 ?_ ?_ ?_
          ·
            exact r_here (by repeat (first | exact FSub.nil | refine FSub.cons rfl ?_)) SelMC.sel SubRC.sub
          ·
            exact ⟨Nat.zero_le _, by omega, by omega, by omega, fun j hj => absurd hj (by omega)⟩
          ·
            rintro k hI0
            have hwr : IntKind.i64.wrap (D.people - 1) = D.people - 1 := IntWalk.i64_in _ (by omega)
            refine r_seq ?_
            refine r_region ?_
            refine o_q _ rfl rfl rfl (v_lss rfl rfl rfl) ?_
            refine o_nil ?_
            repeat (first | with_reducible refine r_then ?_ | with_reducible refine r_in_normal ?_ | with_reducible refine r_sc_normal ?_)
            refine r_seq ?_
            first | refine r_condd rfl (fun hc29 => ?_) (fun hc29 => ?_) | refine r_cond rfl (fun hc29 => ?_) (fun hc29 => ?_)
            ·
              first
              | (exfalso; revert hc29; decide)
              | (exfalso; omega)
              | skip
                refine r_skip ?_
                repeat (first | with_reducible refine r_then ?_ | with_reducible refine r_in_normal ?_ | with_reducible refine r_sc_normal ?_)
                refine r_seq ?_
                refine r_block ?_
                refine r_seq ?_
                refine r_region ?_
                first | refine o_q _ rfl rfl rfl (v_indexAddrSn rfl Tryd.underlying22 inf62 rfl rfl rfl (by omega) rfl) ?_ | refine o_q _ rfl rfl rfl (v_indexAddrS rfl Tryd.underlying22 inf62 rfl rfl rfl (by omega) (by omega) rfl) ?_
                refine o_q _ rfl rfl rfl (v_loadEN (us := encD (D.dues.getD k default)) rfl Tryd.underlying62 rfl inf62 rfl (by omega) rfl rfl rfl) ?_
                refine o_alloc rfl inf62 rfl rfl rfl rfl rfl (fun b6 => ?_)
                refine o_st rfl inf62 rfl rfl rfl rfl rfl rfl rfl rfl ?_
                refine o_nil ?_
                repeat (first | with_reducible refine r_then ?_ | with_reducible refine r_in_normal ?_ | with_reducible refine r_sc_normal ?_)
                refine Imp.box_to b6 (encD (D.dues.getD k default)) rfl ?_
                refine r_region ?_
                first | refine o_q _ rfl rfl rfl (v_ldW rfl Tryd.underlying25 rfl inf25 rfl rfl) ?_ | refine o_q _ rfl rfl rfl (v_lfW rfl Tryd.underlying25 rfl inf25 rfl rfl) ?_ | refine o_q _ rfl rfl rfl (v_lfN rfl Tryd.underlying25 rfl inf25 rfl rfl rfl) ?_ | refine o_q _ rfl rfl rfl (v_ldN rfl Tryd.underlying25 rfl inf25 rfl rfl rfl) ?_ | refine o_q _ rfl rfl rfl (v_loadEN rfl Tryd.underlying25 rfl inf25 rfl (by omega) rfl rfl rfl) ?_
                first | refine o_q _ rfl rfl rfl (v_fieldAddr rfl Tryd.underlying62 inf3 rfl rfl rfl rfl) ?_ | refine o_q _ rfl rfl rfl (v_fieldAddrE rfl Tryd.underlying62 inf3 rfl rfl rfl rfl) ?_
                first | refine o_q _ rfl rfl rfl (v_ld1 rfl Tryd.underlying3 rfl rfl rfl) ?_ | refine o_q _ rfl rfl rfl (v_lf1 rfl Tryd.underlying3 rfl rfl rfl) ?_ | refine o_q _ rfl rfl rfl (v_loadE1 rfl Tryd.underlying3 rfl rfl (by omega) rfl rfl) ?_
                first | refine o_q _ rfl rfl rfl (v_true (OpQ.fn (isWho_v D uo po uc pc (D.dues.getD k default).who) rfl rfl SubRC.sub) (by omega)) ?_ | refine o_q _ rfl rfl rfl (v_false (OpQ.fn (isWho_v D uo po uc pc (D.dues.getD k default).who) rfl rfl SubRC.sub) (by omega)) ?_ | refine o_test rfl rfl rfl (OpQ.fn (isWho_v D uo po uc pc (D.dues.getD k default).who) rfl rfl SubRC.sub) (fun h35 => ?_) (fun h35 => ?_)
                all_goals
                  refine o_q _ rfl rfl rfl (v_move rfl rfl) ?_
                  first | refine o_gn rfl rfl rfl rfl ?_ | refine o_g _ rfl rfl rfl rfl (v_fieldAddr rfl Tryd.underlying62 inf3 rfl rfl rfl rfl) ?_ | refine o_g _ rfl rfl rfl rfl (v_fieldAddrE rfl Tryd.underlying62 inf3 rfl rfl rfl rfl) ?_
                  first | refine o_gn rfl rfl rfl rfl ?_ | refine o_g _ rfl rfl rfl rfl (v_ld1 rfl Tryd.underlying3 rfl rfl rfl) ?_ | refine o_g _ rfl rfl rfl rfl (v_lf1 rfl Tryd.underlying3 rfl rfl rfl) ?_ | refine o_g _ rfl rfl rfl rfl (v_loadE1 rfl Tryd.underlying3 rfl rfl (by omega) rfl rfl) ?_
                  first | refine o_gn rfl rfl rfl rfl ?_ | refine o_g _ rfl rfl rfl rfl (v_true (OpQ.fn (isDay_v _) rfl rfl SubRC.sub) (by omega)) ?_ | refine o_g _ rfl rfl rfl rfl (v_false (OpQ.fn (isDay_v _) rfl rfl SubRC.sub) (by omega)) ?_ | refine o_gtest rfl rfl rfl rfl (OpQ.fn (isDay_v _) rfl rfl SubRC.sub) (fun h39 => ?_) (fun h39 => ?_)
                  all_goals
                    first | refine o_q _ rfl rfl rfl (v_pick_t rfl rfl rfl) ?_ | refine o_q _ rfl rfl rfl (v_pick_f rfl rfl rfl) ?_
                    refine o_q _ rfl rfl rfl (v_move rfl rfl) ?_
                    first | refine o_gn rfl rfl rfl rfl ?_ | refine o_g _ rfl rfl rfl rfl (v_fieldAddr rfl Tryd.underlying62 inf29 rfl rfl rfl rfl) ?_ | refine o_g _ rfl rfl rfl rfl (v_fieldAddrE rfl Tryd.underlying62 inf29 rfl rfl rfl rfl) ?_
                    first | refine o_gn rfl rfl rfl rfl ?_ | refine o_g _ rfl rfl rfl rfl (v_ldW rfl Tryd.underlying29 rfl inf29 rfl rfl) ?_ | refine o_g _ rfl rfl rfl rfl (v_lfW rfl Tryd.underlying29 rfl inf29 rfl rfl) ?_ | refine o_g _ rfl rfl rfl rfl (v_lfN rfl Tryd.underlying29 rfl inf29 rfl rfl rfl) ?_ | refine o_g _ rfl rfl rfl rfl (v_ldN rfl Tryd.underlying29 rfl inf29 rfl rfl rfl) ?_ | refine o_g _ rfl rfl rfl rfl (v_loadEN rfl Tryd.underlying29 rfl inf29 rfl (by omega) rfl rfl rfl) ?_
                    first | refine o_gn rfl rfl rfl rfl ?_ | refine o_g _ rfl rfl rfl rfl (v_true (OpQ.fn (isSods_v (D.dues.getD k default).sods.lo (D.dues.getD k default).sods.hi) rfl rfl SubRC.sub) (by omega)) ?_ | refine o_g _ rfl rfl rfl rfl (v_false (OpQ.fn (isSods_v (D.dues.getD k default).sods.lo (D.dues.getD k default).sods.hi) rfl rfl SubRC.sub) (by omega)) ?_ | refine o_gtest rfl rfl rfl rfl (OpQ.fn (isSods_v (D.dues.getD k default).sods.lo (D.dues.getD k default).sods.hi) rfl rfl SubRC.sub) (fun h44 => ?_) (fun h44 => ?_)
                    all_goals
                      first | refine o_q _ rfl rfl rfl (v_pick_t rfl rfl rfl) ?_ | refine o_q _ rfl rfl rfl (v_pick_f rfl rfl rfl) ?_
                      refine o_q _ rfl rfl rfl (v_move rfl rfl) ?_
                      first | refine o_gn rfl rfl rfl rfl ?_ | refine o_g _ rfl rfl rfl rfl (v_fieldAddr rfl Tryd.underlying62 inf3 rfl rfl rfl rfl) ?_ | refine o_g _ rfl rfl rfl rfl (v_fieldAddrE rfl Tryd.underlying62 inf3 rfl rfl rfl rfl) ?_
                      first | refine o_gn rfl rfl rfl rfl ?_ | refine o_g _ rfl rfl rfl rfl (v_ld1 rfl Tryd.underlying3 rfl rfl rfl) ?_ | refine o_g _ rfl rfl rfl rfl (v_lf1 rfl Tryd.underlying3 rfl rfl rfl) ?_ | refine o_g _ rfl rfl rfl rfl (v_loadE1 rfl Tryd.underlying3 rfl rfl (by omega) rfl rfl) ?_
                      first | refine o_gn rfl rfl rfl rfl ?_ | refine o_g _ rfl rfl rfl rfl (v_true (OpQ.fn (within_v _ _ _) rfl rfl SubRC.sub) (by omega)) ?_ | refine o_g _ rfl rfl rfl rfl (v_false (OpQ.fn (within_v _ _ _) rfl rfl SubRC.sub) (by omega)) ?_ | refine o_gtest rfl rfl rfl rfl (OpQ.fn (within_v _ _ _) rfl rfl SubRC.sub) (fun h49 => ?_) (fun h49 => ?_)
                      all_goals
                        first | refine o_q _ rfl rfl rfl (v_pick_t rfl rfl rfl) ?_ | refine o_q _ rfl rfl rfl (v_pick_f rfl rfl rfl) ?_
                        first | refine o_q _ rfl rfl rfl (OpQ.fn (ask_t _) rfl rfl SubRC.sub) ?_ | refine o_fnx (ask_f _) rfl rfl rfl SubRC.sub ?_
                        repeat (first | with_reducible refine r_then_panic ?_ | with_reducible refine r_in_panic ?_ | with_reducible refine r_sc_panic ?_)
                        try (exact r_retx SelMC.sel SubRC.sub)
                        all_goals
                          refine o_nil ?_
                          repeat (first | with_reducible refine r_then ?_ | with_reducible refine r_in_normal ?_ | with_reducible refine r_sc_normal ?_)
                          refine r_region ?_
                          refine o_q _ rfl rfl rfl (v_add rfl rfl rfl (by omega)) ?_
                          refine o_q _ rfl rfl rfl (v_move rfl rfl) ?_
                          refine o_nil ?_
                          repeat (first | with_reducible refine r_then ?_ | with_reducible refine r_in_normal ?_ | with_reducible refine r_sc_normal ?_)
                          refine r_next (k + 1) ?_ ?_ ?_
                          ·
                            exact r_here (by repeat (first | exact FSub.nil | refine FSub.cons rfl ?_)) SelMC.sel SubRC.sub
                          ·
                            exact ⟨by omega, by omega, by omega, by omega, all_step hI0.2.2.2.2 (by unfold DueOk; refine ⟨by omega, by omega, by assumption, by omega⟩)⟩
                          ·
                            omega
            ·
              first
              | (exfalso; revert hc29; decide)
              | (exfalso; omega)
              | skip
                refine r_exit ?_
                repeat (first | with_reducible refine r_then_exit ?_ | with_reducible refine r_sc_exit ?_ | with_reducible refine r_in_here ?_ | (with_reducible refine r_in_past (by decide) ?_) | with_reducible refine r_then ?_ | with_reducible refine r_in_normal ?_ | with_reducible refine r_sc_normal ?_)
                refine r_seq ?_
                refine r_seq ?_
                refine r_region ?_
                first | refine o_q _ rfl rfl rfl (v_fieldAddr rfl Tryd.underlying25 inf23 rfl rfl rfl rfl) ?_ | refine o_q _ rfl rfl rfl (v_fieldAddrE rfl Tryd.underlying25 inf23 rfl rfl rfl rfl) ?_
                first | refine o_q _ rfl rfl rfl (v_ld1 rfl Tryd.underlying23 rfl rfl rfl) ?_ | refine o_q _ rfl rfl rfl (v_lf1 rfl Tryd.underlying23 rfl rfl rfl) ?_ | refine o_q _ rfl rfl rfl (v_loadE1 rfl Tryd.underlying23 rfl rfl (by omega) rfl rfl) ?_
                refine o_q _ rfl rfl rfl (v_len rfl rfl Tryd.underlying23 rfl) ?_
                refine o_q _ rfl rfl rfl (v_move rfl rfl) ?_
                refine o_nil ?_
                repeat (first | with_reducible refine r_then ?_ | with_reducible refine r_in_normal ?_ | with_reducible refine r_sc_normal ?_)
                refine r_block ?_
                refine r_loop (ι := Nat) (fun k => k ≤ D.paid.length ∧ (1 ≤ D.people ∧ D.people ≤ 4) ∧ D.dues.length ≤ 6 ∧ D.paid.length ≤ 6 ∧ (∀ j, j < D.dues.length → DueOk D (D.dues.getD j default)) ∧ ∀ j, j < k → PaidOk D (D.paid.getD j default)) (fun k => [(1, .bool true), (2, pt b2 0), (54, .slice po D.paid.length pc), (55, i64 D.paid.length), (56, i64 k)]) (fun k => bx b2 25 (cellsD D uo po uc pc) :: M) (fun k => [rowD uo 5 encD D.dues, rowD po 4 encP D.paid] ++ Rf) (fun k => D.paid.length - k) 0 ?_ ?_ ?_
                ·
                  exact r_here (by repeat (first | exact FSub.nil | refine FSub.cons rfl ?_)) SelMC.sel SubRC.sub
                ·
                  exact ⟨Nat.zero_le _, by omega, by omega, by omega, (by have hk : k = D.dues.length := (by omega); rw [← hk]; exact hI0.2.2.2.2), fun j hj => absurd hj (by omega)⟩
                ·
                  rintro k hI1
                  have hwr : IntKind.i64.wrap (D.people - 1) = D.people - 1 := IntWalk.i64_in _ (by omega)
                  refine r_seq ?_
                  refine r_region ?_
                  refine o_q _ rfl rfl rfl (v_lss rfl rfl rfl) ?_
                  refine o_nil ?_
                  repeat (first | with_reducible refine r_then ?_ | with_reducible refine r_in_normal ?_ | with_reducible refine r_sc_normal ?_)
                  refine r_seq ?_
                  first | refine r_condd rfl (fun hc57 => ?_) (fun hc57 => ?_) | refine r_cond rfl (fun hc57 => ?_) (fun hc57 => ?_)
                  ·
                    first
                    | (exfalso; revert hc57; decide)
                    | (exfalso; omega)
                    | skip
                      refine r_skip ?_
                      repeat (first | with_reducible refine r_then ?_ | with_reducible refine r_in_normal ?_ | with_reducible refine r_sc_normal ?_)
                      refine r_seq ?_
                      refine r_block ?_
                      refine r_seq ?_
                      refine r_region ?_
                      first | refine o_q _ rfl rfl rfl (v_indexAddrSn rfl Tryd.underlying23 inf54 rfl rfl rfl (by omega) rfl) ?_ | refine o_q _ rfl rfl rfl (v_indexAddrS rfl Tryd.underlying23 inf54 rfl rfl rfl (by omega) (by omega) rfl) ?_
                      refine o_q _ rfl rfl rfl (v_loadEN (us := encP (D.paid.getD k default)) rfl Tryd.underlying54 rfl inf54 rfl (by omega) rfl rfl rfl) ?_
                      refine o_alloc rfl inf54 rfl rfl rfl rfl rfl (fun b8 => ?_)
                      refine o_st rfl inf54 rfl rfl rfl rfl rfl rfl rfl rfl ?_
                      refine o_nil ?_
                      repeat (first | with_reducible refine r_then ?_ | with_reducible refine r_in_normal ?_ | with_reducible refine r_sc_normal ?_)
                      refine Imp.box_to b8 (encP (D.paid.getD k default)) rfl ?_
                      refine r_region ?_
                      first | refine o_q _ rfl rfl rfl (v_ldW rfl Tryd.underlying25 rfl inf25 rfl rfl) ?_ | refine o_q _ rfl rfl rfl (v_lfW rfl Tryd.underlying25 rfl inf25 rfl rfl) ?_ | refine o_q _ rfl rfl rfl (v_lfN rfl Tryd.underlying25 rfl inf25 rfl rfl rfl) ?_ | refine o_q _ rfl rfl rfl (v_ldN rfl Tryd.underlying25 rfl inf25 rfl rfl rfl) ?_ | refine o_q _ rfl rfl rfl (v_loadEN rfl Tryd.underlying25 rfl inf25 rfl (by omega) rfl rfl rfl) ?_
                      first | refine o_q _ rfl rfl rfl (v_fieldAddr rfl Tryd.underlying54 inf3 rfl rfl rfl rfl) ?_ | refine o_q _ rfl rfl rfl (v_fieldAddrE rfl Tryd.underlying54 inf3 rfl rfl rfl rfl) ?_
                      first | refine o_q _ rfl rfl rfl (v_ld1 rfl Tryd.underlying3 rfl rfl rfl) ?_ | refine o_q _ rfl rfl rfl (v_lf1 rfl Tryd.underlying3 rfl rfl rfl) ?_ | refine o_q _ rfl rfl rfl (v_loadE1 rfl Tryd.underlying3 rfl rfl (by omega) rfl rfl) ?_
                      first | refine o_q _ rfl rfl rfl (v_true (OpQ.fn (isWho_v D uo po uc pc (D.paid.getD k default).who) rfl rfl SubRC.sub) (by omega)) ?_ | refine o_q _ rfl rfl rfl (v_false (OpQ.fn (isWho_v D uo po uc pc (D.paid.getD k default).who) rfl rfl SubRC.sub) (by omega)) ?_ | refine o_test rfl rfl rfl (OpQ.fn (isWho_v D uo po uc pc (D.paid.getD k default).who) rfl rfl SubRC.sub) (fun h63 => ?_) (fun h63 => ?_)
                      all_goals
                        refine o_q _ rfl rfl rfl (v_move rfl rfl) ?_
                        first | refine o_gn rfl rfl rfl rfl ?_ | refine o_g _ rfl rfl rfl rfl (v_fieldAddr rfl Tryd.underlying54 inf3 rfl rfl rfl rfl) ?_ | refine o_g _ rfl rfl rfl rfl (v_fieldAddrE rfl Tryd.underlying54 inf3 rfl rfl rfl rfl) ?_
                        first | refine o_gn rfl rfl rfl rfl ?_ | refine o_g _ rfl rfl rfl rfl (v_ld1 rfl Tryd.underlying3 rfl rfl rfl) ?_ | refine o_g _ rfl rfl rfl rfl (v_lf1 rfl Tryd.underlying3 rfl rfl rfl) ?_ | refine o_g _ rfl rfl rfl rfl (v_loadE1 rfl Tryd.underlying3 rfl rfl (by omega) rfl rfl) ?_
                        first | refine o_gn rfl rfl rfl rfl ?_ | refine o_g _ rfl rfl rfl rfl (v_true (OpQ.fn (isDay_v _) rfl rfl SubRC.sub) (by omega)) ?_ | refine o_g _ rfl rfl rfl rfl (v_false (OpQ.fn (isDay_v _) rfl rfl SubRC.sub) (by omega)) ?_ | refine o_gtest rfl rfl rfl rfl (OpQ.fn (isDay_v _) rfl rfl SubRC.sub) (fun h67 => ?_) (fun h67 => ?_)
                        all_goals
                          first | refine o_q _ rfl rfl rfl (v_pick_t rfl rfl rfl) ?_ | refine o_q _ rfl rfl rfl (v_pick_f rfl rfl rfl) ?_
                          refine o_q _ rfl rfl rfl (v_move rfl rfl) ?_
                          first | refine o_gn rfl rfl rfl rfl ?_ | refine o_g _ rfl rfl rfl rfl (v_fieldAddr rfl Tryd.underlying54 inf29 rfl rfl rfl rfl) ?_ | refine o_g _ rfl rfl rfl rfl (v_fieldAddrE rfl Tryd.underlying54 inf29 rfl rfl rfl rfl) ?_
                          first | refine o_gn rfl rfl rfl rfl ?_ | refine o_g _ rfl rfl rfl rfl (v_ldW rfl Tryd.underlying29 rfl inf29 rfl rfl) ?_ | refine o_g _ rfl rfl rfl rfl (v_lfW rfl Tryd.underlying29 rfl inf29 rfl rfl) ?_ | refine o_g _ rfl rfl rfl rfl (v_lfN rfl Tryd.underlying29 rfl inf29 rfl rfl rfl) ?_ | refine o_g _ rfl rfl rfl rfl (v_ldN rfl Tryd.underlying29 rfl inf29 rfl rfl rfl) ?_ | refine o_g _ rfl rfl rfl rfl (v_loadEN rfl Tryd.underlying29 rfl inf29 rfl (by omega) rfl rfl rfl) ?_
                          first | refine o_gn rfl rfl rfl rfl ?_ | refine o_g _ rfl rfl rfl rfl (v_true (OpQ.fn (isSods_v (D.paid.getD k default).sods.lo (D.paid.getD k default).sods.hi) rfl rfl SubRC.sub) (by omega)) ?_ | refine o_g _ rfl rfl rfl rfl (v_false (OpQ.fn (isSods_v (D.paid.getD k default).sods.lo (D.paid.getD k default).sods.hi) rfl rfl SubRC.sub) (by omega)) ?_ | refine o_gtest rfl rfl rfl rfl (OpQ.fn (isSods_v (D.paid.getD k default).sods.lo (D.paid.getD k default).sods.hi) rfl rfl SubRC.sub) (fun h72 => ?_) (fun h72 => ?_)
                          all_goals
                            first | refine o_q _ rfl rfl rfl (v_pick_t rfl rfl rfl) ?_ | refine o_q _ rfl rfl rfl (v_pick_f rfl rfl rfl) ?_
                            first | refine o_q _ rfl rfl rfl (OpQ.fn (ask_t _) rfl rfl SubRC.sub) ?_ | refine o_fnx (ask_f _) rfl rfl rfl SubRC.sub ?_
                            repeat (first | with_reducible refine r_then_panic ?_ | with_reducible refine r_in_panic ?_ | with_reducible refine r_sc_panic ?_)
                            try (exact r_retx SelMC.sel SubRC.sub)
                            all_goals
                              refine o_nil ?_
                              repeat (first | with_reducible refine r_then ?_ | with_reducible refine r_in_normal ?_ | with_reducible refine r_sc_normal ?_)
                              refine r_region ?_
                              refine o_q _ rfl rfl rfl (v_add rfl rfl rfl (by omega)) ?_
                              refine o_q _ rfl rfl rfl (v_move rfl rfl) ?_
                              refine o_nil ?_
                              repeat (first | with_reducible refine r_then ?_ | with_reducible refine r_in_normal ?_ | with_reducible refine r_sc_normal ?_)
                              refine r_next (k + 1) ?_ ?_ ?_
                              ·
                                exact r_here (by repeat (first | exact FSub.nil | refine FSub.cons rfl ?_)) SelMC.sel SubRC.sub
                              ·
                                exact ⟨by omega, by omega, by omega, by omega, hI1.2.2.2.2.1, all_step hI1.2.2.2.2.2 (by unfold PaidOk; refine ⟨by omega, by omega, by assumption⟩)⟩
                              ·
                                omega
                  ·
                    first
                    | (exfalso; revert hc57; decide)
                    | (exfalso; omega)
                    | skip
                      refine r_exit ?_
                      repeat (first | with_reducible refine r_then_exit ?_ | with_reducible refine r_sc_exit ?_ | with_reducible refine r_in_here ?_ | (with_reducible refine r_in_past (by decide) ?_) | with_reducible refine r_then ?_ | with_reducible refine r_in_normal ?_ | with_reducible refine r_sc_normal ?_)
                      refine r_seq ?_
                      exfalso
                      obtain rfl : k = D.paid.length := by omega
                      exact hng ⟨by omega, by omega, by omega, hI1.2.2.2.2.1, hI1.2.2.2.2.2⟩
set_option maxHeartbeats 4000000 in
theorem look_x1f (hl1 : D.dues.length ≤ 40) (hl2 : D.paid.length ≤ 40) (hng : ¬ GoodD D) : FnX Tryd.prog 44 [valD D uo po uc pc, .bool false] [rowD uo 5 encD D.dues, rowD po 4 encP D.paid] (.iface 103 (i64 1)) := by
  refine FnX.intro Tryd.call44 Tryd.func44 rfl Tryd.ntmps44 rfl ?_
  intro W M Rf
  refine r_seq ?_
  refine r_region ?_
  refine o_boxA rfl rfl rfl rfl rfl (fun b2 => ?_)
  refine o_q _ rfl rfl rfl (v_assign rfl rfl) ?_
  refine o_nil ?_
  repeat (first | with_reducible refine r_then ?_ | with_reducible refine r_in_normal ?_ | with_reducible refine r_sc_normal ?_)
  refine r_seq ?_
  refine r_region ?_
  first | refine o_q _ rfl rfl rfl (v_fieldAddr rfl Tryd.underlying25 inf3 rfl rfl rfl rfl) ?_ | refine o_q _ rfl rfl rfl (v_fieldAddrE rfl Tryd.underlying25 inf3 rfl rfl rfl rfl) ?_
  first | refine o_q _ rfl rfl rfl (v_ld1 rfl Tryd.underlying3 rfl rfl rfl) ?_ | refine o_q _ rfl rfl rfl (v_lf1 rfl Tryd.underlying3 rfl rfl rfl) ?_ | refine o_q _ rfl rfl rfl (v_loadE1 rfl Tryd.underlying3 rfl rfl (by omega) rfl rfl) ?_
  first | refine o_q _ rfl rfl rfl (v_true (OpQ.fn (within_v _ _ _) rfl rfl SubRC.sub) (by omega)) ?_ | refine o_q _ rfl rfl rfl (v_false (OpQ.fn (within_v _ _ _) rfl rfl SubRC.sub) (by omega)) ?_ | refine o_test rfl rfl rfl (OpQ.fn (within_v _ _ _) rfl rfl SubRC.sub) (fun h11 => ?_) (fun h11 => ?_)
  all_goals
    refine o_q _ rfl rfl rfl (v_move rfl rfl) ?_
    first | refine o_gn rfl rfl rfl rfl ?_ | refine o_g _ rfl rfl rfl rfl (v_fieldAddr rfl Tryd.underlying25 inf22 rfl rfl rfl rfl) ?_ | refine o_g _ rfl rfl rfl rfl (v_fieldAddrE rfl Tryd.underlying25 inf22 rfl rfl rfl rfl) ?_
    first | refine o_gn rfl rfl rfl rfl ?_ | refine o_g _ rfl rfl rfl rfl (v_ld1 rfl Tryd.underlying22 rfl rfl rfl) ?_ | refine o_g _ rfl rfl rfl rfl (v_lf1 rfl Tryd.underlying22 rfl rfl rfl) ?_ | refine o_g _ rfl rfl rfl rfl (v_loadE1 rfl Tryd.underlying22 rfl rfl (by omega) rfl rfl) ?_
    first | refine o_gn rfl rfl rfl rfl ?_ | refine o_g _ rfl rfl rfl rfl (v_len rfl rfl Tryd.underlying22 rfl) ?_
    first | refine o_gn rfl rfl rfl rfl ?_ | refine o_g _ rfl rfl rfl rfl (v_true (v_leq rfl rfl rfl) (by omega)) ?_ | refine o_g _ rfl rfl rfl rfl (v_false (v_leq rfl rfl rfl) (by omega)) ?_ | refine o_gtest rfl rfl rfl rfl (v_leq rfl rfl rfl) (fun h16 => ?_) (fun h16 => ?_)
    all_goals
      first | refine o_q _ rfl rfl rfl (v_pick_t rfl rfl rfl) ?_ | refine o_q _ rfl rfl rfl (v_pick_f rfl rfl rfl) ?_
      refine o_q _ rfl rfl rfl (v_move rfl rfl) ?_
      first | refine o_gn rfl rfl rfl rfl ?_ | refine o_g _ rfl rfl rfl rfl (v_fieldAddr rfl Tryd.underlying25 inf23 rfl rfl rfl rfl) ?_ | refine o_g _ rfl rfl rfl rfl (v_fieldAddrE rfl Tryd.underlying25 inf23 rfl rfl rfl rfl) ?_
      first | refine o_gn rfl rfl rfl rfl ?_ | refine o_g _ rfl rfl rfl rfl (v_ld1 rfl Tryd.underlying23 rfl rfl rfl) ?_ | refine o_g _ rfl rfl rfl rfl (v_lf1 rfl Tryd.underlying23 rfl rfl rfl) ?_ | refine o_g _ rfl rfl rfl rfl (v_loadE1 rfl Tryd.underlying23 rfl rfl (by omega) rfl rfl) ?_
      first | refine o_gn rfl rfl rfl rfl ?_ | refine o_g _ rfl rfl rfl rfl (v_len rfl rfl Tryd.underlying23 rfl) ?_
      first | refine o_gn rfl rfl rfl rfl ?_ | refine o_g _ rfl rfl rfl rfl (v_true (v_leq rfl rfl rfl) (by omega)) ?_ | refine o_g _ rfl rfl rfl rfl (v_false (v_leq rfl rfl rfl) (by omega)) ?_ | refine o_gtest rfl rfl rfl rfl (v_leq rfl rfl rfl) (fun h22 => ?_) (fun h22 => ?_)
      all_goals
        first | refine o_q _ rfl rfl rfl (v_pick_t rfl rfl rfl) ?_ | refine o_q _ rfl rfl rfl (v_pick_f rfl rfl rfl) ?_
        first | refine o_q _ rfl rfl rfl (OpQ.fn (ask_t _) rfl rfl SubRC.sub) ?_ | refine o_fnx (ask_f _) rfl rfl rfl SubRC.sub ?_
        repeat (first | with_reducible refine r_then_panic ?_ | with_reducible refine r_in_panic ?_ | with_reducible refine r_sc_panic ?_)
        try (exact r_retx SelMC.sel SubRC.sub)
        all_goals
          refine o_nil ?_
          repeat (first | with_reducible refine r_then ?_ | with_reducible refine r_in_normal ?_ | with_reducible refine r_sc_normal ?_)
          refine r_seq ?_
          refine r_seq ?_
          refine r_region ?_
          first | refine o_q _ rfl rfl rfl (v_fieldAddr rfl Tryd.underlying25 inf22 rfl rfl rfl rfl) ?_ | refine o_q _ rfl rfl rfl (v_fieldAddrE rfl Tryd.underlying25 inf22 rfl rfl rfl rfl) ?_
          first | refine o_q _ rfl rfl rfl (v_ld1 rfl Tryd.underlying22 rfl rfl rfl) ?_ | refine o_q _ rfl rfl rfl (v_lf1 rfl Tryd.underlying22 rfl rfl rfl) ?_ | refine o_q _ rfl rfl rfl (v_loadE1 rfl Tryd.underlying22 rfl rfl (by omega) rfl rfl) ?_
          refine o_q _ rfl rfl rfl (v_len rfl rfl Tryd.underlying22 rfl) ?_
          refine o_q _ rfl rfl rfl (v_move rfl rfl) ?_
          refine o_nil ?_
          repeat (first | with_reducible refine r_then ?_ | with_reducible refine r_in_normal ?_ | with_reducible refine r_sc_normal ?_)
          refine r_block ?_
          refine r_loop (ι := Nat) (fun k => k ≤ D.dues.length ∧ (1 ≤ D.people ∧ D.people ≤ 4) ∧ D.dues.length ≤ 6 ∧ D.paid.length ≤ 6 ∧ ∀ j, j < k → DueOk D (D.dues.getD j default)) (fun k => [(1, .bool false), (2, pt b2 0), (26, .slice uo D.dues.length uc), (27, i64 D.dues.length), (28, i64 k)]) (fun k => bx b2 25 (cellsD D uo po uc pc) :: M) (fun k => [rowD uo 5 encD D.dues, rowD po 4 encP D.paid] ++ Rf) (fun k => D.dues.length - k) 0 ?_ ?_ ?_
          ·
            exact r_here (by repeat (first | exact FSub.nil | refine FSub.cons rfl ?_)) SelMC.sel SubRC.sub
          ·
            exact ⟨Nat.zero_le _, by omega, by omega, by omega, fun j hj => absurd hj (by omega)⟩
          ·
            rintro k hI0
            have hwr : IntKind.i64.wrap (D.people - 1) = D.people - 1 := IntWalk.i64_in _ (by omega)
            refine r_seq ?_
            refine r_region ?_
            refine o_q _ rfl rfl rfl (v_lss rfl rfl rfl) ?_
            refine o_nil ?_
            repeat (first | with_reducible refine r_then ?_ | with_reducible refine r_in_normal ?_ | with_reducible refine r_sc_normal ?_)
            refine r_seq ?_
            first | refine r_condd rfl (fun hc29 => ?_) (fun hc29 => ?_) | refine r_cond rfl (fun hc29 => ?_) (fun hc29 => ?_)
            ·
              first
              | (exfalso; revert hc29; decide)
              | (exfalso; omega)
              | skip
                refine r_skip ?_
                repeat (first | with_reducible refine r_then ?_ | with_reducible refine r_in_normal ?_ | with_reducible refine r_sc_normal ?_)
                refine r_seq ?_
                refine r_block ?_
                refine r_seq ?_
                refine r_region ?_
                first | refine o_q _ rfl rfl rfl (v_indexAddrSn rfl Tryd.underlying22 inf62 rfl rfl rfl (by omega) rfl) ?_ | refine o_q _ rfl rfl rfl (v_indexAddrS rfl Tryd.underlying22 inf62 rfl rfl rfl (by omega) (by omega) rfl) ?_
                refine o_q _ rfl rfl rfl (v_loadEN (us := encD (D.dues.getD k default)) rfl Tryd.underlying62 rfl inf62 rfl (by omega) rfl rfl rfl) ?_
                refine o_alloc rfl inf62 rfl rfl rfl rfl rfl (fun b6 => ?_)
                refine o_st rfl inf62 rfl rfl rfl rfl rfl rfl rfl rfl ?_
                refine o_nil ?_
                repeat (first | with_reducible refine r_then ?_ | with_reducible refine r_in_normal ?_ | with_reducible refine r_sc_normal ?_)
                refine Imp.box_to b6 (encD (D.dues.getD k default)) rfl ?_
                refine r_region ?_
                first | refine o_q _ rfl rfl rfl (v_ldW rfl Tryd.underlying25 rfl inf25 rfl rfl) ?_ | refine o_q _ rfl rfl rfl (v_lfW rfl Tryd.underlying25 rfl inf25 rfl rfl) ?_ | refine o_q _ rfl rfl rfl (v_lfN rfl Tryd.underlying25 rfl inf25 rfl rfl rfl) ?_ | refine o_q _ rfl rfl rfl (v_ldN rfl Tryd.underlying25 rfl inf25 rfl rfl rfl) ?_ | refine o_q _ rfl rfl rfl (v_loadEN rfl Tryd.underlying25 rfl inf25 rfl (by omega) rfl rfl rfl) ?_
                first | refine o_q _ rfl rfl rfl (v_fieldAddr rfl Tryd.underlying62 inf3 rfl rfl rfl rfl) ?_ | refine o_q _ rfl rfl rfl (v_fieldAddrE rfl Tryd.underlying62 inf3 rfl rfl rfl rfl) ?_
                first | refine o_q _ rfl rfl rfl (v_ld1 rfl Tryd.underlying3 rfl rfl rfl) ?_ | refine o_q _ rfl rfl rfl (v_lf1 rfl Tryd.underlying3 rfl rfl rfl) ?_ | refine o_q _ rfl rfl rfl (v_loadE1 rfl Tryd.underlying3 rfl rfl (by omega) rfl rfl) ?_
                first | refine o_q _ rfl rfl rfl (v_true (OpQ.fn (isWho_v D uo po uc pc (D.dues.getD k default).who) rfl rfl SubRC.sub) (by omega)) ?_ | refine o_q _ rfl rfl rfl (v_false (OpQ.fn (isWho_v D uo po uc pc (D.dues.getD k default).who) rfl rfl SubRC.sub) (by omega)) ?_ | refine o_test rfl rfl rfl (OpQ.fn (isWho_v D uo po uc pc (D.dues.getD k default).who) rfl rfl SubRC.sub) (fun h35 => ?_) (fun h35 => ?_)
                all_goals
                  refine o_q _ rfl rfl rfl (v_move rfl rfl) ?_
                  first | refine o_gn rfl rfl rfl rfl ?_ | refine o_g _ rfl rfl rfl rfl (v_fieldAddr rfl Tryd.underlying62 inf3 rfl rfl rfl rfl) ?_ | refine o_g _ rfl rfl rfl rfl (v_fieldAddrE rfl Tryd.underlying62 inf3 rfl rfl rfl rfl) ?_
                  first | refine o_gn rfl rfl rfl rfl ?_ | refine o_g _ rfl rfl rfl rfl (v_ld1 rfl Tryd.underlying3 rfl rfl rfl) ?_ | refine o_g _ rfl rfl rfl rfl (v_lf1 rfl Tryd.underlying3 rfl rfl rfl) ?_ | refine o_g _ rfl rfl rfl rfl (v_loadE1 rfl Tryd.underlying3 rfl rfl (by omega) rfl rfl) ?_
                  first | refine o_gn rfl rfl rfl rfl ?_ | refine o_g _ rfl rfl rfl rfl (v_true (OpQ.fn (isDay_v _) rfl rfl SubRC.sub) (by omega)) ?_ | refine o_g _ rfl rfl rfl rfl (v_false (OpQ.fn (isDay_v _) rfl rfl SubRC.sub) (by omega)) ?_ | refine o_gtest rfl rfl rfl rfl (OpQ.fn (isDay_v _) rfl rfl SubRC.sub) (fun h39 => ?_) (fun h39 => ?_)
                  all_goals
                    first | refine o_q _ rfl rfl rfl (v_pick_t rfl rfl rfl) ?_ | refine o_q _ rfl rfl rfl (v_pick_f rfl rfl rfl) ?_
                    refine o_q _ rfl rfl rfl (v_move rfl rfl) ?_
                    first | refine o_gn rfl rfl rfl rfl ?_ | refine o_g _ rfl rfl rfl rfl (v_fieldAddr rfl Tryd.underlying62 inf29 rfl rfl rfl rfl) ?_ | refine o_g _ rfl rfl rfl rfl (v_fieldAddrE rfl Tryd.underlying62 inf29 rfl rfl rfl rfl) ?_
                    first | refine o_gn rfl rfl rfl rfl ?_ | refine o_g _ rfl rfl rfl rfl (v_ldW rfl Tryd.underlying29 rfl inf29 rfl rfl) ?_ | refine o_g _ rfl rfl rfl rfl (v_lfW rfl Tryd.underlying29 rfl inf29 rfl rfl) ?_ | refine o_g _ rfl rfl rfl rfl (v_lfN rfl Tryd.underlying29 rfl inf29 rfl rfl rfl) ?_ | refine o_g _ rfl rfl rfl rfl (v_ldN rfl Tryd.underlying29 rfl inf29 rfl rfl rfl) ?_ | refine o_g _ rfl rfl rfl rfl (v_loadEN rfl Tryd.underlying29 rfl inf29 rfl (by omega) rfl rfl rfl) ?_
                    first | refine o_gn rfl rfl rfl rfl ?_ | refine o_g _ rfl rfl rfl rfl (v_true (OpQ.fn (isSods_v (D.dues.getD k default).sods.lo (D.dues.getD k default).sods.hi) rfl rfl SubRC.sub) (by omega)) ?_ | refine o_g _ rfl rfl rfl rfl (v_false (OpQ.fn (isSods_v (D.dues.getD k default).sods.lo (D.dues.getD k default).sods.hi) rfl rfl SubRC.sub) (by omega)) ?_ | refine o_gtest rfl rfl rfl rfl (OpQ.fn (isSods_v (D.dues.getD k default).sods.lo (D.dues.getD k default).sods.hi) rfl rfl SubRC.sub) (fun h44 => ?_) (fun h44 => ?_)
                    all_goals
                      first | refine o_q _ rfl rfl rfl (v_pick_t rfl rfl rfl) ?_ | refine o_q _ rfl rfl rfl (v_pick_f rfl rfl rfl) ?_
                      refine o_q _ rfl rfl rfl (v_move rfl rfl) ?_
                      first | refine o_gn rfl rfl rfl rfl ?_ | refine o_g _ rfl rfl rfl rfl (v_fieldAddr rfl Tryd.underlying62 inf3 rfl rfl rfl rfl) ?_ | refine o_g _ rfl rfl rfl rfl (v_fieldAddrE rfl Tryd.underlying62 inf3 rfl rfl rfl rfl) ?_
                      first | refine o_gn rfl rfl rfl rfl ?_ | refine o_g _ rfl rfl rfl rfl (v_ld1 rfl Tryd.underlying3 rfl rfl rfl) ?_ | refine o_g _ rfl rfl rfl rfl (v_lf1 rfl Tryd.underlying3 rfl rfl rfl) ?_ | refine o_g _ rfl rfl rfl rfl (v_loadE1 rfl Tryd.underlying3 rfl rfl (by omega) rfl rfl) ?_
                      first | refine o_gn rfl rfl rfl rfl ?_ | refine o_g _ rfl rfl rfl rfl (v_true (OpQ.fn (within_v _ _ _) rfl rfl SubRC.sub) (by omega)) ?_ | refine o_g _ rfl rfl rfl rfl (v_false (OpQ.fn (within_v _ _ _) rfl rfl SubRC.sub) (by omega)) ?_ | refine o_gtest rfl rfl rfl rfl (OpQ.fn (within_v _ _ _) rfl rfl SubRC.sub) (fun h49 => ?_) (fun h49 => ?_)
                      all_goals
                        first | refine o_q _ rfl rfl rfl (v_pick_t rfl rfl rfl) ?_ | refine o_q _ rfl rfl rfl (v_pick_f rfl rfl rfl) ?_
                        first | refine o_q _ rfl rfl rfl (OpQ.fn (ask_t _) rfl rfl SubRC.sub) ?_ | refine o_fnx (ask_f _) rfl rfl rfl SubRC.sub ?_
                        repeat (first | with_reducible refine r_then_panic ?_ | with_reducible refine r_in_panic ?_ | with_reducible refine r_sc_panic ?_)
                        try (exact r_retx SelMC.sel SubRC.sub)
                        all_goals
                          refine o_nil ?_
                          repeat (first | with_reducible refine r_then ?_ | with_reducible refine r_in_normal ?_ | with_reducible refine r_sc_normal ?_)
                          refine r_region ?_
                          refine o_q _ rfl rfl rfl (v_add rfl rfl rfl (by omega)) ?_
                          refine o_q _ rfl rfl rfl (v_move rfl rfl) ?_
                          refine o_nil ?_
                          repeat (first | with_reducible refine r_then ?_ | with_reducible refine r_in_normal ?_ | with_reducible refine r_sc_normal ?_)
                          refine r_next (k + 1) ?_ ?_ ?_
                          ·
                            exact r_here (by repeat (first | exact FSub.nil | refine FSub.cons rfl ?_)) SelMC.sel SubRC.sub
                          ·
                            exact ⟨by omega, by omega, by omega, by omega, all_step hI0.2.2.2.2 (by unfold DueOk; refine ⟨by omega, by omega, by assumption, by omega⟩)⟩
                          ·
                            omega
            ·
              first
              | (exfalso; revert hc29; decide)
              | (exfalso; omega)
              | skip
                refine r_exit ?_
                repeat (first | with_reducible refine r_then_exit ?_ | with_reducible refine r_sc_exit ?_ | with_reducible refine r_in_here ?_ | (with_reducible refine r_in_past (by decide) ?_) | with_reducible refine r_then ?_ | with_reducible refine r_in_normal ?_ | with_reducible refine r_sc_normal ?_)
                refine r_seq ?_
                refine r_seq ?_
                refine r_region ?_
                first | refine o_q _ rfl rfl rfl (v_fieldAddr rfl Tryd.underlying25 inf23 rfl rfl rfl rfl) ?_ | refine o_q _ rfl rfl rfl (v_fieldAddrE rfl Tryd.underlying25 inf23 rfl rfl rfl rfl) ?_
                first | refine o_q _ rfl rfl rfl (v_ld1 rfl Tryd.underlying23 rfl rfl rfl) ?_ | refine o_q _ rfl rfl rfl (v_lf1 rfl Tryd.underlying23 rfl rfl rfl) ?_ | refine o_q _ rfl rfl rfl (v_loadE1 rfl Tryd.underlying23 rfl rfl (by omega) rfl rfl) ?_
                refine o_q _ rfl rfl rfl (v_len rfl rfl Tryd.underlying23 rfl) ?_
                refine o_q _ rfl rfl rfl (v_move rfl rfl) ?_
                refine o_nil ?_
                repeat (first | with_reducible refine r_then ?_ | with_reducible refine r_in_normal ?_ | with_reducible refine r_sc_normal ?_)
                refine r_block ?_
                refine r_loop (ι := Nat) (fun k => k ≤ D.paid.length ∧ (1 ≤ D.people ∧ D.people ≤ 4) ∧ D.dues.length ≤ 6 ∧ D.paid.length ≤ 6 ∧ (∀ j, j < D.dues.length → DueOk D (D.dues.getD j default)) ∧ ∀ j, j < k → PaidOk D (D.paid.getD j default)) (fun k => [(1, .bool false), (2, pt b2 0), (54, .slice po D.paid.length pc), (55, i64 D.paid.length), (56, i64 k)]) (fun k => bx b2 25 (cellsD D uo po uc pc) :: M) (fun k => [rowD uo 5 encD D.dues, rowD po 4 encP D.paid] ++ Rf) (fun k => D.paid.length - k) 0 ?_ ?_ ?_
                ·
                  exact r_here (by repeat (first | exact FSub.nil | refine FSub.cons rfl ?_)) SelMC.sel SubRC.sub
                ·
                  exact ⟨Nat.zero_le _, by omega, by omega, by omega, (by have hk : k = D.dues.length := (by omega); rw [← hk]; exact hI0.2.2.2.2), fun j hj => absurd hj (by omega)⟩
                ·
                  rintro k hI1
                  have hwr : IntKind.i64.wrap (D.people - 1) = D.people - 1 := IntWalk.i64_in _ (by omega)
                  refine r_seq ?_
                  refine r_region ?_
                  refine o_q _ rfl rfl rfl (v_lss rfl rfl rfl) ?_
                  refine o_nil ?_
                  repeat (first | with_reducible refine r_then ?_ | with_reducible refine r_in_normal ?_ | with_reducible refine r_sc_normal ?_)
                  refine r_seq ?_
                  first | refine r_condd rfl (fun hc57 => ?_) (fun hc57 => ?_) | refine r_cond rfl (fun hc57 => ?_) (fun hc57 => ?_)
                  ·
                    first
                    | (exfalso; revert hc57; decide)
                    | (exfalso; omega)
                    | skip
                      refine r_skip ?_
                      repeat (first | with_reducible refine r_then ?_ | with_reducible refine r_in_normal ?_ | with_reducible refine r_sc_normal ?_)
                      refine r_seq ?_
                      refine r_block ?_
                      refine r_seq ?_
                      refine r_region ?_
                      first | refine o_q _ rfl rfl rfl (v_indexAddrSn rfl Tryd.underlying23 inf54 rfl rfl rfl (by omega) rfl) ?_ | refine o_q _ rfl rfl rfl (v_indexAddrS rfl Tryd.underlying23 inf54 rfl rfl rfl (by omega) (by omega) rfl) ?_
                      refine o_q _ rfl rfl rfl (v_loadEN (us := encP (D.paid.getD k default)) rfl Tryd.underlying54 rfl inf54 rfl (by omega) rfl rfl rfl) ?_
                      refine o_alloc rfl inf54 rfl rfl rfl rfl rfl (fun b8 => ?_)
                      refine o_st rfl inf54 rfl rfl rfl rfl rfl rfl rfl rfl ?_
                      refine o_nil ?_
                      repeat (first | with_reducible refine r_then ?_ | with_reducible refine r_in_normal ?_ | with_reducible refine r_sc_normal ?_)
                      refine Imp.box_to b8 (encP (D.paid.getD k default)) rfl ?_
                      refine r_region ?_
                      first | refine o_q _ rfl rfl rfl (v_ldW rfl Tryd.underlying25 rfl inf25 rfl rfl) ?_ | refine o_q _ rfl rfl rfl (v_lfW rfl Tryd.underlying25 rfl inf25 rfl rfl) ?_ | refine o_q _ rfl rfl rfl (v_lfN rfl Tryd.underlying25 rfl inf25 rfl rfl rfl) ?_ | refine o_q _ rfl rfl rfl (v_ldN rfl Tryd.underlying25 rfl inf25 rfl rfl rfl) ?_ | refine o_q _ rfl rfl rfl (v_loadEN rfl Tryd.underlying25 rfl inf25 rfl (by omega) rfl rfl rfl) ?_
                      first | refine o_q _ rfl rfl rfl (v_fieldAddr rfl Tryd.underlying54 inf3 rfl rfl rfl rfl) ?_ | refine o_q _ rfl rfl rfl (v_fieldAddrE rfl Tryd.underlying54 inf3 rfl rfl rfl rfl) ?_
                      first | refine o_q _ rfl rfl rfl (v_ld1 rfl Tryd.underlying3 rfl rfl rfl) ?_ | refine o_q _ rfl rfl rfl (v_lf1 rfl Tryd.underlying3 rfl rfl rfl) ?_ | refine o_q _ rfl rfl rfl (v_loadE1 rfl Tryd.underlying3 rfl rfl (by omega) rfl rfl) ?_
                      first | refine o_q _ rfl rfl rfl (v_true (OpQ.fn (isWho_v D uo po uc pc (D.paid.getD k default).who) rfl rfl SubRC.sub) (by omega)) ?_ | refine o_q _ rfl rfl rfl (v_false (OpQ.fn (isWho_v D uo po uc pc (D.paid.getD k default).who) rfl rfl SubRC.sub) (by omega)) ?_ | refine o_test rfl rfl rfl (OpQ.fn (isWho_v D uo po uc pc (D.paid.getD k default).who) rfl rfl SubRC.sub) (fun h63 => ?_) (fun h63 => ?_)
                      all_goals
                        refine o_q _ rfl rfl rfl (v_move rfl rfl) ?_
                        first | refine o_gn rfl rfl rfl rfl ?_ | refine o_g _ rfl rfl rfl rfl (v_fieldAddr rfl Tryd.underlying54 inf3 rfl rfl rfl rfl) ?_ | refine o_g _ rfl rfl rfl rfl (v_fieldAddrE rfl Tryd.underlying54 inf3 rfl rfl rfl rfl) ?_
                        first | refine o_gn rfl rfl rfl rfl ?_ | refine o_g _ rfl rfl rfl rfl (v_ld1 rfl Tryd.underlying3 rfl rfl rfl) ?_ | refine o_g _ rfl rfl rfl rfl (v_lf1 rfl Tryd.underlying3 rfl rfl rfl) ?_ | refine o_g _ rfl rfl rfl rfl (v_loadE1 rfl Tryd.underlying3 rfl rfl (by omega) rfl rfl) ?_
                        first | refine o_gn rfl rfl rfl rfl ?_ | refine o_g _ rfl rfl rfl rfl (v_true (OpQ.fn (isDay_v _) rfl rfl SubRC.sub) (by omega)) ?_ | refine o_g _ rfl rfl rfl rfl (v_false (OpQ.fn (isDay_v _) rfl rfl SubRC.sub) (by omega)) ?_ | refine o_gtest rfl rfl rfl rfl (OpQ.fn (isDay_v _) rfl rfl SubRC.sub) (fun h67 => ?_) (fun h67 => ?_)
                        all_goals
                          first | refine o_q _ rfl rfl rfl (v_pick_t rfl rfl rfl) ?_ | refine o_q _ rfl rfl rfl (v_pick_f rfl rfl rfl) ?_
                          refine o_q _ rfl rfl rfl (v_move rfl rfl) ?_
                          first | refine o_gn rfl rfl rfl rfl ?_ | refine o_g _ rfl rfl rfl rfl (v_fieldAddr rfl Tryd.underlying54 inf29 rfl rfl rfl rfl) ?_ | refine o_g _ rfl rfl rfl rfl (v_fieldAddrE rfl Tryd.underlying54 inf29 rfl rfl rfl rfl) ?_
                          first | refine o_gn rfl rfl rfl rfl ?_ | refine o_g _ rfl rfl rfl rfl (v_ldW rfl Tryd.underlying29 rfl inf29 rfl rfl) ?_ | refine o_g _ rfl rfl rfl rfl (v_lfW rfl Tryd.underlying29 rfl inf29 rfl rfl) ?_ | refine o_g _ rfl rfl rfl rfl (v_lfN rfl Tryd.underlying29 rfl inf29 rfl rfl rfl) ?_ | refine o_g _ rfl rfl rfl rfl (v_ldN rfl Tryd.underlying29 rfl inf29 rfl rfl rfl) ?_ | refine o_g _ rfl rfl rfl rfl (v_loadEN rfl Tryd.underlying29 rfl inf29 rfl (by omega) rfl rfl rfl) ?_
                          first | refine o_gn rfl rfl rfl rfl ?_ | refine o_g _ rfl rfl rfl rfl (v_true (OpQ.fn (isSods_v (D.paid.getD k default).sods.lo (D.paid.getD k default).sods.hi) rfl rfl SubRC.sub) (by omega)) ?_ | refine o_g _ rfl rfl rfl rfl (v_false (OpQ.fn (isSods_v (D.paid.getD k default).sods.lo (D.paid.getD k default).sods.hi) rfl rfl SubRC.sub) (by omega)) ?_ | refine o_gtest rfl rfl rfl rfl (OpQ.fn (isSods_v (D.paid.getD k default).sods.lo (D.paid.getD k default).sods.hi) rfl rfl SubRC.sub) (fun h72 => ?_) (fun h72 => ?_)
                          all_goals
                            first | refine o_q _ rfl rfl rfl (v_pick_t rfl rfl rfl) ?_ | refine o_q _ rfl rfl rfl (v_pick_f rfl rfl rfl) ?_
                            first | refine o_q _ rfl rfl rfl (OpQ.fn (ask_t _) rfl rfl SubRC.sub) ?_ | refine o_fnx (ask_f _) rfl rfl rfl SubRC.sub ?_
                            repeat (first | with_reducible refine r_then_panic ?_ | with_reducible refine r_in_panic ?_ | with_reducible refine r_sc_panic ?_)
                            try (exact r_retx SelMC.sel SubRC.sub)
                            all_goals
                              refine o_nil ?_
                              repeat (first | with_reducible refine r_then ?_ | with_reducible refine r_in_normal ?_ | with_reducible refine r_sc_normal ?_)
                              refine r_region ?_
                              refine o_q _ rfl rfl rfl (v_add rfl rfl rfl (by omega)) ?_
                              refine o_q _ rfl rfl rfl (v_move rfl rfl) ?_
                              refine o_nil ?_
                              repeat (first | with_reducible refine r_then ?_ | with_reducible refine r_in_normal ?_ | with_reducible refine r_sc_normal ?_)
                              refine r_next (k + 1) ?_ ?_ ?_
                              ·
                                exact r_here (by repeat (first | exact FSub.nil | refine FSub.cons rfl ?_)) SelMC.sel SubRC.sub
                              ·
                                exact ⟨by omega, by omega, by omega, by omega, hI1.2.2.2.2.1, all_step hI1.2.2.2.2.2 (by unfold PaidOk; refine ⟨by omega, by omega, by assumption⟩)⟩
                              ·
                                omega
                  ·
                    first
                    | (exfalso; revert hc57; decide)
                    | (exfalso; omega)
                    | skip
                      refine r_exit ?_
                      repeat (first | with_reducible refine r_then_exit ?_ | with_reducible refine r_sc_exit ?_ | with_reducible refine r_in_here ?_ | (with_reducible refine r_in_past (by decide) ?_) | with_reducible refine r_then ?_ | with_reducible refine r_in_normal ?_ | with_reducible refine r_sc_normal ?_)
                      refine r_seq ?_
                      exfalso
                      obtain rfl : k = D.paid.length := by omega
                      exact hng ⟨by omega, by omega, by omega, hI1.2.2.2.2.1, hI1.2.2.2.2.2⟩
theorem look_x1 (v : Bool) (hl1 : D.dues.length ≤ 40) (hl2 : D.paid.length ≤ 40) (hng : ¬ GoodD D) : FnX Tryd.prog 44 [valD D uo po uc pc, .bool v] [rowD uo 5 encD D.dues, rowD po 4 encP D.paid] (.iface 103 (i64 1)) := by
  cases v
  · exact look_x1f D uo po uc pc hl1 hl2 hng
  · exact look_x1t D uo po uc pc hl1 hl2 hng
theorem Imp.ownZ_eq {α : Type} {enc : α → List Value} {sz : Nat} {T : TypeId} {xs : List α} {W : World} {n : Nat} {Df : List Deferred} {L : Tm} {M M' : List Res} {R : List Fact} {X : Act → World → Prop} (v v' : Value) [hd : HasOwnZ v M T sz enc xs M'] (e : v = v') (h : Imp W n Df L (ownZ v' T sz enc xs :: M') R X) : Imp W n Df L M R X := by
  subst e
  exact fun a w g1 g2 g3 => h a w g1 g2 (g3.perm hd.del.perm)
set_option maxHeartbeats 4000000 in
theorem day_s (who : Int) (e kd : Nat) (g : Bool) (d : Nat) (l : List Opn) (oa : Option Addr) (c : Nat) (A : Int) (hg : GoodD D) (he : e < 2) (hd : d ≤ 31) (hll : (l ++ newF D (amD D e) who d).length ≤ 6) (hs : SortedO (l ++ newF D (amD D e) who d)) (hb : ∀ x ∈ (l ++ newF D (amD D e) who d), (0 ≤ x.left ∧ x.left ≤ 1000) ∧ (0 ≤ x.late ∧ x.late ≤ 10) ∧ x.number < 6) (hA : 0 ≤ A ∧ A ≤ 100000) : FnS Tryd.prog 84 [pt lb 0, vA oa l.length c A, .agg #[i64 who, i64 (e : Int), i64 (kd : Int), .bool g], i64 (d : Int)] [] [boxF lb 108 [i64 D.people, .slice uo D.dues.length uc, .slice po D.paid.length pc, .map (some mb)], rowD uo 5 encD D.dues, rowD po 4 encP D.paid, rowD (some ⟨0, 0, none⟩) 1 encE ([0, 1] : List Nat), rowD oa 4 encO l] (fun ed M' R' => ∃ x : Option Addr × Nat, ed = .returned (vA x.1 (payL (l ++ newF D (amD D e) who d) (A + paidS D (paD D e) who d)).length x.2 (restF (l ++ newF D (amD D e) who d) (A + paidS D (paD D e) who d))) ∧ M' = [] ∧ R' = [rowD x.1 4 encO (payL (l ++ newF D (amD D e) who d) (A + paidS D (paD D e) who d))]) := by
  have hl6 : l.length ≤ 6 := by
    have h := hll
    rw [List.length_append] at h; omega
  refine FnS.intro0 Tryd.call84 Tryd.func84 rfl Tryd.ntmps84 rfl ?_
  intro W M Rf
  refine r_seq ?_
  refine r_region ?_
  refine o_boxA rfl rfl rfl rfl rfl (fun b5 => ?_)
  refine o_boxA rfl rfl rfl rfl rfl (fun b6 => ?_)
  refine o_alloc rfl inf77 rfl rfl rfl rfl rfl (fun b8 => ?_)
  refine o_nil ?_
  repeat (first | with_reducible refine r_then ?_ | with_reducible refine r_in_normal ?_ | with_reducible refine r_sc_normal ?_)
  refine r_seq ?_
  refine r_region ?_
  first | refine o_q _ rfl rfl rfl (v_fieldAddr rfl Tryd.underlying113 inf3 rfl rfl rfl rfl) ?_ | refine o_q _ rfl rfl rfl (v_fieldAddrE rfl Tryd.underlying113 inf3 rfl rfl rfl rfl) ?_
  first | refine o_q _ rfl rfl rfl (v_ld1 rfl Tryd.underlying3 rfl rfl rfl) ?_ | refine o_q _ rfl rfl rfl (v_lf1 rfl Tryd.underlying3 rfl rfl rfl) ?_ | refine o_q _ rfl rfl rfl (v_loadE1 rfl Tryd.underlying3 rfl rfl (by omega) rfl rfl) ?_
  refine o_q _ rfl rfl rfl (v_indexAddrAn rfl Tryd.underlying142 inf141 rfl rfl he) ?_
  refine o_q _ rfl rfl rfl (v_loadE1 (oa := some ⟨0, 0, none⟩) (sz := 1) (enc := encE) (xs := ([0, 1] : List Nat)) (a := e) (j := 0) rfl Tryd.underlying141 rfl rfl (by show e < 2; omega) rfl (ends_at he)) ?_
  refine o_q _ rfl rfl rfl (v_assign rfl rfl) ?_
  refine o_nil ?_
  repeat (first | with_reducible refine r_then ?_ | with_reducible refine r_in_normal ?_ | with_reducible refine r_sc_normal ?_)
  refine r_seq ?_
  refine r_region ?_
  first | refine o_q _ rfl rfl rfl (v_fieldAddr rfl Tryd.underlying77 inf74 rfl rfl rfl rfl) ?_ | refine o_q _ rfl rfl rfl (v_fieldAddrE rfl Tryd.underlying77 inf74 rfl rfl rfl rfl) ?_
  first | refine o_q _ rfl rfl rfl (v_ld1 rfl Tryd.underlying74 rfl rfl rfl) ?_ | refine o_q _ rfl rfl rfl (v_lf1 rfl Tryd.underlying74 rfl rfl rfl) ?_ | refine o_q _ rfl rfl rfl (v_loadE1 rfl Tryd.underlying74 rfl rfl (by omega) rfl rfl) ?_
  refine o_fnR (clone_s l oa c (by omega)) rfl rfl rfl rfl rfl SubRC.sub (fun v20 => ?_)
  refine Imp.isZ2 v20 (fun hsl => ?_)
  obtain ⟨oq, cq, rfl⟩ := hsl
  first | refine o_q _ rfl rfl rfl (v_fieldAddr rfl Tryd.underlying77 inf74 rfl rfl rfl rfl) ?_ | refine o_q _ rfl rfl rfl (v_fieldAddrE rfl Tryd.underlying77 inf74 rfl rfl rfl rfl) ?_
  refine o_st rfl inf74 rfl rfl rfl rfl rfl rfl rfl rfl ?_
  refine o_nil ?_
  repeat (first | with_reducible refine r_then ?_ | with_reducible refine r_in_normal ?_ | with_reducible refine r_sc_normal ?_)
  refine r_seq ?_
  refine r_seq ?_
  refine Imp.box_to b5 [.slice oq l.length cq, i64 A] rfl ?_
  refine Imp.toZZ (.slice oq l.length cq) (l ++ newTo D (amD D e) who d 0) (List.append_nil _).symm ?_
  refine r_region ?_
  refine o_q _ rfl rfl rfl (v_move rfl rfl) ?_
  refine o_q _ rfl rfl rfl (v_nilCheck rfl rfl) ?_
  first | refine o_q _ rfl rfl rfl (v_fieldAddr rfl Tryd.underlying108 inf25 rfl rfl rfl rfl) ?_ | refine o_q _ rfl rfl rfl (v_fieldAddrE rfl Tryd.underlying108 inf25 rfl rfl rfl rfl) ?_
  first | refine o_q _ rfl rfl rfl (v_fieldAddr rfl Tryd.underlying25 inf22 rfl rfl rfl rfl) ?_ | refine o_q _ rfl rfl rfl (v_fieldAddrE rfl Tryd.underlying25 inf22 rfl rfl rfl rfl) ?_
  first | refine o_q _ rfl rfl rfl (v_ld1 rfl Tryd.underlying22 rfl rfl rfl) ?_ | refine o_q _ rfl rfl rfl (v_lf1 rfl Tryd.underlying22 rfl rfl rfl) ?_ | refine o_q _ rfl rfl rfl (v_loadE1 rfl Tryd.underlying22 rfl rfl (by omega) rfl rfl) ?_
  refine o_q _ rfl rfl rfl (v_len rfl rfl Tryd.underlying22 rfl) ?_
  refine o_q _ rfl rfl rfl (v_move rfl rfl) ?_
  refine o_nil ?_
  repeat (first | with_reducible refine r_then ?_ | with_reducible refine r_in_normal ?_ | with_reducible refine r_sc_normal ?_)
  refine r_block ?_
  refine r_loop (ι := Nat × Option Addr × Nat) (fun gh => gh.1 ≤ D.dues.length) (fun gh => [(0, pt lb 0), (3, i64 (d : Int)), (5, pt b5 0), (6, pt b6 0), (8, pt b8 0), (9, endV e), (26, .slice uo D.dues.length uc), (27, i64 D.dues.length), (28, i64 gh.1)]) (fun gh => ownZ (.slice gh.2.1 (l ++ newTo D (amD D e) who d gh.1).length gh.2.2) 116 4 encO (l ++ newTo D (amD D e) who d gh.1) :: bx b5 77 [.slice gh.2.1 (l ++ newTo D (amD D e) who d gh.1).length gh.2.2, i64 A] :: bx b6 113 [i64 who, i64 (e : Int), i64 (kd : Int), .bool g] :: bx b8 77 [.slice none 0 0, i64 0] :: M) (fun gh => [boxF lb 108 [i64 D.people, .slice uo D.dues.length uc, .slice po D.paid.length pc, .map (some mb)], rowD uo 5 encD D.dues, rowD po 4 encP D.paid, rowD (some ⟨0, 0, none⟩) 1 encE ([0, 1] : List Nat), rowD oa 4 encO l] ++ Rf) (fun gh => D.dues.length - gh.1) (0, oq, cq) ?_ ?_ ?_
  ·
    refine Imp.box_to b5 [.slice oq (l ++ newTo D (amD D e) who d 0).length cq, i64 A] (by rw [show newTo D (amD D e) who d 0 = [] from rfl, List.append_nil]) ?_
    refine Imp.ownZ_eq (.slice oq l.length cq) (.slice oq (l ++ newTo D (amD D e) who d 0).length cq) (by rw [show newTo D (amD D e) who d 0 = [] from rfl, List.append_nil]) ?_
    refine Imp.box_to b8 [.slice none 0 0, i64 0] rfl ?_
    exact r_here (by repeat (first | exact FSub.nil | refine FSub.cons rfl ?_)) SelMC.sel SubRC.sub
  ·
    exact Nat.zero_le _
  ·
    rintro ⟨k, ob, oc⟩ hI0
    dsimp only at hI0
    dsimp only
    have hI : k ≤ D.dues.length := hI0
    have hnl := newTo_len D (amD D e) who d k
    have hnd := hg.nd
    have hlk : (l ++ newTo D (amD D e) who d k).length ≤ 1000 := by rw [List.length_append]; have := hll; rw [List.length_append] at this; omega
    have hapA : ∀ x : Opn, (l ++ newTo D (amD D e) who d k ++ [x]).length = (l ++ (newTo D (amD D e) who d k ++ [x])).length := fun x => by rw [List.append_assoc]
    refine r_seq ?_
    refine r_region ?_
    refine o_q _ rfl rfl rfl (v_lss rfl rfl rfl) ?_
    refine o_nil ?_
    repeat (first | with_reducible refine r_then ?_ | with_reducible refine r_in_normal ?_ | with_reducible refine r_sc_normal ?_)
    refine r_seq ?_
    first | refine r_condd rfl (fun hc29 => ?_) (fun hc29 => ?_) | refine r_cond rfl (fun hc29 => ?_) (fun hc29 => ?_)
    ·
      first
      | (exfalso; revert hc29; decide)
      | (exfalso; omega)
      | skip
        refine r_skip ?_
        repeat (first | with_reducible refine r_then ?_ | with_reducible refine r_in_normal ?_ | with_reducible refine r_sc_normal ?_)
        refine r_seq ?_
        refine r_block ?_
        refine r_seq ?_
        refine r_region ?_
        refine o_q _ rfl rfl rfl (v_move rfl rfl) ?_
        first | refine o_q _ rfl rfl rfl (v_indexAddrSn rfl Tryd.underlying22 inf62 rfl rfl rfl (by omega) rfl) ?_ | refine o_q _ rfl rfl rfl (v_indexAddrS rfl Tryd.underlying22 inf62 rfl rfl rfl (by omega) (by omega) rfl) ?_
        refine o_q _ rfl rfl rfl (v_loadEN (us := encD (D.dues.getD k default)) rfl Tryd.underlying62 rfl inf62 rfl (by omega) rfl rfl rfl) ?_
        refine o_alloc rfl inf62 rfl rfl rfl rfl rfl (fun b11 => ?_)
        refine o_q _ rfl rfl rfl (v_assign rfl rfl) ?_
        refine o_st rfl inf62 rfl rfl rfl rfl rfl rfl rfl rfl ?_
        refine o_nil ?_
        repeat (first | with_reducible refine r_then ?_ | with_reducible refine r_in_normal ?_ | with_reducible refine r_sc_normal ?_)
        refine r_seq ?_
        refine Imp.box_to b11 (encD (D.dues.getD k default)) rfl ?_
        refine r_region ?_
        first | refine o_q _ rfl rfl rfl (v_fieldAddr rfl Tryd.underlying62 inf3 rfl rfl rfl rfl) ?_ | refine o_q _ rfl rfl rfl (v_fieldAddrE rfl Tryd.underlying62 inf3 rfl rfl rfl rfl) ?_
        first | refine o_q _ rfl rfl rfl (v_ld1 rfl Tryd.underlying3 rfl rfl rfl) ?_ | refine o_q _ rfl rfl rfl (v_lf1 rfl Tryd.underlying3 rfl rfl rfl) ?_ | refine o_q _ rfl rfl rfl (v_loadE1 rfl Tryd.underlying3 rfl rfl (by omega) rfl rfl) ?_
        first | refine o_q _ rfl rfl rfl (v_fieldAddr rfl Tryd.underlying113 inf3 rfl rfl rfl rfl) ?_ | refine o_q _ rfl rfl rfl (v_fieldAddrE rfl Tryd.underlying113 inf3 rfl rfl rfl rfl) ?_
        first | refine o_q _ rfl rfl rfl (v_ld1 rfl Tryd.underlying3 rfl rfl rfl) ?_ | refine o_q _ rfl rfl rfl (v_lf1 rfl Tryd.underlying3 rfl rfl rfl) ?_ | refine o_q _ rfl rfl rfl (v_loadE1 rfl Tryd.underlying3 rfl rfl (by omega) rfl rfl) ?_
        first | refine o_q _ rfl rfl rfl (v_true (v_eql rfl rfl rfl) (by omega)) ?_ | refine o_q _ rfl rfl rfl (v_false (v_eql rfl rfl rfl) (by omega)) ?_ | refine o_test rfl rfl rfl (v_eql rfl rfl rfl) (fun h37 => ?_) (fun h37 => ?_)
        all_goals
          refine o_q _ rfl rfl rfl (v_move rfl rfl) ?_
          first | refine o_gn rfl rfl rfl rfl ?_ | refine o_g _ rfl rfl rfl rfl (v_fieldAddr rfl Tryd.underlying62 inf3 rfl rfl rfl rfl) ?_ | refine o_g _ rfl rfl rfl rfl (v_fieldAddrE rfl Tryd.underlying62 inf3 rfl rfl rfl rfl) ?_
          first | refine o_gn rfl rfl rfl rfl ?_ | refine o_g _ rfl rfl rfl rfl (v_ld1 rfl Tryd.underlying3 rfl rfl rfl) ?_ | refine o_g _ rfl rfl rfl rfl (v_lf1 rfl Tryd.underlying3 rfl rfl rfl) ?_ | refine o_g _ rfl rfl rfl rfl (v_loadE1 rfl Tryd.underlying3 rfl rfl (by omega) rfl rfl) ?_
          first | refine o_gn rfl rfl rfl rfl ?_ | refine o_g _ rfl rfl rfl rfl (v_move rfl rfl) ?_
          first | refine o_gn rfl rfl rfl rfl ?_ | refine o_g _ rfl rfl rfl rfl (v_true (v_eql rfl rfl rfl) (by omega)) ?_ | refine o_g _ rfl rfl rfl rfl (v_false (v_eql rfl rfl rfl) (by omega)) ?_ | refine o_gtest rfl rfl rfl rfl (v_eql rfl rfl rfl) (fun h42 => ?_) (fun h42 => ?_)
          all_goals
            first | refine o_q _ rfl rfl rfl (v_pick_t rfl rfl rfl) ?_ | refine o_q _ rfl rfl rfl (v_pick_f rfl rfl rfl) ?_
            refine o_nil ?_
            repeat (first | with_reducible refine r_then ?_ | with_reducible refine r_in_normal ?_ | with_reducible refine r_sc_normal ?_)
            first | refine r_condd rfl (fun hc43 => ?_) (fun hc43 => ?_) | refine r_cond rfl (fun hc43 => ?_) (fun hc43 => ?_)
            ·
              first
              | (exfalso; revert hc43; decide)
              | (exfalso; omega)
              | skip
                refine r_par' 12 mixed (by kernel_rfl) (by rfl) ?_
                first | refine p_q _ rfl rfl rfl (fun _ _ => v_fieldAddr rfl Tryd.underlying77 inf74 rfl rfl rfl rfl) ?_ | refine p_q _ rfl rfl rfl (fun _ _ => v_fieldAddrE rfl Tryd.underlying77 inf74 rfl rfl rfl rfl) ?_
                first | refine p_q _ rfl rfl rfl (fun _ _ => v_ld1 rfl Tryd.underlying74 rfl rfl rfl) ?_ | refine p_q _ rfl rfl rfl (fun _ _ => v_lf1 rfl Tryd.underlying74 rfl rfl rfl) ?_ | refine p_q _ rfl rfl rfl (fun _ _ => v_loadE1 rfl Tryd.underlying74 rfl rfl (by omega) rfl rfl) ?_
                refine p_q _ rfl rfl rfl (fun _ _ => v_move rfl rfl) ?_
                refine p_q _ rfl rfl rfl (fun _ _ => v_move rfl rfl) ?_
                refine p_q _ rfl rfl rfl (fun _ _ => v_move rfl rfl) ?_
                first | refine p_q _ rfl rfl rfl (fun _ _ => v_fieldAddr rfl Tryd.underlying62 inf29 rfl rfl rfl rfl) ?_ | refine p_q _ rfl rfl rfl (fun _ _ => v_fieldAddrE rfl Tryd.underlying62 inf29 rfl rfl rfl rfl) ?_
                first | refine p_q _ rfl rfl rfl (fun _ _ => v_ldW rfl Tryd.underlying29 rfl inf29 rfl rfl) ?_ | refine p_q _ rfl rfl rfl (fun _ _ => v_lfW rfl Tryd.underlying29 rfl inf29 rfl rfl) ?_ | refine p_q _ rfl rfl rfl (fun _ _ => v_lfN rfl Tryd.underlying29 rfl inf29 rfl rfl rfl) ?_ | refine p_q _ rfl rfl rfl (fun _ _ => v_ldN rfl Tryd.underlying29 rfl inf29 rfl rfl rfl) ?_ | refine p_q _ rfl rfl rfl (fun _ _ => v_loadEN rfl Tryd.underlying29 rfl inf29 rfl (by omega) rfl rfl rfl) ?_
                refine p_q _ rfl rfl rfl (fun _ _ => OpQ.invoke (due_v e (D.dues.getD k default).sods) (dueM e) rfl rfl rfl rfl SubRC.sub) ?_
                first | refine p_q _ rfl rfl rfl (fun _ _ => v_fieldAddr rfl Tryd.underlying62 inf3 rfl rfl rfl rfl) ?_ | refine p_q _ rfl rfl rfl (fun _ _ => v_fieldAddrE rfl Tryd.underlying62 inf3 rfl rfl rfl rfl) ?_
                first | refine p_q _ rfl rfl rfl (fun _ _ => v_ld1 rfl Tryd.underlying3 rfl rfl rfl) ?_ | refine p_q _ rfl rfl rfl (fun _ _ => v_lf1 rfl Tryd.underlying3 rfl rfl rfl) ?_ | refine p_q _ rfl rfl rfl (fun _ _ => v_loadE1 rfl Tryd.underlying3 rfl rfl (by omega) rfl rfl) ?_
                refine p_q _ rfl rfl rfl (fun _ _ => v_bS rfl Tryd.underlying116 inf116 plt116 rfl rfl rfl (by repeat (first | exact trivial | refine ⟨rfl, ?_⟩)) (by rfl)) ?_
                refine p_lit rfl Tryd.underlying74 inf116 rfl rfl rfl rfl rfl rfl rfl rfl (by repeat (first | exact trivial | refine ⟨rfl, ?_⟩)) (by rfl) ?_
                refine p_nil2 (by simp only [List.nil_append, List.cons_append]; rfl) rfl ?_
                refine f_q rfl ?_
                refine f_q rfl ?_
                refine f_q rfl ?_
                refine f_q rfl ?_
                refine f_q rfl ?_
                refine f_q rfl ?_
                refine f_q rfl ?_
                refine f_q rfl ?_
                refine f_q rfl ?_
                refine f_q rfl ?_
                refine f_q rfl ?_
                refine f_lit rfl (fun b55 => ?_)
                refine f_nil ?_
                refine o_appZ1F (sz := 4) (xs := (l ++ newTo D (amD D e) who d k)) (newOp D (amD D e) d k) rfl Tryd.underlying74 inf116 rfl rfl rfl encO_len rfl rfl rfl rfl rfl rfl rfl ⟨by omega, by decide⟩ (fun v56 => ?_)
                refine Imp.own_is v56 (fun hsl => ?_)
                obtain ⟨oq2, cq2, rfl⟩ := hsl
                first | refine o_q _ rfl rfl rfl (v_fieldAddr rfl Tryd.underlying77 inf74 rfl rfl rfl rfl) ?_ | refine o_q _ rfl rfl rfl (v_fieldAddrE rfl Tryd.underlying77 inf74 rfl rfl rfl rfl) ?_
                refine o_st rfl inf74 rfl rfl rfl rfl rfl rfl rfl rfl ?_
                refine o_nil ?_
                repeat (first | with_reducible refine r_then ?_ | with_reducible refine r_in_normal ?_ | with_reducible refine r_sc_normal ?_)
                refine r_region ?_
                refine o_q _ rfl rfl rfl (v_add rfl rfl rfl (by omega)) ?_
                refine o_q _ rfl rfl rfl (v_move rfl rfl) ?_
                refine o_nil ?_
                repeat (first | with_reducible refine r_then ?_ | with_reducible refine r_in_normal ?_ | with_reducible refine r_sc_normal ?_)
                first
                | exact r_next ((k + 1, oq2, cq2)) (by refine Imp.toZ (.slice oq2 ((l ++ newTo D (amD D e) who d k) ++ [newOp D (amD D e) d k]).length cq2) (l ++ newTo D (amD D e) who d (k + 1)) (by rw [List.append_assoc, newTo_y (by omega) (by omega)]) ?_; refine Imp.box_to b5 [.slice oq2 (l ++ newTo D (amD D e) who d (k + 1)).length cq2, i64 A] (by rw [← newTo_y (am := (amD D e)) (k := k) (by omega) (by omega), ← List.append_assoc]; rfl) ?_; refine Imp.ownZ_eq (.slice oq2 ((l ++ newTo D (amD D e) who d k) ++ [newOp D (amD D e) d k]).length cq2) (.slice oq2 (l ++ newTo D (amD D e) who d (k + 1)).length cq2) (by rw [← newTo_y (am := (amD D e)) (k := k) (by omega) (by omega), ← List.append_assoc]) ?_; exact r_here (by repeat (first | exact FSub.nil | refine FSub.cons rfl ?_)) SelMC.sel SubRC.sub) (by first | omega | (show _ + 1 ≤ _; omega)) (by first | omega | (show _ - (_ + 1) < _ - _; omega))
                | exact r_next ((k + 1, ob, oc)) (by refine Imp.toZZ (.slice ob (l ++ newTo D (amD D e) who d k).length oc) (l ++ newTo D (amD D e) who d (k + 1)) (by rw [newTo_n (k := k) (by omega)]) ?_; refine Imp.box_to b5 [.slice ob (l ++ newTo D (amD D e) who d (k + 1)).length oc, i64 A] (by rw [newTo_n (k := k) (by omega)]) ?_; refine Imp.ownZ_eq (.slice ob (l ++ newTo D (amD D e) who d k).length oc) (.slice ob (l ++ newTo D (amD D e) who d (k + 1)).length oc) (by rw [newTo_n (k := k) (by omega)]) ?_; exact r_here (by repeat (first | exact FSub.nil | refine FSub.cons rfl ?_)) SelMC.sel SubRC.sub) (by first | omega | (show _ + 1 ≤ _; omega)) (by first | omega | (show _ - (_ + 1) < _ - _; omega))
            ·
              first
              | (exfalso; revert hc43; decide)
              | (exfalso; omega)
              | skip
                refine r_skip ?_
                repeat (first | with_reducible refine r_then ?_ | with_reducible refine r_in_normal ?_ | with_reducible refine r_sc_normal ?_)
                refine r_region ?_
                refine o_q _ rfl rfl rfl (v_add rfl rfl rfl (by omega)) ?_
                refine o_q _ rfl rfl rfl (v_move rfl rfl) ?_
                refine o_nil ?_
                repeat (first | with_reducible refine r_then ?_ | with_reducible refine r_in_normal ?_ | with_reducible refine r_sc_normal ?_)
                first
                | exact r_next ((k + 1, oq2, cq2)) (by refine Imp.toZ (.slice oq2 ((l ++ newTo D (amD D e) who d k) ++ [newOp D (amD D e) d k]).length cq2) (l ++ newTo D (amD D e) who d (k + 1)) (by rw [List.append_assoc, newTo_y (by omega) (by omega)]) ?_; refine Imp.box_to b5 [.slice oq2 (l ++ newTo D (amD D e) who d (k + 1)).length cq2, i64 A] (by rw [← newTo_y (am := (amD D e)) (k := k) (by omega) (by omega), ← List.append_assoc]; rfl) ?_; refine Imp.ownZ_eq (.slice oq2 ((l ++ newTo D (amD D e) who d k) ++ [newOp D (amD D e) d k]).length cq2) (.slice oq2 (l ++ newTo D (amD D e) who d (k + 1)).length cq2) (by rw [← newTo_y (am := (amD D e)) (k := k) (by omega) (by omega), ← List.append_assoc]) ?_; exact r_here (by repeat (first | exact FSub.nil | refine FSub.cons rfl ?_)) SelMC.sel SubRC.sub) (by first | omega | (show _ + 1 ≤ _; omega)) (by first | omega | (show _ - (_ + 1) < _ - _; omega))
                | exact r_next ((k + 1, ob, oc)) (by refine Imp.toZZ (.slice ob (l ++ newTo D (amD D e) who d k).length oc) (l ++ newTo D (amD D e) who d (k + 1)) (by rw [newTo_n (k := k) (by omega)]) ?_; refine Imp.box_to b5 [.slice ob (l ++ newTo D (amD D e) who d (k + 1)).length oc, i64 A] (by rw [newTo_n (k := k) (by omega)]) ?_; refine Imp.ownZ_eq (.slice ob (l ++ newTo D (amD D e) who d k).length oc) (.slice ob (l ++ newTo D (amD D e) who d (k + 1)).length oc) (by rw [newTo_n (k := k) (by omega)]) ?_; exact r_here (by repeat (first | exact FSub.nil | refine FSub.cons rfl ?_)) SelMC.sel SubRC.sub) (by first | omega | (show _ + 1 ≤ _; omega)) (by first | omega | (show _ - (_ + 1) < _ - _; omega))
    ·
      first
      | (exfalso; revert hc29; decide)
      | (exfalso; omega)
      | skip
        refine r_exit ?_
        repeat (first | with_reducible refine r_then_exit ?_ | with_reducible refine r_sc_exit ?_ | with_reducible refine r_in_here ?_ | (with_reducible refine r_in_past (by decide) ?_) | with_reducible refine r_then ?_ | with_reducible refine r_in_normal ?_ | with_reducible refine r_sc_normal ?_)
        refine r_seq ?_
        refine r_seq ?_
        refine r_region ?_
        refine o_q _ rfl rfl rfl (v_move rfl rfl) ?_
        refine o_q _ rfl rfl rfl (v_nilCheck rfl rfl) ?_
        first | refine o_q _ rfl rfl rfl (v_fieldAddr rfl Tryd.underlying108 inf25 rfl rfl rfl rfl) ?_ | refine o_q _ rfl rfl rfl (v_fieldAddrE rfl Tryd.underlying108 inf25 rfl rfl rfl rfl) ?_
        first | refine o_q _ rfl rfl rfl (v_fieldAddr rfl Tryd.underlying25 inf23 rfl rfl rfl rfl) ?_ | refine o_q _ rfl rfl rfl (v_fieldAddrE rfl Tryd.underlying25 inf23 rfl rfl rfl rfl) ?_
        first | refine o_q _ rfl rfl rfl (v_ld1 rfl Tryd.underlying23 rfl rfl rfl) ?_ | refine o_q _ rfl rfl rfl (v_lf1 rfl Tryd.underlying23 rfl rfl rfl) ?_ | refine o_q _ rfl rfl rfl (v_loadE1 rfl Tryd.underlying23 rfl rfl (by omega) rfl rfl) ?_
        refine o_q _ rfl rfl rfl (v_len rfl rfl Tryd.underlying23 rfl) ?_
        refine o_q _ rfl rfl rfl (v_move rfl rfl) ?_
        refine o_nil ?_
        repeat (first | with_reducible refine r_then ?_ | with_reducible refine r_in_normal ?_ | with_reducible refine r_sc_normal ?_)
        refine r_block ?_
        refine r_loop (ι := Nat) (fun k => k ≤ D.paid.length) (fun k => [(0, pt lb 0), (3, i64 (d : Int)), (5, pt b5 0), (6, pt b6 0), (8, pt b8 0), (9, endV e), (63, .slice po D.paid.length pc), (64, i64 D.paid.length), (65, i64 k)]) (fun k => ownZ (.slice ob (l ++ newF D (amD D e) who d).length oc) 116 4 encO (l ++ newF D (amD D e) who d) :: bx b5 77 [.slice ob (l ++ newF D (amD D e) who d).length oc, i64 (A + paidTo D (paD D e) who d k)] :: bx b6 113 [i64 who, i64 (e : Int), i64 (kd : Int), .bool g] :: bx b8 77 [.slice none 0 0, i64 0] :: M) (fun k => [boxF lb 108 [i64 D.people, .slice uo D.dues.length uc, .slice po D.paid.length pc, .map (some mb)], rowD uo 5 encD D.dues, rowD po 4 encP D.paid, rowD (some ⟨0, 0, none⟩) 1 encE ([0, 1] : List Nat), rowD oa 4 encO l] ++ Rf) (fun k => D.paid.length - k) 0 ?_ ?_ ?_
        ·
          obtain rfl : k = D.dues.length := by omega
          refine Imp.box_to b5 [.slice ob (l ++ newF D (amD D e) who d).length oc, i64 (A + paidTo D (paD D e) who d 0)] (by rw [show paidTo D (paD D e) who d 0 = 0 from rfl, Int.add_zero]) ?_
          exact r_here (by repeat (first | exact FSub.nil | refine FSub.cons rfl ?_)) SelMC.sel SubRC.sub
        ·
          omega
        ·
          rintro k hI1
          have hp1 := paid_bdD hg e who d k (by omega)
          have hp2 := hg.ny
          have hp3 := fun h => pa_bd hg e k h
          refine r_seq ?_
          refine r_region ?_
          refine o_q _ rfl rfl rfl (v_lss rfl rfl rfl) ?_
          refine o_nil ?_
          repeat (first | with_reducible refine r_then ?_ | with_reducible refine r_in_normal ?_ | with_reducible refine r_sc_normal ?_)
          refine r_seq ?_
          first | refine r_condd rfl (fun hc66 => ?_) (fun hc66 => ?_) | refine r_cond rfl (fun hc66 => ?_) (fun hc66 => ?_)
          ·
            first
            | (exfalso; revert hc66; decide)
            | (exfalso; omega)
            | skip
              refine r_skip ?_
              repeat (first | with_reducible refine r_then ?_ | with_reducible refine r_in_normal ?_ | with_reducible refine r_sc_normal ?_)
              refine r_seq ?_
              refine r_block ?_
              refine r_seq ?_
              refine r_region ?_
              first | refine o_q _ rfl rfl rfl (v_indexAddrSn rfl Tryd.underlying23 inf54 rfl rfl rfl (by omega) rfl) ?_ | refine o_q _ rfl rfl rfl (v_indexAddrS rfl Tryd.underlying23 inf54 rfl rfl rfl (by omega) (by omega) rfl) ?_
              refine o_q _ rfl rfl rfl (v_loadEN (us := encP (D.paid.getD k default)) rfl Tryd.underlying54 rfl inf54 rfl (by omega) rfl rfl rfl) ?_
              refine o_alloc rfl inf54 rfl rfl rfl rfl rfl (fun b13 => ?_)
              refine o_st rfl inf54 rfl rfl rfl rfl rfl rfl rfl rfl ?_
              refine o_nil ?_
              repeat (first | with_reducible refine r_then ?_ | with_reducible refine r_in_normal ?_ | with_reducible refine r_sc_normal ?_)
              refine r_seq ?_
              refine Imp.box_to b13 (encP (D.paid.getD k default)) rfl ?_
              refine r_region ?_
              first | refine o_q _ rfl rfl rfl (v_fieldAddr rfl Tryd.underlying54 inf3 rfl rfl rfl rfl) ?_ | refine o_q _ rfl rfl rfl (v_fieldAddrE rfl Tryd.underlying54 inf3 rfl rfl rfl rfl) ?_
              first | refine o_q _ rfl rfl rfl (v_ld1 rfl Tryd.underlying3 rfl rfl rfl) ?_ | refine o_q _ rfl rfl rfl (v_lf1 rfl Tryd.underlying3 rfl rfl rfl) ?_ | refine o_q _ rfl rfl rfl (v_loadE1 rfl Tryd.underlying3 rfl rfl (by omega) rfl rfl) ?_
              first | refine o_q _ rfl rfl rfl (v_fieldAddr rfl Tryd.underlying113 inf3 rfl rfl rfl rfl) ?_ | refine o_q _ rfl rfl rfl (v_fieldAddrE rfl Tryd.underlying113 inf3 rfl rfl rfl rfl) ?_
              first | refine o_q _ rfl rfl rfl (v_ld1 rfl Tryd.underlying3 rfl rfl rfl) ?_ | refine o_q _ rfl rfl rfl (v_lf1 rfl Tryd.underlying3 rfl rfl rfl) ?_ | refine o_q _ rfl rfl rfl (v_loadE1 rfl Tryd.underlying3 rfl rfl (by omega) rfl rfl) ?_
              first | refine o_q _ rfl rfl rfl (v_true (v_eql rfl rfl rfl) (by omega)) ?_ | refine o_q _ rfl rfl rfl (v_false (v_eql rfl rfl rfl) (by omega)) ?_ | refine o_test rfl rfl rfl (v_eql rfl rfl rfl) (fun h73 => ?_) (fun h73 => ?_)
              all_goals
                refine o_q _ rfl rfl rfl (v_move rfl rfl) ?_
                first | refine o_gn rfl rfl rfl rfl ?_ | refine o_g _ rfl rfl rfl rfl (v_fieldAddr rfl Tryd.underlying54 inf3 rfl rfl rfl rfl) ?_ | refine o_g _ rfl rfl rfl rfl (v_fieldAddrE rfl Tryd.underlying54 inf3 rfl rfl rfl rfl) ?_
                first | refine o_gn rfl rfl rfl rfl ?_ | refine o_g _ rfl rfl rfl rfl (v_ld1 rfl Tryd.underlying3 rfl rfl rfl) ?_ | refine o_g _ rfl rfl rfl rfl (v_lf1 rfl Tryd.underlying3 rfl rfl rfl) ?_ | refine o_g _ rfl rfl rfl rfl (v_loadE1 rfl Tryd.underlying3 rfl rfl (by omega) rfl rfl) ?_
                first | refine o_gn rfl rfl rfl rfl ?_ | refine o_g _ rfl rfl rfl rfl (v_move rfl rfl) ?_
                first | refine o_gn rfl rfl rfl rfl ?_ | refine o_g _ rfl rfl rfl rfl (v_true (v_eql rfl rfl rfl) (by omega)) ?_ | refine o_g _ rfl rfl rfl rfl (v_false (v_eql rfl rfl rfl) (by omega)) ?_ | refine o_gtest rfl rfl rfl rfl (v_eql rfl rfl rfl) (fun h78 => ?_) (fun h78 => ?_)
                all_goals
                  first | refine o_q _ rfl rfl rfl (v_pick_t rfl rfl rfl) ?_ | refine o_q _ rfl rfl rfl (v_pick_f rfl rfl rfl) ?_
                  refine o_nil ?_
                  repeat (first | with_reducible refine r_then ?_ | with_reducible refine r_in_normal ?_ | with_reducible refine r_sc_normal ?_)
                  first | refine r_condd rfl (fun hc79 => ?_) (fun hc79 => ?_) | refine r_cond rfl (fun hc79 => ?_) (fun hc79 => ?_)
                  ·
                    first
                    | (exfalso; revert hc79; decide)
                    | (exfalso; omega)
                    | skip
                      refine r_par' 6 mixed (by kernel_rfl) (by rfl) ?_
                      first | refine p_q _ rfl rfl rfl (fun _ _ => v_fieldAddr rfl Tryd.underlying77 inf75 rfl rfl rfl rfl) ?_ | refine p_q _ rfl rfl rfl (fun _ _ => v_fieldAddrE rfl Tryd.underlying77 inf75 rfl rfl rfl rfl) ?_
                      first | refine p_q _ rfl rfl rfl (fun _ _ => v_ld1 rfl Tryd.underlying75 rfl rfl rfl) ?_ | refine p_q _ rfl rfl rfl (fun _ _ => v_lf1 rfl Tryd.underlying75 rfl rfl rfl) ?_ | refine p_q _ rfl rfl rfl (fun _ _ => v_loadE1 rfl Tryd.underlying75 rfl rfl (by omega) rfl rfl) ?_
                      refine p_q _ rfl rfl rfl (fun _ _ => v_move rfl rfl) ?_
                      first | refine p_q _ rfl rfl rfl (fun _ _ => v_fieldAddr rfl Tryd.underlying54 inf29 rfl rfl rfl rfl) ?_ | refine p_q _ rfl rfl rfl (fun _ _ => v_fieldAddrE rfl Tryd.underlying54 inf29 rfl rfl rfl rfl) ?_
                      first | refine p_q _ rfl rfl rfl (fun _ _ => v_ldW rfl Tryd.underlying29 rfl inf29 rfl rfl) ?_ | refine p_q _ rfl rfl rfl (fun _ _ => v_lfW rfl Tryd.underlying29 rfl inf29 rfl rfl) ?_ | refine p_q _ rfl rfl rfl (fun _ _ => v_lfN rfl Tryd.underlying29 rfl inf29 rfl rfl rfl) ?_ | refine p_q _ rfl rfl rfl (fun _ _ => v_ldN rfl Tryd.underlying29 rfl inf29 rfl rfl rfl) ?_ | refine p_q _ rfl rfl rfl (fun _ _ => v_loadEN rfl Tryd.underlying29 rfl inf29 rfl (by omega) rfl rfl rfl) ?_
                      refine p_q _ rfl rfl rfl (fun _ _ => OpQ.invoke (paid_v e (D.paid.getD k default).sods) (paidM e) rfl rfl rfl rfl SubRC.sub) ?_
                      refine p_nil2 (by simp only [List.nil_append, List.cons_append]; rfl) rfl ?_
                      refine f_q rfl ?_
                      refine f_q rfl ?_
                      refine f_q rfl ?_
                      refine f_q rfl ?_
                      refine f_q rfl ?_
                      refine f_q rfl ?_
                      refine f_nil ?_
                      refine o_q _ rfl rfl rfl (v_add rfl rfl rfl (by simp only [paD] at hp3; omega)) ?_
                      first | refine o_q _ rfl rfl rfl (v_fieldAddr rfl Tryd.underlying77 inf75 rfl rfl rfl rfl) ?_ | refine o_q _ rfl rfl rfl (v_fieldAddrE rfl Tryd.underlying77 inf75 rfl rfl rfl rfl) ?_
                      refine o_st rfl inf75 rfl rfl rfl rfl rfl rfl rfl rfl ?_
                      refine o_nil ?_
                      repeat (first | with_reducible refine r_then ?_ | with_reducible refine r_in_normal ?_ | with_reducible refine r_sc_normal ?_)
                      refine r_region ?_
                      refine o_q _ rfl rfl rfl (v_add rfl rfl rfl (by omega)) ?_
                      refine o_q _ rfl rfl rfl (v_move rfl rfl) ?_
                      refine o_nil ?_
                      repeat (first | with_reducible refine r_then ?_ | with_reducible refine r_in_normal ?_ | with_reducible refine r_sc_normal ?_)
                      first
                      | exact r_next (k + 1) (by refine Imp.box_to b5 [.slice ob (l ++ newF D (amD D e) who d).length oc, i64 (A + paidTo D (paD D e) who d (k + 1))] (by rw [paidTo_y (k := k) (by omega) (by omega), ← Int.add_assoc]; rfl) ?_; exact r_here (by repeat (first | exact FSub.nil | refine FSub.cons rfl ?_)) SelMC.sel SubRC.sub) (by first | omega | (show _ + 1 ≤ _; omega)) (by first | omega | (show _ - (_ + 1) < _ - _; omega))
                      | exact r_next (k + 1) (by refine Imp.box_to b5 [.slice ob (l ++ newF D (amD D e) who d).length oc, i64 (A + paidTo D (paD D e) who d (k + 1))] (by rw [paidTo_n (k := k) (by omega)]) ?_; exact r_here (by repeat (first | exact FSub.nil | refine FSub.cons rfl ?_)) SelMC.sel SubRC.sub) (by first | omega | (show _ + 1 ≤ _; omega)) (by first | omega | (show _ - (_ + 1) < _ - _; omega))
                  ·
                    first
                    | (exfalso; revert hc79; decide)
                    | (exfalso; omega)
                    | skip
                      refine r_skip ?_
                      repeat (first | with_reducible refine r_then ?_ | with_reducible refine r_in_normal ?_ | with_reducible refine r_sc_normal ?_)
                      refine r_region ?_
                      refine o_q _ rfl rfl rfl (v_add rfl rfl rfl (by omega)) ?_
                      refine o_q _ rfl rfl rfl (v_move rfl rfl) ?_
                      refine o_nil ?_
                      repeat (first | with_reducible refine r_then ?_ | with_reducible refine r_in_normal ?_ | with_reducible refine r_sc_normal ?_)
                      first
                      | exact r_next (k + 1) (by refine Imp.box_to b5 [.slice ob (l ++ newF D (amD D e) who d).length oc, i64 (A + paidTo D (paD D e) who d (k + 1))] (by rw [paidTo_y (k := k) (by omega) (by omega), ← Int.add_assoc]; rfl) ?_; exact r_here (by repeat (first | exact FSub.nil | refine FSub.cons rfl ?_)) SelMC.sel SubRC.sub) (by first | omega | (show _ + 1 ≤ _; omega)) (by first | omega | (show _ - (_ + 1) < _ - _; omega))
                      | exact r_next (k + 1) (by refine Imp.box_to b5 [.slice ob (l ++ newF D (amD D e) who d).length oc, i64 (A + paidTo D (paD D e) who d (k + 1))] (by rw [paidTo_n (k := k) (by omega)]) ?_; exact r_here (by repeat (first | exact FSub.nil | refine FSub.cons rfl ?_)) SelMC.sel SubRC.sub) (by first | omega | (show _ + 1 ≤ _; omega)) (by first | omega | (show _ - (_ + 1) < _ - _; omega))
          ·
            first
            | (exfalso; revert hc66; decide)
            | (exfalso; omega)
            | skip
              refine r_exit ?_
              repeat (first | with_reducible refine r_then_exit ?_ | with_reducible refine r_sc_exit ?_ | with_reducible refine r_in_here ?_ | (with_reducible refine r_in_past (by decide) ?_) | with_reducible refine r_then ?_ | with_reducible refine r_in_normal ?_ | with_reducible refine r_sc_normal ?_)
              refine r_seq ?_
              obtain rfl : k = D.paid.length := by omega
              refine Imp.settleZ2 (.slice ob (l ++ newF D (amD D e) who d).length oc) encO_len (fun oe ce hee => ?_)
              cases hee
              refine r_region ?_
              first | refine o_q _ rfl rfl rfl (v_fieldAddr rfl Tryd.underlying77 inf74 rfl rfl rfl rfl) ?_ | refine o_q _ rfl rfl rfl (v_fieldAddrE rfl Tryd.underlying77 inf74 rfl rfl rfl rfl) ?_
              first | refine o_q _ rfl rfl rfl (v_ld1 rfl Tryd.underlying74 rfl rfl rfl) ?_ | refine o_q _ rfl rfl rfl (v_lf1 rfl Tryd.underlying74 rfl rfl rfl) ?_ | refine o_q _ rfl rfl rfl (v_loadE1 rfl Tryd.underlying74 rfl rfl (by omega) rfl rfl) ?_
              refine o_q _ rfl rfl rfl (OpQ.fn (sort_v (l ++ newF D (amD D e) who d) ob oc (by omega) hs) rfl rfl SubRC.sub) ?_
              refine o_nil ?_
              repeat (first | with_reducible refine r_then ?_ | with_reducible refine r_in_normal ?_ | with_reducible refine r_sc_normal ?_)
              refine r_seq ?_
              refine Imp.box_to b5 [.slice ob (l ++ newF D (amD D e) who d).length oc, i64 (A + paidS D (paD D e) who d)] rfl ?_
              refine r_region ?_
              first | refine o_q _ rfl rfl rfl (v_ldW rfl Tryd.underlying77 rfl inf77 rfl rfl) ?_ | refine o_q _ rfl rfl rfl (v_lfW rfl Tryd.underlying77 rfl inf77 rfl rfl) ?_ | refine o_q _ rfl rfl rfl (v_lfN rfl Tryd.underlying77 rfl inf77 rfl rfl rfl) ?_ | refine o_q _ rfl rfl rfl (v_ldN rfl Tryd.underlying77 rfl inf77 rfl rfl rfl) ?_ | refine o_q _ rfl rfl rfl (v_loadEN rfl Tryd.underlying77 rfl inf77 rfl (by omega) rfl rfl rfl) ?_
              refine o_fnF (pay_s (l ++ newF D (amD D e) who d) ob oc (A + paidS D (paD D e) who d) (by omega) (fun x hx => by have := (hb x hx).1; omega) (by have hp1 := paid_bdD hg e who d D.paid.length (Nat.le_refl _); have hp2 := hg.ny; show 0 ≤ A + paidTo D (paD D e) who d D.paid.length ∧ A + paidTo D (paD D e) who d D.paid.length ≤ _; omega)) rfl rfl rfl rfl rfl SubRC.sub (fun x93 => ?_)
              refine o_st rfl inf77 rfl rfl rfl rfl rfl rfl rfl rfl ?_
              refine o_nil ?_
              repeat (first | with_reducible refine r_then ?_ | with_reducible refine r_in_normal ?_ | with_reducible refine r_sc_normal ?_)
              refine r_ret ?_
              repeat (first | with_reducible refine r_then_ret ?_ | with_reducible refine r_in_ret ?_ | with_reducible refine r_sc_ret ?_)
              refine Imp.box_to b8 [.slice x93.1 (payL (l ++ newF D (amD D e) who d) (A + paidS D (paD D e) who d)).length x93.2, i64 (restF (l ++ newF D (amD D e) who d) (A + paidS D (paD D e) who d))] rfl ?_
              exact r_rete [] [rowD x93.1 4 encO (payL (l ++ newF D (amD D e) who d) (A + paidS D (paD D e) who d))] (Rd.one rfl (RdI.cellW Tryd.underlying77 rfl inf77 rfl rfl)) ⟨x93, rfl, rfl, rfl⟩ SelMC.sel SubRC.sub
end Go.Proofs.YtpfgiednfjfdmaaDoor


namespace Go.G
variable {P : Program} {W : World} {n : Nat} {D : List Deferred} {L : Tm} {M : List Res} {R : List Fact} {Q : Exit → Act → World → Prop} {o : Oper} {F : Fence} {m0 : Nat}
theorem anyIn_of_any {ops : Array Oper} (hF : WideF P F) (hnd : ∀ (i : Nat) (o : Oper), ops[i]? = some o → noDefer o.op = true) (hno : ∀ a w, Q .outgrown a w → False) : ∀ {fuel : Nat} {listed : Array Bool} {a : Act} {w : World}, wpAny P .any ops Q fuel listed a w → wpAnyIn F m0 P .any ops Q fuel listed a w
  | 0, _, _, _, h => h
  | fuel + 1, listed, a, w, h => by
    refine ⟨h.1, fun i hi => ?_⟩
    have h2 := h.2 i hi
    unfold wpOp at h2
    unfold wpOpIn
    cases ho : ops[i]? with
    | none =>
      rw [ho] at h2
      exact anyIn_of_any hF hnd hno h2
    | some o =>
      rw [ho] at h2
      dsimp only at h2 ⊢
      split
      · rename_i hw
        rw [if_pos hw] at h2
        rcases h2 with h2 | ⟨_, a0, w0, h3⟩
        · exact Oper.wpIn_mono (fun _ _ h' => anyIn_of_any hF hnd hno h') (opIn_of_wp hF (hnd i o ho) h2)
        · exact (hno _ _ h3).elim
      · rename_i hw
        rw [if_neg hw] at h2
        exact ⟨fun f _ => hF.fn f, anyIn_of_any hF hnd hno h2⟩
theorem ri_parZ {id : Nat} {l : List Oper} (Z : World → Prop) (hZ : ∀ X F w, St W (X ++ M) (F ++ R) w → Z w) (fl : List Nat) (m : Nat) (hF : WideF P F) (hnd : l.all (fun o => noDefer o.op) = true) (hml : Nat.ble m l.length = true) (hns : Region.noSelect l.toArray = true) (hbk : backB l = true) (htl : tailF fl (masks l []) m l.length = true) (hfs : freesB l fl = true)
    (hm : P.follows .mixedOrders = true) (hpb : parB ((floatL fl m l).take m) ((floatL fl m l).drop m) = true) (hfr : freshB L ((floatL fl m l).take m) = true)
    (h : ParO P W n M R (floatL fl m l).toArray (fun ss => FlZ Z P n L ((floatL fl m l).take m) ss fl ∧ preOf ss = [] ∧ lateX (floatL fl m l).toArray ss = true ∧ Fin W n D (wpListZ Z P (floatL fl m l).toArray (NoP Q) ((floatL fl m l).drop m)) ((floatL fl m l).take m) ss L M R) ((floatL fl m l).take m) [] L) : Imp W n D L M R ((Code.region id l.toArray true).wpIn F m0 P Q) := by
  have hml : m ≤ l.length := by simpa using hml
  intro a w h1 h2 h3
  refine Go.wpIn_mono (Q := NoP Q) ?_ (fun e a' w' he => ?_)
  rotate_left
  · cases e with
    | normal => exact he
    | _ => exact he.elim
  refine wpIn_region_any hm (anyIn_of_any hF (fun i o ho => ?_) (fun _ _ h => h) ?_)
  · have : l[i]? = some o := by simpa using ho
    exact List.all_eq_true.1 hnd o (List.mem_of_getElem? this)
  obtain ⟨ss, hl, ⟨hsi, hpre, hlx, hfin⟩, hs⟩ := ParO.out ((floatL fl m l).take m) [] L h
  rw [List.nil_append] at hsi hpre hlx hfin
  have hLB : lateB (floatL fl m l).toArray ss 0 ss = true := by simp only [lateX, Bool.and_eq_true] at hlx; exact hlx.1
  have hlk : ∀ o ∈ (floatL fl m l).take m, look L (o.dst.getD 1000000) = none := fun o ho => by
    have := List.all_eq_true.1 hfr o ho
    simpa using this
  refine (floatZ_all hZ hml hpb hl hlk (lateOK_of hLB) (fun k s c e1 e2 => (lateX_ab hlx k s c e1 e2).elim) (fun k o s e1 e2 => by
    have := hs k o s e1 e2
    rw [List.nil_append, List.length_nil, Nat.zero_add] at this
    exact this) hfin hsi hns hbk htl hfs _ _ _ _ ⟨?_, ?_, ?_, h1, h2, fun _ => undef, ?_, ?_⟩ ?_).any
  · simp [floatL_len]
  · intro j o _ hj
    rw [rep_false] at hj; cases hj
  · intro t _ ht
    have : t < l.length := by simpa [floatL_len] using ht
    simp [this]
  · intro i o s e1 _ hj
    rw [rep_false] at hj; cases hj
  · have e1 : resOf ss (Array.replicate l.toArray.size false) (fun _ => undef) ((floatL fl m l).take m).length = [] := by
      rw [← hpre, ← preOf_range, hl]
      refine flatMap_same _ _ _ fun j hj => ?_
      rw [rep_false]; rfl
    have e2 : ∀ k, fctOf ss (Array.replicate l.toArray.size false) (fun _ => undef) k = [] := by
      intro k
      unfold fctOf
      induction k with
      | zero => rfl
      | succ k ih => rw [List.range_succ, List.flatMap_append, ih, List.nil_append, List.flatMap_cons, List.flatMap_nil, List.append_nil, rep_false]; rfl
    rw [e1, e2]
    exact h3.heap rfl rfl rfl rfl
  · have := unl_tail (N := l.length) (m := 0) (listed := Array.replicate l.length false) (fun i hi => by omega)
    simpa using this
end Go.G


namespace Go.Proofs.YtpfgiednfjfdmaaDoor
open Go.G Debt10
set_option maxRecDepth 1000000
attribute [local irreducible] G.ParO G.Fin
def natsI (n : Nat) : List Int := (List.range n).map fun k : Nat => (k : Int)
theorem natsI_len (n : Nat) : (natsI n).length = n := by simp [natsI]
theorem natsI_get {n i : Nat} (h : i < n) : (natsI n)[i]? = some (i : Int) := by simp [natsI, h]
theorem natsI_is {n i : Nat} {x : Int} (h : (natsI n)[i]? = some x) : i < n ∧ x = (i : Int) := by
  unfold natsI at h
  rw [List.getElem?_map] at h
  by_cases hi : i < n
  · rw [List.getElem?_range hi] at h
    simp at h; exact ⟨hi, h.symm⟩
  · rw [List.getElem?_eq_none (by rw [List.length_range]; omega)] at h
    cases h
def cap1 : Value → Nat
  | .func _ _ cs => blk (cs.getD 0 undef)
  | _ => 0
set_option maxHeartbeats 4000000 in
theorem days_r (d : Nat) : FnR Tryd.prog 83 [i64 (d : Int)] [] (fun v => v = .func (.func 98) #[] #[pt (cap1 v) 0]) (fun v => [boxF (cap1 v) 3 [i64 (d : Int)]]) := by
  refine FnR.intro Tryd.call83 Tryd.func83 rfl Tryd.ntmps83 rfl ?_
  intro W M Rf
  refine r_seq ?_
  refine r_region ?_
  refine o_box1 rfl rfl rfl rfl rfl rfl (fun b1 => ?_)
  refine o_q _ rfl rfl rfl (v_assign rfl rfl) ?_
  refine o_nil ?_
  repeat (first | with_reducible refine r_then ?_ | with_reducible refine r_in_normal ?_ | with_reducible refine r_sc_normal ?_)
  refine r_seq ?_
  refine r_region ?_
  refine o_q _ rfl rfl rfl (v_makeFunc rfl rfl rfl) ?_
  refine o_q _ rfl rfl rfl (v_assign rfl rfl) ?_
  refine o_nil ?_
  repeat (first | with_reducible refine r_then ?_ | with_reducible refine r_in_normal ?_ | with_reducible refine r_sc_normal ?_)
  refine r_ret ?_
  repeat (first | with_reducible refine r_then_ret ?_ | with_reducible refine r_in_ret ?_ | with_reducible refine r_sc_ret ?_)
  refine Imp.sealB b1 ?_
  exact r_retr (Rd.tmp rfl rfl) rfl SelMC.sel (fun _ h => h)
set_option maxHeartbeats 4000000 in
theorem days1_s (d c1 : Nat) (hd : d ≤ 1000) : IsSeqG Tryd.prog 98 [pt c1 0] [boxF c1 3 [i64 (d : Int)]] (fun x => [i64 x]) (natsI (d + 1)) := by
  refine IsSeqG.intro Tryd.call98 Tryd.func98 rfl Tryd.ntmps98 rfl ?_
  intro γ l J F g0 W Rf hY
  refine r_scope ?_
  refine r_seq ?_
  refine r_label ?_
  repeat (first | with_reducible refine r_then ?_ | with_reducible refine r_in_normal ?_ | with_reducible refine r_sc_normal ?_)
  refine r_seq ?_
  refine r_region ?_
  first | refine o_q _ rfl rfl rfl (v_ld1 rfl Tryd.underlying3 rfl rfl rfl) ?_ | refine o_q _ rfl rfl rfl (v_lf1 rfl Tryd.underlying3 rfl rfl rfl) ?_ | refine o_q _ rfl rfl rfl (v_loadE1 rfl Tryd.underlying3 rfl rfl (by omega) rfl rfl) ?_
  refine o_q _ rfl rfl rfl (v_cast (v := i64 ((d + 1 : Nat) : Int)) (v_add rfl rfl rfl (by omega)) (congrArg (Value.int .i64) (by omega))) ?_
  refine o_q _ rfl rfl rfl (v_move rfl rfl) ?_
  refine o_nil ?_
  repeat (first | with_reducible refine r_then ?_ | with_reducible refine r_in_normal ?_ | with_reducible refine r_sc_normal ?_)
  refine r_block ?_
  refine r_loop (ι := γ × Nat) (fun gh => gh.2 ≤ d + 1) (fun gh => [(0, .func (.yield l) #[] #[]), (1, pt c1 0), (5, i64 ((d + 1 : Nat) : Int)), (6, i64 (gh.2 : Nat))]) (fun gh => [J gh.1 gh.2]) (fun gh => F gh.1 gh.2 :: ([boxF c1 3 [i64 (d : Int)]] ++ Rf)) (fun gh => d + 1 - gh.2) (g0, 0) ?_ ?_ ?_
  ·
    exact r_here (by repeat (first | exact FSub.nil | refine FSub.cons rfl ?_)) SelMC.sel SubRC.sub
  ·
    exact Nat.zero_le _
  ·
    rintro ⟨q, j⟩ hI0
    dsimp only at hI0
    dsimp only
    have hI : j ≤ d + 1 := hI0
    refine r_seq ?_
    refine r_region ?_
    refine o_q _ rfl rfl rfl (v_lss rfl rfl rfl) ?_
    refine o_nil ?_
    repeat (first | with_reducible refine r_then ?_ | with_reducible refine r_in_normal ?_ | with_reducible refine r_sc_normal ?_)
    refine r_seq ?_
    first | refine r_condd rfl (fun hc7 => ?_) (fun hc7 => ?_) | refine r_cond rfl (fun hc7 => ?_) (fun hc7 => ?_)
    ·
      first
      | (exfalso; revert hc7; decide)
      | (exfalso; omega)
      | skip
        refine r_skip ?_
        repeat (first | with_reducible refine r_then ?_ | with_reducible refine r_in_normal ?_ | with_reducible refine r_sc_normal ?_)
        refine r_seq ?_
        refine r_block ?_
        refine r_seq ?_
        refine r_region ?_
        refine o_q _ rfl rfl rfl (v_move rfl rfl) ?_
        refine o_q _ rfl rfl rfl (v_assign rfl rfl) ?_
        refine o_nil ?_
        repeat (first | with_reducible refine r_then ?_ | with_reducible refine r_in_normal ?_ | with_reducible refine r_sc_normal ?_)
        refine r_seq ?_
        refine r_region_in ?_
        refine oi_lift wideF rfl (fun _ _ h => by obtain ⟨⟨v, hv⟩, _⟩ := h; cases hv) ?_
        refine o_q _ rfl rfl rfl (v_move rfl rfl) ?_
        refine o_nil ?_
        refine r_then ?_
        refine oi_lift wideF rfl (fun _ _ h => by obtain ⟨⟨v, hv⟩, _⟩ := h; cases hv) ?_
        refine o_q _ rfl rfl rfl (v_move rfl rfl) ?_
        refine o_nil ?_
        refine r_then ?_
        refine oi_yieldsG2 (Ri := [boxF c1 3 [i64 (d : Int)]]) hY (natsI_get (i := j) (by omega)) rfl rfl rfl rfl rfl rfl rfl (fun q2 => ?_)
        all_goals
          refine oi_lift wideF rfl (fun _ _ h => by obtain ⟨⟨v, hv⟩, _⟩ := h; cases hv) ?_
          refine o_q _ rfl rfl rfl (v_not rfl rfl) ?_
          refine o_nil ?_
          refine r_then ?_
          refine oi_nil ?_
          repeat (first | with_reducible refine r_then ?_ | with_reducible refine r_in_normal ?_ | with_reducible refine r_sc_normal ?_)
          first | refine r_condd rfl (fun hc12 => ?_) (fun hc12 => ?_) | refine r_cond rfl (fun hc12 => ?_) (fun hc12 => ?_)
          ·
            first
            | (exfalso; revert hc12; decide)
            | (exfalso; omega)
            | skip
              refine r_exit ?_
              repeat (first | with_reducible refine r_then_exit ?_ | with_reducible refine r_sc_exit ?_ | with_reducible refine r_in_here ?_ | (with_reducible refine r_in_past (by decide) ?_) | with_reducible refine r_then ?_ | with_reducible refine r_in_normal ?_ | with_reducible refine r_sc_normal ?_)
              exact r_retseqG q j (by rw [natsI_len]; omega) (Rd.none rfl) SelMC.sel SubRC.sub
          ·
            first
            | (exfalso; revert hc12; decide)
            | (exfalso; omega)
            | skip
              refine r_skip ?_
              repeat (first | with_reducible refine r_then ?_ | with_reducible refine r_in_normal ?_ | with_reducible refine r_sc_normal ?_)
              refine r_region ?_
              refine o_q _ rfl rfl rfl (v_add rfl rfl rfl (by omega)) ?_
              refine o_q _ rfl rfl rfl (v_move rfl rfl) ?_
              refine o_nil ?_
              repeat (first | with_reducible refine r_then ?_ | with_reducible refine r_in_normal ?_ | with_reducible refine r_sc_normal ?_)
              first
              | exact r_next ((q2, j + 1)) (by exact r_here (by repeat (first | exact FSub.nil | refine FSub.cons rfl ?_)) SelMC.sel SubRC.sub) (by first | omega | (show _ + 1 ≤ _; omega)) (by first | omega | (show _ - (_ + 1) < _ - _; omega))
    ·
      first
      | (exfalso; revert hc7; decide)
      | (exfalso; omega)
      | skip
        refine r_exit ?_
        repeat (first | with_reducible refine r_then_exit ?_ | with_reducible refine r_sc_exit ?_ | with_reducible refine r_in_here ?_ | (with_reducible refine r_in_past (by decide) ?_) | with_reducible refine r_then ?_ | with_reducible refine r_in_normal ?_ | with_reducible refine r_sc_normal ?_)
        exact r_retseqG q j (by rw [natsI_len]; omega) (Rd.none rfl) SelMC.sel SubRC.sub
/-- What a key's account is. -/
def accP (D : Debt) (e : Nat) (who : Int) (d : Nat) (g : Bool) : List Opn × Int := if g then progA D e who (d + 1) else progB D e who d
theorem keyV_inj {who who' : Int} {e e' d d' : Nat} {g g' : Bool} (h : keyV who e d g = keyV who' e' d' g') : who = who' ∧ e = e' ∧ d = d' ∧ g = g' := by
  have h2 : [i64 who, i64 (e : Int), i64 (d : Int), .bool g] = [i64 who', i64 (e' : Int), i64 (d' : Int), .bool g'] := congrArg Array.toList (Value.agg.inj h)
  simp only [List.cons.injEq, Value.int.injEq, true_and, and_true, Value.bool.injEq] at h2
  obtain ⟨a, b, c, f⟩ := h2
  exact ⟨a, by omega, by omega, f⟩
/-- All accounts that are kept lie there. -/
def entF (D : Debt) (G : Cont) : Fact := fun V => ∀ who e d g v, G (keyV who e d g) = some v → ∃ oa c, v = vA oa (accP D e who d g).1.length c (accP D e who d g).2 ∧ rowD oa 4 encO (accP D e who d g).1 V
theorem entF_put {D : Debt} {G : Cont} {V : View} {who : Int} {e d : Nat} {g : Bool} {oa : Option Addr} {c : Nat} (h : entF D G V) (hr : rowD oa 4 encO (accP D e who d g).1 V) : entF D (G.put (keyV who e d g) (vA oa (accP D e who d g).1.length c (accP D e who d g).2)) V := by
  intro who' e' d' g' v hv
  by_cases hk : keyV who' e' d' g' = keyV who e d g
  · obtain ⟨rfl, rfl, rfl, rfl⟩ := keyV_inj hk
    rw [Cont.put_eq] at hv
    exact ⟨oa, c, (Option.some.inj hv).symm, hr⟩
  · rw [Cont.put_ne _ _ hk] at hv
    exact h who' e' d' g' v hv
theorem Imp.ent {D : Debt} {G : Cont} {who : Int} {e d : Nat} {g : Bool} {v : Value} {W : World} {n : Nat} {Df : List Deferred} {L : Tm} {M : List Res} {R : List Fact} {X : Act → World → Prop} [hm : InR (entF D G) R] (hG : G (keyV who e d g) = some v)
    (h : ∀ oa c, v = vA oa (accP D e who d g).1.length c (accP D e who d g).2 → Imp W n Df L M (rowD oa 4 encO (accP D e who d g).1 :: R) X) : Imp W n Df L M R X := by
  refine Imp.fact hm.mem (fun ⟨V0, hV⟩ => ?_)
  obtain ⟨oa, c, rfl, _⟩ := hV who e d g v hG
  refine (h oa c rfl).derive (fun V hR => ?_)
  obtain ⟨oa', c', h1, h2⟩ := hR _ hm.mem who e d g _ hG
  have h3 : [Value.slice oa (accP D e who d g).1.length c, i64 (accP D e who d g).2] = [.slice oa' (accP D e who d g).1.length c', i64 (accP D e who d g).2] := congrArg Array.toList (Value.agg.inj h1)
  simp only [List.cons.injEq, Value.slice.injEq, true_and, and_true] at h3
  rw [h3.1]; exact h2
variable (D : Debt) (uo po : Option Addr) (uc pc : Nat)
variable (lb mb : Nat)
theorem dayP (who : Int) (e kd : Nat) (g : Bool) (d : Nat) (oa : Option Addr) (c : Nat) (hg : GoodD D) (he : e < 2) (hd : d ≤ 31) : FnS Tryd.prog 84 [pt lb 0, vA oa (progA D e who d).1.length c (progA D e who d).2, .agg #[i64 who, i64 (e : Int), i64 (kd : Int), .bool g], i64 (d : Int)] [] [boxF lb 108 [i64 D.people, .slice uo D.dues.length uc, .slice po D.paid.length pc, .map (some mb)], rowD uo 5 encD D.dues, rowD po 4 encP D.paid, rowD (some ⟨0, 0, none⟩) 1 encE ([0, 1] : List Nat), rowD oa 4 encO (progA D e who d).1] (fun ed M' R' => ∃ x : Option Addr × Nat, ed = .returned (vA x.1 (progB D e who d).1.length x.2 (progB D e who d).2) ∧ M' = [] ∧ R' = [rowD x.1 4 encO (progB D e who d).1]) := by
  have h := day_s D uo po uc pc lb mb who e kd g d (progA D e who d).1 oa c (progA D e who d).2 hg he hd (prog_len hg e who d) (prog_sorted hg e who d) (prog_bdN hg e who d hd) (prog_bd hg e who d hd).2
  rw [(prog_pay hg e who d).1, (prog_pay hg e who d).2] at h
  exact h
theorem growP (who : Int) (e d : Nat) (oa : Option Addr) (c : Nat) (hg : GoodD D) (hd : d ≤ 31) : FnS Tryd.prog 85 [vA oa (progB D e who d).1.length c (progB D e who d).2, i64 (d : Int)] [] [rowD oa 4 encO (progB D e who d).1] (fun ed M' R' => ∃ x : Option Addr × Nat, ed = .returned (vA x.1 (progA D e who (d + 1)).1.length x.2 (progA D e who (d + 1)).2) ∧ M' = [] ∧ R' = [rowD x.1 4 encO (progA D e who (d + 1)).1]) := by
  have hb := (prog_bdB hg e who d hd).1
  have h := grow_s (progB D e who d).1 oa c (progB D e who d).2 d (by have := prog_lenB hg e who d; omega) (fun x hx => by have := hb x hx; omega) (by omega)
  rw [(prog_grow hg e who d).1, (prog_grow hg e who d).2] at h
  exact h
set_option maxHeartbeats 4000000 in
theorem account_y (G : Cont) (who : Int) (e kd : Nat) (g : Bool) (hg : GoodD D) (hw : -1000 ≤ who ∧ who ≤ 1000) (he : e < 2) (hk : kd ≤ 30) (v0 : Value) (hG : G (keyV who e kd g) = some v0) : FnS Tryd.prog 74 [pt lb 0, .agg #[i64 who, i64 (e : Int), i64 (kd : Int), .bool g]] [mapG Tryd.prog 113 mb G] [entF D G, boxF lb 108 [i64 D.people, .slice uo D.dues.length uc, .slice po D.paid.length pc, .map (some mb)], rowD uo 5 encD D.dues, rowD po 4 encP D.paid, rowD (some ⟨0, 0, none⟩) 1 encE ([0, 1] : List Nat)] (fun ed M' R' => ∃ x : Cont × Option Addr × Nat, ed = .returned (vA x.2.1 (accP D e who kd g).1.length x.2.2 (accP D e who kd g).2) ∧ True ∧ M' = [mapG Tryd.prog 113 mb x.1] ∧ R' = [entF D x.1, rowD x.2.1 4 encO (accP D e who kd g).1]) := by
  obtain ⟨kl, hkl⟩ := key_of (g := g) hw he (show kd ≤ 1000 by omega)
  refine FnS.intro1 Tryd.call74 Tryd.func74 rfl Tryd.ntmps74 rfl ?_
  intro W M Rf
  refine Imp.ent (D := D) hG (fun oa0 c0 hv0 => ?_)
  subst hv0
  refine r_seq ?_
  refine r_region ?_
  refine o_box1 rfl rfl rfl rfl rfl rfl (fun b2 => ?_)
  refine o_boxA rfl rfl rfl rfl rfl (fun b3 => ?_)
  refine o_alloc rfl inf77 rfl rfl rfl rfl rfl (fun b4 => ?_)
  refine o_nil ?_
  repeat (first | with_reducible refine r_then ?_ | with_reducible refine r_in_normal ?_ | with_reducible refine r_sc_normal ?_)
  refine r_seq ?_
  refine r_seq ?_
  refine r_par' 11 mixed (by kernel_rfl) (by rfl) ?_
  first | refine p_q _ rfl rfl rfl (fun _ _ => v_ld1 rfl Tryd.underlying69 rfl rfl rfl) ?_ | refine p_q _ rfl rfl rfl (fun _ _ => v_lf1 rfl Tryd.underlying69 rfl rfl rfl) ?_ | refine p_q _ rfl rfl rfl (fun _ _ => v_loadE1 rfl Tryd.underlying69 rfl rfl (by omega) rfl rfl) ?_
  refine p_q _ rfl rfl rfl (fun _ _ => v_nilCheck rfl rfl) ?_
  first | refine p_q _ rfl rfl rfl (fun _ _ => v_fieldAddr rfl Tryd.underlying108 inf106 rfl rfl rfl rfl) ?_ | refine p_q _ rfl rfl rfl (fun _ _ => v_fieldAddrE rfl Tryd.underlying108 inf106 rfl rfl rfl rfl) ?_
  first | refine p_q _ rfl rfl rfl (fun _ _ => v_ld1 rfl Tryd.underlying106 rfl rfl rfl) ?_ | refine p_q _ rfl rfl rfl (fun _ _ => v_lf1 rfl Tryd.underlying106 rfl rfl rfl) ?_ | refine p_q _ rfl rfl rfl (fun _ _ => v_loadE1 rfl Tryd.underlying106 rfl rfl (by omega) rfl rfl) ?_
  first | refine p_q _ rfl rfl rfl (fun _ _ => v_ldW rfl Tryd.underlying113 rfl inf113 rfl rfl) ?_ | refine p_q _ rfl rfl rfl (fun _ _ => v_lfW rfl Tryd.underlying113 rfl inf113 rfl rfl) ?_ | refine p_q _ rfl rfl rfl (fun _ _ => v_lfN rfl Tryd.underlying113 rfl inf113 rfl rfl rfl) ?_ | refine p_q _ rfl rfl rfl (fun _ _ => v_ldN rfl Tryd.underlying113 rfl inf113 rfl rfl rfl) ?_ | refine p_q _ rfl rfl rfl (fun _ _ => v_loadEN rfl Tryd.underlying113 rfl inf113 rfl (by omega) rfl rfl rfl) ?_
  refine p_q _ rfl rfl rfl (fun _ _ => v_cast (v := .tuple #[vA oa0 (accP D e who kd g).1.length c0 (accP D e who kd g).2, .bool true]) (v_lookG G (some (vA oa0 (accP D e who kd g).1.length c0 (accP D e who kd g).2)) keyLaw113 hkl rfl Tryd.underlying106 inf77 (z := (.agg #[.slice none 0 0, i64 0])) rfl hG rfl rfl) rfl) ?_
  refine p_q _ rfl rfl rfl (fun _ _ => v_move rfl rfl) ?_
  refine p_q _ rfl rfl rfl (fun _ _ => v_extract rfl rfl rfl) ?_
  refine p_q _ rfl rfl rfl (fun _ _ => v_extract rfl rfl rfl) ?_
  refine p_allocL (zs := [.slice none 0 0, i64 0]) 10 ([.slice oa0 (accP D e who kd g).1.length c0, i64 (accP D e who kd g).2]) rfl inf77 rfl (by kernel_rfl) rfl rfl rfl ?_
  refine p_acc (by simp only [List.nil_append, List.cons_append]; rfl) ?_
  refine p_stl 9 rfl rfl rfl inf77 rfl rfl rfl (by kernel_rfl) (fun _ => rfl) rfl (rfl) (rfl) (rfl) ?_
  refine p_nil2 (by simp only [List.nil_append, List.cons_append]; rfl) rfl ?_ (by kernel_rfl)
  refine f_q rfl ?_
  refine f_q rfl ?_
  refine f_q rfl ?_
  refine f_q rfl ?_
  refine f_q rfl ?_
  refine f_q rfl ?_
  refine f_q rfl ?_
  refine f_q rfl ?_
  refine f_q rfl ?_
  refine f_allocL rfl (fun b5 => ?_)
  refine f_s rfl ?_
  refine f_nil ?_
  refine o_q _ rfl rfl rfl (v_assign rfl rfl) ?_
  refine o_nil ?_
  repeat (first | with_reducible refine r_then ?_ | with_reducible refine r_in_normal ?_ | with_reducible refine r_sc_normal ?_)
  refine r_seq ?_
  refine r_region ?_
  refine o_q _ rfl rfl rfl (v_move rfl rfl) ?_
  refine o_nil ?_
  repeat (first | with_reducible refine r_then ?_ | with_reducible refine r_in_normal ?_ | with_reducible refine r_sc_normal ?_)
  first | refine r_condd rfl (fun hc19 => ?_) (fun hc19 => ?_) | refine r_cond rfl (fun hc19 => ?_) (fun hc19 => ?_)
  ·
    first
    | (exfalso; revert hc19; decide)
    | (exfalso; omega)
    | skip
      refine r_seq ?_
      refine r_region ?_
      first | refine o_q _ rfl rfl rfl (v_ldW rfl Tryd.underlying77 rfl inf77 rfl rfl) ?_ | refine o_q _ rfl rfl rfl (v_lfW rfl Tryd.underlying77 rfl inf77 rfl rfl) ?_ | refine o_q _ rfl rfl rfl (v_lfN rfl Tryd.underlying77 rfl inf77 rfl rfl rfl) ?_ | refine o_q _ rfl rfl rfl (v_ldN rfl Tryd.underlying77 rfl inf77 rfl rfl rfl) ?_ | refine o_q _ rfl rfl rfl (v_loadEN rfl Tryd.underlying77 rfl inf77 rfl (by omega) rfl rfl rfl) ?_
      refine o_st rfl inf77 rfl rfl rfl rfl rfl rfl rfl rfl ?_
      refine o_nil ?_
      repeat (first | with_reducible refine r_then ?_ | with_reducible refine r_in_normal ?_ | with_reducible refine r_sc_normal ?_)
      refine r_ret ?_
      repeat (first | with_reducible refine r_then_ret ?_ | with_reducible refine r_in_ret ?_ | with_reducible refine r_sc_ret ?_)
      refine Imp.box_to b4 [.slice oa0 (accP D e who kd g).1.length c0, i64 (accP D e who kd g).2] rfl ?_
      exact r_rete [mapG Tryd.prog 113 mb G] [entF D G, rowD oa0 4 encO (accP D e who kd g).1] (Rd.one rfl (RdI.cellW Tryd.underlying77 rfl inf77 rfl rfl)) ⟨(G, oa0, c0), rfl, trivial, rfl, rfl⟩ SelMC.sel SubRC.sub
  ·
    first
    | (exfalso; revert hc19; decide)
    | (exfalso; omega)
    | skip
      (exfalso; omega)
theorem step_all {G : Cont} {who : Int} {e i : Nat} {u v : Value} (h : ∀ j, j < i → ∀ g, ∃ v, G (keyV who e j g) = some v) : ∀ j, j < i + 1 → ∀ g, ∃ x, ((G.put (keyV who e i false) u).put (keyV who e i true) v) (keyV who e j g) = some x := by
  intro j hj g
  by_cases h1 : keyV who e j g = keyV who e i true
  · rw [h1, Cont.put_eq]; exact ⟨_, rfl⟩
  · rw [Cont.put_ne _ _ h1]
    by_cases h2 : keyV who e j g = keyV who e i false
    · rw [h2, Cont.put_eq]; exact ⟨_, rfl⟩
    · rw [Cont.put_ne _ _ h2]
      refine h j ?_ g
      rcases Nat.lt_succ_iff_lt_or_eq.1 hj with h3 | rfl
      · exact h3
      · cases g
        · exact absurd rfl h2
        · exact absurd rfl h1
set_option maxHeartbeats 4000000 in
theorem account_n (G : Cont) (who : Int) (e kd : Nat) (g : Bool) (hg : GoodD D) (hw : -1000 ≤ who ∧ who ≤ 1000) (he : e < 2) (hk : kd ≤ 30) (hG : G (keyV who e kd g) = none) : FnS Tryd.prog 74 [pt lb 0, .agg #[i64 who, i64 (e : Int), i64 (kd : Int), .bool g]] [mapG Tryd.prog 113 mb G] [entF D G, boxF lb 108 [i64 D.people, .slice uo D.dues.length uc, .slice po D.paid.length pc, .map (some mb)], rowD uo 5 encD D.dues, rowD po 4 encP D.paid, rowD (some ⟨0, 0, none⟩) 1 encE ([0, 1] : List Nat)] (fun ed M' R' => ∃ x : Cont × Option Addr × Nat, ed = .returned (vA x.2.1 (accP D e who kd g).1.length x.2.2 (accP D e who kd g).2) ∧ True ∧ M' = [mapG Tryd.prog 113 mb x.1] ∧ R' = [entF D x.1, rowD x.2.1 4 encO (accP D e who kd g).1]) := by
  obtain ⟨kl, hkl⟩ := key_of (g := g) hw he (show kd ≤ 1000 by omega)
  refine FnS.introM1 Tryd.call74 Tryd.func74 rfl Tryd.ntmps74 rfl ?_
  intro W M Rf
  refine r_seq ?_
  refine r_region ?_
  refine o_box1 rfl rfl rfl rfl rfl rfl (fun b2 => ?_)
  refine o_boxA rfl rfl rfl rfl rfl (fun b3 => ?_)
  refine o_alloc rfl inf77 rfl rfl rfl rfl rfl (fun b4 => ?_)
  refine o_nil ?_
  repeat (first | with_reducible refine r_then ?_ | with_reducible refine r_in_normal ?_ | with_reducible refine r_sc_normal ?_)
  refine r_seq ?_
  refine r_seq ?_
  refine r_par' 11 mixed (by kernel_rfl) (by rfl) ?_
  first | refine p_q _ rfl rfl rfl (fun _ _ => v_ld1 rfl Tryd.underlying69 rfl rfl rfl) ?_ | refine p_q _ rfl rfl rfl (fun _ _ => v_lf1 rfl Tryd.underlying69 rfl rfl rfl) ?_ | refine p_q _ rfl rfl rfl (fun _ _ => v_loadE1 rfl Tryd.underlying69 rfl rfl (by omega) rfl rfl) ?_
  refine p_q _ rfl rfl rfl (fun _ _ => v_nilCheck rfl rfl) ?_
  first | refine p_q _ rfl rfl rfl (fun _ _ => v_fieldAddr rfl Tryd.underlying108 inf106 rfl rfl rfl rfl) ?_ | refine p_q _ rfl rfl rfl (fun _ _ => v_fieldAddrE rfl Tryd.underlying108 inf106 rfl rfl rfl rfl) ?_
  first | refine p_q _ rfl rfl rfl (fun _ _ => v_ld1 rfl Tryd.underlying106 rfl rfl rfl) ?_ | refine p_q _ rfl rfl rfl (fun _ _ => v_lf1 rfl Tryd.underlying106 rfl rfl rfl) ?_ | refine p_q _ rfl rfl rfl (fun _ _ => v_loadE1 rfl Tryd.underlying106 rfl rfl (by omega) rfl rfl) ?_
  first | refine p_q _ rfl rfl rfl (fun _ _ => v_ldW rfl Tryd.underlying113 rfl inf113 rfl rfl) ?_ | refine p_q _ rfl rfl rfl (fun _ _ => v_lfW rfl Tryd.underlying113 rfl inf113 rfl rfl) ?_ | refine p_q _ rfl rfl rfl (fun _ _ => v_lfN rfl Tryd.underlying113 rfl inf113 rfl rfl rfl) ?_ | refine p_q _ rfl rfl rfl (fun _ _ => v_ldN rfl Tryd.underlying113 rfl inf113 rfl rfl rfl) ?_ | refine p_q _ rfl rfl rfl (fun _ _ => v_loadEN rfl Tryd.underlying113 rfl inf113 rfl (by omega) rfl rfl rfl) ?_
  refine p_q _ rfl rfl rfl (fun _ _ => v_cast (v := .tuple #[(.agg #[.slice none 0 0, i64 0]), .bool false]) (v_lookG G none keyLaw113 hkl rfl Tryd.underlying106 inf77 (z := (.agg #[.slice none 0 0, i64 0])) rfl hG rfl rfl) rfl) ?_
  refine p_q _ rfl rfl rfl (fun _ _ => v_move rfl rfl) ?_
  refine p_q _ rfl rfl rfl (fun _ _ => v_extract rfl rfl rfl) ?_
  refine p_q _ rfl rfl rfl (fun _ _ => v_extract rfl rfl rfl) ?_
  refine p_allocL (zs := [.slice none 0 0, i64 0]) 10 ([.slice none 0 0, i64 0]) rfl inf77 rfl (by kernel_rfl) rfl rfl rfl ?_
  refine p_acc (by simp only [List.nil_append, List.cons_append]; rfl) ?_
  refine p_stl 9 rfl rfl rfl inf77 rfl rfl rfl (by kernel_rfl) (fun _ => rfl) rfl (rfl) (rfl) (rfl) ?_
  refine p_nil2 (by simp only [List.nil_append, List.cons_append]; rfl) rfl ?_ (by kernel_rfl)
  refine f_q rfl ?_
  refine f_q rfl ?_
  refine f_q rfl ?_
  refine f_q rfl ?_
  refine f_q rfl ?_
  refine f_q rfl ?_
  refine f_q rfl ?_
  refine f_q rfl ?_
  refine f_q rfl ?_
  refine f_allocL rfl (fun b5 => ?_)
  refine f_s rfl ?_
  refine f_nil ?_
  refine o_q _ rfl rfl rfl (v_assign rfl rfl) ?_
  refine o_nil ?_
  repeat (first | with_reducible refine r_then ?_ | with_reducible refine r_in_normal ?_ | with_reducible refine r_sc_normal ?_)
  refine r_seq ?_
  refine r_region ?_
  refine o_q _ rfl rfl rfl (v_move rfl rfl) ?_
  refine o_nil ?_
  repeat (first | with_reducible refine r_then ?_ | with_reducible refine r_in_normal ?_ | with_reducible refine r_sc_normal ?_)
  first | refine r_condd rfl (fun hc19 => ?_) (fun hc19 => ?_) | refine r_cond rfl (fun hc19 => ?_) (fun hc19 => ?_)
  ·
    first
    | (exfalso; revert hc19; decide)
    | (exfalso; omega)
    | skip
      (exfalso; omega)
  ·
    first
    | (exfalso; revert hc19; decide)
    | (exfalso; omega)
    | skip
      refine r_skip ?_
      repeat (first | with_reducible refine r_then ?_ | with_reducible refine r_in_normal ?_ | with_reducible refine r_sc_normal ?_)
      refine r_seq ?_
      refine r_region ?_
      refine o_alloc rfl inf77 rfl rfl rfl rfl rfl (fun b7 => ?_)
      refine o_nil ?_
      repeat (first | with_reducible refine r_then ?_ | with_reducible refine r_in_normal ?_ | with_reducible refine r_sc_normal ?_)
      refine r_seq ?_
      refine r_seq ?_
      refine Imp.sealB b2 ?_
      refine Imp.sealB b3 ?_
      refine Imp.box_to b4 [.slice none 0 0, i64 0] rfl ?_
      refine Imp.box_to b7 [.slice none (progA D e who 0).1.length 0, i64 (progA D e who 0).2] rfl ?_
      refine r_region ?_
      first | refine o_q _ rfl rfl rfl (v_fieldAddr rfl Tryd.underlying113 inf3 rfl rfl rfl rfl) ?_ | refine o_q _ rfl rfl rfl (v_fieldAddrE rfl Tryd.underlying113 inf3 rfl rfl rfl rfl) ?_
      first | refine o_q _ rfl rfl rfl (v_ld1 rfl Tryd.underlying3 rfl rfl rfl) ?_ | refine o_q _ rfl rfl rfl (v_lf1 rfl Tryd.underlying3 rfl rfl rfl) ?_ | refine o_q _ rfl rfl rfl (v_loadE1 rfl Tryd.underlying3 rfl rfl (by omega) rfl rfl) ?_
      refine o_fn (days_r kd) rfl rfl rfl rfl rfl SubRC.sub (fun v23 hv23 => ?_)
      (obtain ⟨c1, hc1⟩ : ∃ c, cap1 v23 = c := ⟨_, rfl⟩); rw [hc1] at hv23 ⊢; clear hc1; subst hv23
      all_goals
        refine o_nil ?_
        repeat (first | with_reducible refine r_then ?_ | with_reducible refine r_in_normal ?_ | with_reducible refine r_sc_normal ?_)
        refine r_block ?_
        refine r_rangeG (days1_s kd c1 (by omega)) rfl SubRC.sub (fun _ => rfl) rfl (fun (gh : Cont × Option Addr × Nat) i => exR fun (_ : Unit) => [mapG Tryd.prog 113 mb gh.1, bx b7 77 [.slice gh.2.1 (progA D e who i).1.length gh.2.2, i64 (progA D e who i).2]]) (fun (gh : Cont × Option Addr × Nat) i V => entF D gh.1 V ∧ rowD gh.2.1 4 encO (progA D e who i).1 V ∧ ∀ j, j < i → ∀ g, ∃ v, gh.1 (keyV who e j g) = some v) ((G, none, 0)) (M0 := bx b4 77 [.slice none 0 0, i64 0] :: M) (M1 := mapG Tryd.prog 113 mb G :: bx b7 77 [.slice none (progA D e who 0).1.length 0, i64 (progA D e who 0).2] :: bx b4 77 [.slice none 0 0, i64 0] :: M) SelMC.sel (fun w h => (St.pk () h).derive (fun V hV => ⟨hV _ (by simp), .inl rfl, fun j hj => absurd hj (by omega)⟩)) ?_ ?_
        ·
          intro l i x hx gh Mi Ri rdy bsy hbg
          obtain ⟨hi, rfl⟩ := natsI_is hx
          obtain ⟨G1, oa1, c1'⟩ := gh
          refine Imp.unpk2 (fun _ => ?_)
          obtain ⟨klf, hkf⟩ := key_of (g := false) hw he (show i ≤ 1000 by omega)
          obtain ⟨klt, hkt⟩ := key_of (g := true) hw he (show i ≤ 1000 by omega)
          refine Imp.fact (List.mem_cons_self ..) (fun ⟨V0, hV0⟩ => ?_)
          have hpre := hV0.2.2
          clear hV0
          refine Imp.derive (ψ := rowD oa1 4 encO (progA D e who i).1) ?_ (fun V hV => (hV _ (List.mem_cons_self ..)).2.1)
          refine ri_region ?_
          refine oi_lift wideR rfl (fun _ _ h => h) ?_
          refine o_q _ rfl rfl rfl (v_assign rfl rfl) ?_
          refine o_nil ?_
          refine r_then ?_
          refine oi_nil ?_
          repeat (first | with_reducible refine r_then ?_ | with_reducible refine r_in_normal ?_ | with_reducible refine r_sc_normal ?_)
          refine r_begin hbg ?_
          refine ri_block ?_
          refine ri_seq ?_
          refine ri_region ?_
          refine oi_lift wideR rfl (fun _ _ h => h) ?_
          first | refine o_q _ rfl rfl rfl (v_ld1 rfl Tryd.underlying69 rfl rfl rfl) ?_ | refine o_q _ rfl rfl rfl (v_lf1 rfl Tryd.underlying69 rfl rfl rfl) ?_ | refine o_q _ rfl rfl rfl (v_loadE1 rfl Tryd.underlying69 rfl rfl (by omega) rfl rfl) ?_
          refine o_nil ?_
          refine r_then ?_
          refine oi_lift wideR rfl (fun _ _ h => h) ?_
          first | refine o_q _ rfl rfl rfl (v_ldW rfl Tryd.underlying77 rfl inf77 rfl rfl) ?_ | refine o_q _ rfl rfl rfl (v_lfW rfl Tryd.underlying77 rfl inf77 rfl rfl) ?_ | refine o_q _ rfl rfl rfl (v_lfN rfl Tryd.underlying77 rfl inf77 rfl rfl rfl) ?_ | refine o_q _ rfl rfl rfl (v_ldN rfl Tryd.underlying77 rfl inf77 rfl rfl rfl) ?_ | refine o_q _ rfl rfl rfl (v_loadEN rfl Tryd.underlying77 rfl inf77 rfl (by omega) rfl rfl rfl) ?_
          refine o_nil ?_
          refine r_then ?_
          refine oi_lift wideR rfl (fun _ _ h => h) ?_
          first | refine o_q _ rfl rfl rfl (v_ldW rfl Tryd.underlying113 rfl inf113 rfl rfl) ?_ | refine o_q _ rfl rfl rfl (v_lfW rfl Tryd.underlying113 rfl inf113 rfl rfl) ?_ | refine o_q _ rfl rfl rfl (v_lfN rfl Tryd.underlying113 rfl inf113 rfl rfl rfl) ?_ | refine o_q _ rfl rfl rfl (v_ldN rfl Tryd.underlying113 rfl inf113 rfl rfl rfl) ?_ | refine o_q _ rfl rfl rfl (v_loadEN rfl Tryd.underlying113 rfl inf113 rfl (by omega) rfl rfl rfl) ?_
          refine o_nil ?_
          refine r_then ?_
          refine oi_lift wideR rfl (fun _ _ h => h) ?_
          refine o_q _ rfl rfl rfl (v_move rfl rfl) ?_
          refine o_nil ?_
          refine r_then ?_
          refine oi_lift wideR rfl (fun _ _ h => h) ?_
          refine o_fnF (dayP D uo po uc pc lb mb who e kd g i oa1 c1' hg he (by omega)) rfl rfl rfl rfl rfl SubRC.sub (fun x29 => ?_)
          refine o_nil ?_
          refine r_then ?_
          refine oi_lift wideR rfl (fun _ _ h => h) ?_
          refine o_alloc rfl inf77 rfl rfl rfl rfl rfl (fun b9 => ?_)
          refine o_nil ?_
          refine r_then ?_
          refine oi_lift wideR rfl (fun _ _ h => h) ?_
          refine o_st rfl inf77 rfl rfl rfl rfl rfl rfl rfl rfl ?_
          refine o_nil ?_
          refine r_then ?_
          refine oi_nil ?_
          repeat (first | with_reducible refine r_then ?_ | with_reducible refine r_in_normal ?_ | with_reducible refine r_sc_normal ?_)
          refine ri_seq ?_
          refine ri_region ?_
          refine oi_lift wideR rfl (fun _ _ h => h) ?_
          first | refine o_q _ rfl rfl rfl (v_ldW rfl Tryd.underlying77 rfl inf77 rfl rfl) ?_ | refine o_q _ rfl rfl rfl (v_lfW rfl Tryd.underlying77 rfl inf77 rfl rfl) ?_ | refine o_q _ rfl rfl rfl (v_lfN rfl Tryd.underlying77 rfl inf77 rfl rfl rfl) ?_ | refine o_q _ rfl rfl rfl (v_ldN rfl Tryd.underlying77 rfl inf77 rfl rfl rfl) ?_ | refine o_q _ rfl rfl rfl (v_loadEN rfl Tryd.underlying77 rfl inf77 rfl (by omega) rfl rfl rfl) ?_
          refine o_nil ?_
          refine r_then ?_
          refine oi_lift wideR rfl (fun _ _ h => h) ?_
          refine o_q _ rfl rfl rfl (v_move rfl rfl) ?_
          refine o_nil ?_
          refine r_then ?_
          refine oi_lift wideR rfl (fun _ _ h => h) ?_
          refine o_fnF (growP D who e i x29.1 x29.2 hg (by omega)) rfl rfl rfl rfl rfl SubRC.sub (fun x32 => ?_)
          refine o_nil ?_
          refine r_then ?_
          refine oi_lift wideR rfl (fun _ _ h => h) ?_
          refine o_st rfl inf77 rfl rfl rfl rfl rfl rfl rfl rfl ?_
          refine o_nil ?_
          refine r_then ?_
          refine oi_nil ?_
          repeat (first | with_reducible refine r_then ?_ | with_reducible refine r_in_normal ?_ | with_reducible refine r_sc_normal ?_)
          refine Imp.box_to b9 [.slice x29.1 (progB D e who i).1.length x29.2, i64 (progB D e who i).2] rfl ?_
          refine Imp.box_to b7 [.slice x32.1 (progA D e who (i + 1)).1.length x32.2, i64 (progA D e who (i + 1)).2] rfl ?_
          refine ri_parZ (fun w => w.heap[b9]? = some (.cells ([.slice x29.1 (progB D e who i).1.length x29.2, i64 (progB D e who i).2]).toArray 77 (0, 0)) ∧ w.heap[b7]? = some (.cells ([.slice x32.1 (progA D e who (i + 1)).1.length x32.2, i64 (progA D e who (i + 1)).2]).toArray 77 (0, 0)) ∧ w.heap[b3]? = some (.cells ([i64 who, i64 (e : Int), i64 (kd : Int), .bool g]).toArray 113 (0, 0))) (fun X F w h => ⟨h.bl (List.mem_append_right _ (HasBox.mem (b := b9))), h.bl (List.mem_append_right _ (HasBox.mem (b := b7))), h.fact (φ := boxF b3 113 [i64 who, i64 (e : Int), i64 (kd : Int), .bool g]) (List.mem_append_right _ InR.mem)⟩) [14, 15, 16, 17, 18, 19, 20, 21] 22 wideR (by kernel_rfl) (by kernel_rfl) (by kernel_rfl) (by kernel_rfl) (by kernel_rfl) (by kernel_rfl) mixed (by kernel_rfl) (by rfl) ?_
          first | refine p_q _ rfl rfl rfl (fun _ _ => v_ld1 rfl Tryd.underlying69 rfl rfl rfl) ?_ | refine p_q _ rfl rfl rfl (fun _ _ => v_lf1 rfl Tryd.underlying69 rfl rfl rfl) ?_ | refine p_q _ rfl rfl rfl (fun _ _ => v_loadE1 rfl Tryd.underlying69 rfl rfl (by omega) rfl rfl) ?_
          refine p_q _ rfl rfl rfl (fun _ _ => v_nilCheck rfl rfl) ?_
          first | refine p_q _ rfl rfl rfl (fun _ _ => v_fieldAddr rfl Tryd.underlying108 inf106 rfl rfl rfl rfl) ?_ | refine p_q _ rfl rfl rfl (fun _ _ => v_fieldAddrE rfl Tryd.underlying108 inf106 rfl rfl rfl rfl) ?_
          first | refine p_q _ rfl rfl rfl (fun _ _ => v_ld1 rfl Tryd.underlying106 rfl rfl rfl) ?_ | refine p_q _ rfl rfl rfl (fun _ _ => v_lf1 rfl Tryd.underlying106 rfl rfl rfl) ?_ | refine p_q _ rfl rfl rfl (fun _ _ => v_loadE1 rfl Tryd.underlying106 rfl rfl (by omega) rfl rfl) ?_
          first | refine p_q _ rfl rfl rfl (fun _ _ => v_fieldAddr rfl Tryd.underlying113 inf3 rfl rfl rfl rfl) ?_ | refine p_q _ rfl rfl rfl (fun _ _ => v_fieldAddrE rfl Tryd.underlying113 inf3 rfl rfl rfl rfl) ?_
          first | refine p_q _ rfl rfl rfl (fun _ _ => v_ld1 rfl Tryd.underlying3 rfl rfl rfl) ?_ | refine p_q _ rfl rfl rfl (fun _ _ => v_lf1 rfl Tryd.underlying3 rfl rfl rfl) ?_ | refine p_q _ rfl rfl rfl (fun _ _ => v_loadE1 rfl Tryd.underlying3 rfl rfl (by omega) rfl rfl) ?_
          first | refine p_q _ rfl rfl rfl (fun _ _ => v_fieldAddr rfl Tryd.underlying113 inf3 rfl rfl rfl rfl) ?_ | refine p_q _ rfl rfl rfl (fun _ _ => v_fieldAddrE rfl Tryd.underlying113 inf3 rfl rfl rfl rfl) ?_
          first | refine p_q _ rfl rfl rfl (fun _ _ => v_ld1 rfl Tryd.underlying3 rfl rfl rfl) ?_ | refine p_q _ rfl rfl rfl (fun _ _ => v_lf1 rfl Tryd.underlying3 rfl rfl rfl) ?_ | refine p_q _ rfl rfl rfl (fun _ _ => v_loadE1 rfl Tryd.underlying3 rfl rfl (by omega) rfl rfl) ?_
          refine p_q _ rfl rfl rfl (fun _ _ => v_move rfl rfl) ?_
          refine p_q _ rfl rfl rfl (fun _ _ => v_bS rfl Tryd.underlying113 inf113 plt113 rfl rfl rfl (by repeat (first | exact trivial | refine ⟨rfl, ?_⟩)) (by rfl)) ?_
          first | refine p_q _ rfl rfl rfl (fun _ _ => v_ld1 rfl Tryd.underlying69 rfl rfl rfl) ?_ | refine p_q _ rfl rfl rfl (fun _ _ => v_lf1 rfl Tryd.underlying69 rfl rfl rfl) ?_ | refine p_q _ rfl rfl rfl (fun _ _ => v_loadE1 rfl Tryd.underlying69 rfl rfl (by omega) rfl rfl) ?_
          refine p_q _ rfl rfl rfl (fun _ _ => v_nilCheck rfl rfl) ?_
          first | refine p_q _ rfl rfl rfl (fun _ _ => v_fieldAddr rfl Tryd.underlying108 inf106 rfl rfl rfl rfl) ?_ | refine p_q _ rfl rfl rfl (fun _ _ => v_fieldAddrE rfl Tryd.underlying108 inf106 rfl rfl rfl rfl) ?_
          first | refine p_q _ rfl rfl rfl (fun _ _ => v_ld1 rfl Tryd.underlying106 rfl rfl rfl) ?_ | refine p_q _ rfl rfl rfl (fun _ _ => v_lf1 rfl Tryd.underlying106 rfl rfl rfl) ?_ | refine p_q _ rfl rfl rfl (fun _ _ => v_loadE1 rfl Tryd.underlying106 rfl rfl (by omega) rfl rfl) ?_
          first | refine p_q _ rfl rfl rfl (fun _ _ => v_fieldAddr rfl Tryd.underlying113 inf3 rfl rfl rfl rfl) ?_ | refine p_q _ rfl rfl rfl (fun _ _ => v_fieldAddrE rfl Tryd.underlying113 inf3 rfl rfl rfl rfl) ?_
          first | refine p_q _ rfl rfl rfl (fun _ _ => v_ld1 rfl Tryd.underlying3 rfl rfl rfl) ?_ | refine p_q _ rfl rfl rfl (fun _ _ => v_lf1 rfl Tryd.underlying3 rfl rfl rfl) ?_ | refine p_q _ rfl rfl rfl (fun _ _ => v_loadE1 rfl Tryd.underlying3 rfl rfl (by omega) rfl rfl) ?_
          first | refine p_q _ rfl rfl rfl (fun _ _ => v_fieldAddr rfl Tryd.underlying113 inf3 rfl rfl rfl rfl) ?_ | refine p_q _ rfl rfl rfl (fun _ _ => v_fieldAddrE rfl Tryd.underlying113 inf3 rfl rfl rfl rfl) ?_
          first | refine p_q _ rfl rfl rfl (fun _ _ => v_ld1 rfl Tryd.underlying3 rfl rfl rfl) ?_ | refine p_q _ rfl rfl rfl (fun _ _ => v_lf1 rfl Tryd.underlying3 rfl rfl rfl) ?_ | refine p_q _ rfl rfl rfl (fun _ _ => v_loadE1 rfl Tryd.underlying3 rfl rfl (by omega) rfl rfl) ?_
          refine p_q _ rfl rfl rfl (fun _ _ => v_move rfl rfl) ?_
          refine p_q _ rfl rfl rfl (fun _ _ => v_bS rfl Tryd.underlying113 inf113 plt113 rfl rfl rfl (by repeat (first | exact trivial | refine ⟨rfl, ?_⟩)) (by rfl)) ?_
          first | refine p_q _ rfl rfl rfl (fun _ _ => v_ldW rfl Tryd.underlying77 rfl inf77 rfl rfl) ?_ | refine p_q _ rfl rfl rfl (fun _ _ => v_lfW rfl Tryd.underlying77 rfl inf77 rfl rfl) ?_ | refine p_q _ rfl rfl rfl (fun _ _ => v_lfN rfl Tryd.underlying77 rfl inf77 rfl rfl rfl) ?_ | refine p_q _ rfl rfl rfl (fun _ _ => v_ldN rfl Tryd.underlying77 rfl inf77 rfl rfl rfl) ?_ | refine p_q _ rfl rfl rfl (fun _ _ => v_loadEN rfl Tryd.underlying77 rfl inf77 rfl (by omega) rfl rfl rfl) ?_
          first | refine p_q _ rfl rfl rfl (fun _ _ => v_ldW rfl Tryd.underlying77 rfl inf77 rfl rfl) ?_ | refine p_q _ rfl rfl rfl (fun _ _ => v_lfW rfl Tryd.underlying77 rfl inf77 rfl rfl) ?_ | refine p_q _ rfl rfl rfl (fun _ _ => v_lfN rfl Tryd.underlying77 rfl inf77 rfl rfl rfl) ?_ | refine p_q _ rfl rfl rfl (fun _ _ => v_ldN rfl Tryd.underlying77 rfl inf77 rfl rfl rfl) ?_ | refine p_q _ rfl rfl rfl (fun _ _ => v_loadEN rfl Tryd.underlying77 rfl inf77 rfl (by omega) rfl rfl rfl) ?_
          refine p_nilF (by simp only [List.nil_append, List.cons_append]; rfl) rfl ⟨⟨_, _, _, rfl, rfl, rfl, rfl, rfl, float_field rfl Tryd.underlying113 inf3 rfl rfl rfl rfl⟩, ⟨_, _, _, rfl, rfl, rfl, rfl, rfl, float_cell (vs := [i64 who, i64 (e : Int), i64 (kd : Int), .bool g]) (B := 113) rfl Tryd.underlying3 rfl rfl rfl (fun _ h => h.2.2)⟩, ⟨_, _, _, rfl, rfl, rfl, rfl, rfl, float_field rfl Tryd.underlying113 inf3 rfl rfl rfl rfl⟩, ⟨_, _, _, rfl, rfl, rfl, rfl, rfl, float_cell (vs := [i64 who, i64 (e : Int), i64 (kd : Int), .bool g]) (B := 113) rfl Tryd.underlying3 rfl rfl rfl (fun _ h => h.2.2)⟩, ⟨_, _, _, rfl, rfl, rfl, rfl, rfl, float_mv rfl rfl⟩, ⟨_, _, _, rfl, rfl, rfl, rfl, rfl, float_build rfl Tryd.underlying113 inf113 plt113 rfl rfl rfl (by repeat (first | exact trivial | refine ⟨rfl, ?_⟩)) (by rfl)⟩, ⟨_, _, _, rfl, rfl, rfl, rfl, rfl, float_load (vs := [.slice x29.1 (progB D e who i).1.length x29.2, i64 (progB D e who i).2]) (B := 77) rfl Tryd.underlying77 rfl inf77 rfl rfl (fun _ h => h.1)⟩, ⟨_, _, _, rfl, rfl, rfl, rfl, rfl, float_load (vs := [.slice x32.1 (progA D e who (i + 1)).1.length x32.2, i64 (progA D e who (i + 1)).2]) (B := 77) rfl Tryd.underlying77 rfl inf77 rfl rfl (fun _ h => h.2.1)⟩, trivial⟩ ?_
          refine f_q rfl ?_
          refine f_q rfl ?_
          refine f_q rfl ?_
          refine f_q rfl ?_
          refine f_q rfl ?_
          refine f_q rfl ?_
          refine f_q rfl ?_
          refine f_q rfl ?_
          refine f_q rfl ?_
          refine f_q rfl ?_
          refine f_q rfl ?_
          refine f_q rfl ?_
          refine f_q rfl ?_
          refine f_q rfl ?_
          refine f_q rfl ?_
          refine f_q rfl ?_
          refine f_q rfl ?_
          refine f_q rfl ?_
          refine f_q rfl ?_
          refine f_q rfl ?_
          refine f_q rfl ?_
          refine f_q rfl ?_
          refine f_nil ?_
          refine oz_lift (fun w h => ⟨h.bl (HasBox.mem (b := b9)), h.bl (HasBox.mem (b := b7)), h.fact (φ := boxF b3 113 [i64 who, i64 (e : Int), i64 (kd : Int), .bool g]) InR.mem⟩) ?_
          refine o_mapEntry (G := G1) (z := (.agg #[.slice none 0 0, i64 0])) keyLaw113 hkf rfl Tryd.underlying106 inf77 rfl rfl rfl rfl rfl rfl (fun v0 st0 => ?_)
          refine o_nil ?_
          refine r_then ?_
          refine oz_lift (fun w h => ⟨h.bl (HasBox.mem (b := b9)), h.bl (HasBox.mem (b := b7)), h.fact (φ := boxF b3 113 [i64 who, i64 (e : Int), i64 (kd : Int), .bool g]) InR.mem⟩) ?_
          refine o_q _ rfl rfl rfl (v_extract rfl rfl rfl) ?_
          refine o_nil ?_
          refine r_then ?_
          refine oz_lift (fun w h => ⟨h.bl (HasBox.mem (b := b9)), h.bl (HasBox.mem (b := b7)), h.fact (φ := boxF b3 113 [i64 who, i64 (e : Int), i64 (kd : Int), .bool g]) InR.mem⟩) ?_
          refine o_entryStore (P := Tryd.prog) (k := 113) (kv := keyV who e i false) (G := G1) rfl rfl rfl rfl rfl rfl ?_
          refine o_nil ?_
          refine r_then ?_
          refine oz_lift (fun w h => ⟨h.bl (HasBox.mem (b := b9)), h.bl (HasBox.mem (b := b7)), h.fact (φ := boxF b3 113 [i64 who, i64 (e : Int), i64 (kd : Int), .bool g]) InR.mem⟩) ?_
          refine o_mapEntry (G := G1.put (keyV who e i false) (vA x29.1 (progB D e who i).1.length x29.2 (progB D e who i).2)) (z := (.agg #[.slice none 0 0, i64 0])) keyLaw113 hkt rfl Tryd.underlying106 inf77 rfl rfl rfl rfl rfl rfl (fun v1 st1 => ?_)
          refine o_nil ?_
          refine r_then ?_
          refine oz_lift (fun w h => ⟨h.bl (HasBox.mem (b := b9)), h.bl (HasBox.mem (b := b7)), h.fact (φ := boxF b3 113 [i64 who, i64 (e : Int), i64 (kd : Int), .bool g]) InR.mem⟩) ?_
          refine o_q _ rfl rfl rfl (v_extract rfl rfl rfl) ?_
          refine o_nil ?_
          refine r_then ?_
          refine oz_lift (fun w h => ⟨h.bl (HasBox.mem (b := b9)), h.bl (HasBox.mem (b := b7)), h.fact (φ := boxF b3 113 [i64 who, i64 (e : Int), i64 (kd : Int), .bool g]) InR.mem⟩) ?_
          refine o_entryStore (P := Tryd.prog) (k := 113) (kv := keyV who e i true) (G := G1.put (keyV who e i false) (vA x29.1 (progB D e who i).1.length x29.2 (progB D e who i).2)) rfl rfl rfl rfl rfl rfl ?_
          refine o_nil ?_
          refine r_then ?_
          refine oz_nil (fun w h => ⟨h.bl (HasBox.mem (b := b9)), h.bl (HasBox.mem (b := b7)), h.fact (φ := boxF b3 113 [i64 who, i64 (e : Int), i64 (kd : Int), .bool g]) InR.mem⟩) ?_
          refine r_nop ?_
          repeat (first | with_reducible refine r_then ?_ | with_reducible refine r_in_normal ?_ | with_reducible refine r_sc_normal ?_)
          refine Imp.derive (ψ := (fun (gh : Cont × Option Addr × Nat) i V => entF D gh.1 V ∧ rowD gh.2.1 4 encO (progA D e who i).1 V ∧ ∀ j, j < i → ∀ g, ∃ v, gh.1 (keyV who e j g) = some v) (((G1.put (keyV who e i false) (vA x29.1 (progB D e who i).1.length x29.2 (progB D e who i).2)).put (keyV who e i true) (vA x32.1 (progA D e who (i + 1)).1.length x32.2 (progA D e who (i + 1)).2)), x32.1, x32.2) (i + 1)) ?_ (fun V hV => ⟨?_, hV _ (InR.mem (φ := rowD x32.1 4 encO (progA D e who (i + 1)).1)), ?_⟩)
          rotate_left
          ·
            refine entF_put (g := true) (d := i) (entF_put (g := false) (d := i) (hV _ (List.mem_cons_of_mem _ (List.mem_cons_of_mem _ (List.mem_cons_of_mem _ (List.mem_cons_self ..))))).1 ?_) ?_
            ·
              exact hV _ (InR.mem (φ := rowD x29.1 4 encO (progB D e who i).1))
            ·
              exact hV _ (InR.mem (φ := rowD x32.1 4 encO (progA D e who (i + 1)).1))
          ·
            exact fun j hj g => step_all hpre j hj g
          exact r_roundG2 (((G1.put (keyV who e i false) (vA x29.1 (progB D e who i).1.length x29.2 (progB D e who i).2)).put (keyV who e i true) (vA x32.1 (progA D e who (i + 1)).1.length x32.2 (progA D e who (i + 1)).2)), x32.1, x32.2) SelMC.sel SubRC.sub
        ·
          intro gh db
          obtain ⟨G2, oa2, c2⟩ := gh
          rw [natsI_len]
          refine Imp.unpk2 (fun _ => ?_)
          refine Imp.fact (List.mem_cons_self ..) (fun ⟨V0, hV0⟩ => ?_)
          obtain ⟨v1, hG2⟩ := hV0.2.2 kd (by omega) g
          clear hV0
          refine Imp.derive (ψ := entF D G2) ?_ (fun V hV => (hV _ (List.mem_cons_self ..)).1)
          refine Imp.ent (D := D) hG2 (fun oa0 c0 hv1 => ?_)
          subst hv1
          repeat (first | with_reducible refine r_then ?_ | with_reducible refine r_in_normal ?_ | with_reducible refine r_sc_normal ?_)
          refine r_seq ?_
          refine r_par' 5 mixed (by kernel_rfl) (by rfl) ?_
          first | refine p_q _ rfl rfl rfl (fun _ _ => v_ld1 rfl Tryd.underlying69 rfl rfl rfl) ?_ | refine p_q _ rfl rfl rfl (fun _ _ => v_lf1 rfl Tryd.underlying69 rfl rfl rfl) ?_ | refine p_q _ rfl rfl rfl (fun _ _ => v_loadE1 rfl Tryd.underlying69 rfl rfl (by omega) rfl rfl) ?_
          refine p_q _ rfl rfl rfl (fun _ _ => v_nilCheck rfl rfl) ?_
          first | refine p_q _ rfl rfl rfl (fun _ _ => v_fieldAddr rfl Tryd.underlying108 inf106 rfl rfl rfl rfl) ?_ | refine p_q _ rfl rfl rfl (fun _ _ => v_fieldAddrE rfl Tryd.underlying108 inf106 rfl rfl rfl rfl) ?_
          first | refine p_q _ rfl rfl rfl (fun _ _ => v_ld1 rfl Tryd.underlying106 rfl rfl rfl) ?_ | refine p_q _ rfl rfl rfl (fun _ _ => v_lf1 rfl Tryd.underlying106 rfl rfl rfl) ?_ | refine p_q _ rfl rfl rfl (fun _ _ => v_loadE1 rfl Tryd.underlying106 rfl rfl (by omega) rfl rfl) ?_
          first | refine p_q _ rfl rfl rfl (fun _ _ => v_ldW rfl Tryd.underlying113 rfl inf113 rfl rfl) ?_ | refine p_q _ rfl rfl rfl (fun _ _ => v_lfW rfl Tryd.underlying113 rfl inf113 rfl rfl) ?_ | refine p_q _ rfl rfl rfl (fun _ _ => v_lfN rfl Tryd.underlying113 rfl inf113 rfl rfl rfl) ?_ | refine p_q _ rfl rfl rfl (fun _ _ => v_ldN rfl Tryd.underlying113 rfl inf113 rfl rfl rfl) ?_ | refine p_q _ rfl rfl rfl (fun _ _ => v_loadEN rfl Tryd.underlying113 rfl inf113 rfl (by omega) rfl rfl rfl) ?_
          refine p_nil2 (by simp only [List.nil_append, List.cons_append]; rfl) rfl ?_
          refine f_q rfl ?_
          refine f_q rfl ?_
          refine f_q rfl ?_
          refine f_q rfl ?_
          refine f_q rfl ?_
          refine f_nil ?_
          refine o_q _ rfl rfl rfl (v_cast (v := vA oa0 (accP D e who kd g).1.length c0 (accP D e who kd g).2) (v_lookG G2 (some (vA oa0 (accP D e who kd g).1.length c0 (accP D e who kd g).2)) keyLaw113 hkl rfl Tryd.underlying106 inf77 (z := (.agg #[.slice none 0 0, i64 0])) rfl hG2 rfl rfl) rfl) ?_
          refine o_st rfl inf77 rfl rfl rfl rfl rfl rfl rfl rfl ?_
          refine o_nil ?_
          repeat (first | with_reducible refine r_then ?_ | with_reducible refine r_in_normal ?_ | with_reducible refine r_sc_normal ?_)
          refine r_ret ?_
          repeat (first | with_reducible refine r_then_ret ?_ | with_reducible refine r_in_ret ?_ | with_reducible refine r_sc_ret ?_)
          refine Imp.box_to b4 [.slice oa0 (accP D e who kd g).1.length c0, i64 (accP D e who kd g).2] rfl ?_
          exact m_rete [mapG Tryd.prog 113 mb G2] [entF D G2, rowD oa0 4 encO (accP D e who kd g).1] (Rd.one rfl (RdI.cellW Tryd.underlying77 rfl inf77 rfl rfl)) ⟨(G2, oa0, c0), rfl, trivial, rfl, rfl⟩ SelMC.sel SubRC.sub
theorem account_s (G : Cont) (who : Int) (e kd : Nat) (g : Bool) (hg : GoodD D) (hw : -1000 ≤ who ∧ who ≤ 1000) (he : e < 2) (hk : kd ≤ 30) : FnS Tryd.prog 74 [pt lb 0, .agg #[i64 who, i64 (e : Int), i64 (kd : Int), .bool g]] [mapG Tryd.prog 113 mb G] [entF D G, boxF lb 108 [i64 D.people, .slice uo D.dues.length uc, .slice po D.paid.length pc, .map (some mb)], rowD uo 5 encD D.dues, rowD po 4 encP D.paid, rowD (some ⟨0, 0, none⟩) 1 encE ([0, 1] : List Nat)] (fun ed M' R' => ∃ x : Cont × Option Addr × Nat, ed = .returned (vA x.2.1 (accP D e who kd g).1.length x.2.2 (accP D e who kd g).2) ∧ True ∧ M' = [mapG Tryd.prog 113 mb x.1] ∧ R' = [entF D x.1, rowD x.2.1 4 encO (accP D e who kd g).1]) := by
  cases hG : G (keyV who e kd g) with
  | some v0 => exact account_y D uo po uc pc lb mb G who e kd g hg hw he hk v0 hG
  | none => exact account_n D uo po uc pc lb mb G who e kd g hg hw he hk hG
end Go.Proofs.YtpfgiednfjfdmaaDoor

