/- Part 5 of 5 of what the proofs of this seat stand on: a small logic for walks, what the functions come to, and the walks themselves. No condition of its own. -/
import Derived.Test.YtpfgiednfjfdmaaDoorW4
import Derived.Test.YtpfgiednfjfdmaaDoorW3
set_option linter.unusedVariables false
set_option linter.unusedSimpArgs false
set_option linter.unusedSectionVars false
namespace Go.Proofs.YtpfgiednfjfdmaaDoor
open Go.G Debt10
set_option maxRecDepth 1000000
attribute [local irreducible] G.ParO G.Fin
theorem insU_n {c : List Nat} {n : Nat} (hn : c.length = n) (hl : c.length ≤ 1000) (bb cap : Nat) (sp : List Value) (a b : Nat) (hab : a ≤ b) (hb : b ≤ n) : FnC Tryd.prog 87 [.slice (some ⟨bb, 0, none⟩) n cap, i64 (a : Int), i64 (b : Int)] (bx bb 89 ((c).flatMap encU ++ sp)) [] (.tuple #[]) (bx bb 89 ((insA a c (b - a - 1)).flatMap encU ++ sp)) := by
  subst hn
  exact insertU_s c hl bb cap sp a b hab hb
theorem pdq_n {c : List Nat} {n : Nat} (hn : c.length = n) (hl : c.length ≤ 1000) (bb cap : Nat) (sp : List Value) (a b : Nat) (m : Int) (hab : a ≤ b) (hb : b ≤ n) (hs : b - a ≤ 12) : FnC Tryd.prog 76 [.slice (some ⟨bb, 0, none⟩) n cap, i64 (a : Int), i64 (b : Int), i64 m] (bx bb 89 ((c).flatMap encU ++ sp)) [] (.tuple #[]) (bx bb 89 ((insA a c (b - a - 1)).flatMap encU ++ sp)) := by
  subst hn
  exact pdq_ins c hl bb cap sp a b m hab hb hs
theorem choose_n {c : List Nat} {n : Nat} (hn : c.length = n) (hl : c.length ≤ 1000) (bb cap : Nat) (sp : List Value) (a b : Nat) (hab : a + 8 ≤ b) (hb : b ≤ n) (h50 : b - a < 50) (hm0 : (medA c a b).2 ≠ 0) (hm1 : (medA c a b).2 ≠ 12) : FnC Tryd.prog 90 [.slice (some ⟨bb, 0, none⟩) n cap, i64 (a : Int), i64 (b : Int)] (bx bb 89 ((c).flatMap encU ++ sp)) [] (.tuple #[i64 ((medA c a b).1 : Nat), i64 0]) (bx bb 89 ((c).flatMap encU ++ sp)) := by
  subst hn
  exact choose_v c hl bb cap sp a b hab hb h50 hm0 hm1
theorem part_n {c : List Nat} {n : Nat} (hn : c.length = n) (hl : c.length ≤ 1000) (bb cap : Nat) (sp : List Value) (a b p : Nat) (hab : a < b) (hb : b ≤ n) (hp1 : a ≤ p) (hp2 : p < b) (hal : (partT c a b p).2.2 = false) : FnC Tryd.prog 95 [.slice (some ⟨bb, 0, none⟩) n cap, i64 (a : Int), i64 (b : Int), i64 (p : Int)] (bx bb 89 ((c).flatMap encU ++ sp)) [] (.tuple #[i64 ((partT c a b p).2.1 : Nat), .bool false]) (bx bb 89 (((partT c a b p).1).flatMap encU ++ sp)) := by
  subst hn
  rw [← hal]; exact part_v c hl bb cap sp a b p hab hb hp1 hp2
theorem ordT_in {l : List Nat} {a b s n : Nat} (ha : n ≤ a) (hb : n ≤ b) : n ≤ (ordT l a b s).1.1 ∧ n ≤ (ordT l a b s).1.2 := by
  unfold ordT
  split
  · exact ⟨hb, ha⟩
  · exact ⟨ha, hb⟩
theorem medT_in {l : List Nat} {a b c n : Nat} (ha : n ≤ a) (hb : n ≤ b) (hc : n ≤ c) : n ≤ (medT l a b c).1 := by
  have h1 := ordT_in (l := l) (s := 0) ha hb
  have h2 := ordT_in (l := l) (s := (ordT l a b 0).2) h1.2 hc
  exact (ordT_in (l := l) (s := (ordT l (ordT l a b 0).1.2 c (ordT l a b 0).2).2) h1.1 h2.1).2
theorem medA_in (l : List Nat) {a b : Nat} (h : a + 4 ≤ b) : a ≤ (medA l a b).1 ∧ (medA l a b).1 < b := ⟨medT_in (by omega) (by omega) (by omega), (medT_bd (by omega) (by omega) (by omega)).1⟩
theorem bitL_pos : ∀ k, k < 17 → 0 < k → 0 < bitL k := by decide
set_option maxHeartbeats 4000000 in
theorem pdq_run (l : List Nat) (hl : l.length ≤ 1000) (bb cap : Nat) (sp : List Value) (k0 a b : Nat) (m : Int) (l' : List Nat) (hab : a ≤ b) (hb : b ≤ l.length) (hm : 0 < m) (h : pdqK k0 l a b = some l') : FnC Tryd.prog 76 [.slice (some ⟨bb, 0, none⟩) l.length cap, i64 (a : Int), i64 (b : Int), i64 m] (bx bb 89 ((l).flatMap encU ++ sp)) [] (.tuple #[]) (bx bb 89 ((l').flatMap encU ++ sp)) := by
  refine FnC.intro Tryd.call76 Tryd.func76 rfl Tryd.ntmps76 rfl ?_
  intro W M Rf
  refine r_seq ?_
  refine r_region ?_
  refine o_q _ rfl rfl rfl (v_assign rfl rfl) ?_
  refine o_nil ?_
  with_reducible refine r_then ?_
  refine r_seq ?_
  refine r_region ?_
  refine o_q _ rfl rfl rfl (v_assign rfl rfl) ?_
  refine o_nil ?_
  with_reducible refine r_then ?_
  refine r_block ?_
  refine r_loop (ι := Nat × List Nat × Nat × Nat × Bool) (fun gh => gh.2.2.1 ≤ gh.2.2.2.1 ∧ gh.2.2.2.1 ≤ l.length ∧ gh.2.1.length = l.length ∧ pdqK gh.1 gh.2.1 gh.2.2.1 gh.2.2.2.1 = some l') (fun gh => [(0, .slice (some ⟨bb, 0, none⟩) l.length cap), (1, i64 (gh.2.2.1 : Int)), (2, i64 (gh.2.2.2.1 : Int)), (3, i64 m), (8, .bool true), (9, .bool gh.2.2.2.2)]) (fun gh => bx bb 89 ((gh.2.1).flatMap encU ++ sp) :: M) (fun gh => Rf) (fun gh => gh.2.2.2.1 - gh.2.2.1) (k0, l, a, b, true) ?_ ?_ ?_
  ·
    exact r_here (by repeat (first | exact FSub.nil | refine FSub.cons rfl ?_ | refine FSub.cons2 rfl (congrArg (Value.int .i64) (by omega)) ?_)) SelMC.sel SubRC.sub
  ·
    exact ⟨hab, hb, rfl, h⟩
  ·
    rintro ⟨k, c, x, y, wp⟩ hI0
    dsimp only at hI0
    dsimp only
    obtain ⟨hx1, hx2, hc1, hk⟩ := hI0
    refine r_block ?_
    refine r_seq ?_
    refine r_region ?_
    refine o_q _ rfl rfl rfl (v_move rfl rfl) ?_
    refine o_q _ rfl rfl rfl (v_move rfl rfl) ?_
    refine o_q _ rfl rfl rfl (v_cast (v := i64 ((y - x : Nat) : Int)) (v_sub rfl rfl rfl (by omega)) (congrArg (Value.int .i64) (by omega))) ?_
    refine o_q _ rfl rfl rfl (v_assign rfl rfl) ?_
    refine o_nil ?_
    with_reducible refine r_then ?_
    refine r_seq ?_
    refine r_seq ?_
    refine r_region ?_
    refine o_q _ rfl rfl rfl (v_move rfl rfl) ?_
    refine o_q _ rfl rfl rfl (v_leq rfl rfl rfl) ?_
    refine o_nil ?_
    with_reducible refine r_then ?_
    refine r_condd rfl (fun hc23 => ?_) (fun hc23 => ?_)
    ·
      refine r_seq ?_
      refine r_region ?_
      refine o_q _ rfl rfl rfl (v_move rfl rfl) ?_
      refine o_q _ rfl rfl rfl (v_move rfl rfl) ?_
      refine o_q _ rfl rfl rfl (v_move rfl rfl) ?_
      refine o_fnc (insU_n hc1 (by omega) bb cap sp x y (by omega) (by omega)) rfl [] [] rfl rfl rfl rfl rfl rfl SubRC.sub ?_
      refine o_nil ?_
      with_reducible refine r_then ?_
      refine r_ret ?_
      with_reducible refine r_then_ret ?_; refine r_in_ret ?_; refine r_then_ret ?_; refine r_in_ret ?_
      refine Imp.box_to bb (l'.flatMap encU ++ sp) (by rw [pdqK_small hk (by omega)]) ?_
      exact r_rete [bx bb 89 ((l').flatMap encU ++ sp)] [] (Rd.none rfl) ⟨rfl, rfl, rfl⟩ SelMC.sel SubRC.sub
    ·
      refine r_skip ?_
      with_reducible refine r_then ?_
      refine r_seq ?_
      refine r_seq ?_
      obtain ⟨k, rfl⟩ : ∃ q, k = q + 1 := by cases k with | zero => (cases hk) | succ q => exact ⟨q, rfl⟩
      obtain ⟨⟨g1, g2, g3, g4⟩, ⟨g5, g6, g7⟩, g8⟩ := pdqK_big hk (by omega)
      have hmi := medA_in c (a := x) (b := y) (by omega)
      have hpl := partT_len c x y (medA c x y).1
      refine r_region ?_
      refine o_q _ rfl rfl rfl (v_move rfl rfl) ?_
      refine o_q _ rfl rfl rfl (v_eql rfl rfl rfl) ?_
      refine o_nil ?_
      with_reducible refine r_then ?_
      refine r_condd rfl (fun hc29 => ?_) (fun hc29 => ?_)
      ·
        (exfalso; omega)
      ·
        refine r_skip ?_
        with_reducible refine r_then ?_
        refine r_seq ?_
        refine r_seq ?_
        refine r_region ?_
        refine o_q _ rfl rfl rfl (v_move rfl rfl) ?_
        refine o_q _ rfl rfl rfl (v_not rfl rfl) ?_
        refine o_nil ?_
        with_reducible refine r_then ?_
        refine r_cond rfl (fun hc35 => ?_) (fun hc35 => ?_)
        ·
          (exfalso; revert hc35; decide)
        ·
          refine r_skip ?_
          with_reducible refine r_then ?_
          refine r_seq ?_
          refine r_region ?_
          refine o_q _ rfl rfl rfl (v_move rfl rfl) ?_
          refine o_q _ rfl rfl rfl (v_move rfl rfl) ?_
          refine o_q _ rfl rfl rfl (v_move rfl rfl) ?_
          refine o_fnc (choose_n hc1 (by omega) bb cap sp x y (by omega) (by omega) (by omega) g2 g3) rfl [] [] rfl rfl rfl rfl rfl rfl SubRC.sub ?_
          refine o_q _ rfl rfl rfl (v_move rfl rfl) ?_
          refine o_q _ rfl rfl rfl (v_extract rfl rfl rfl) ?_
          refine o_q _ rfl rfl rfl (v_extract rfl rfl rfl) ?_
          refine o_q _ rfl rfl rfl (v_assign rfl rfl) ?_
          refine o_q _ rfl rfl rfl (v_assign rfl rfl) ?_
          refine o_nil ?_
          with_reducible refine r_then ?_
          refine r_seq ?_
          refine r_seq ?_
          refine r_region ?_
          refine o_q _ rfl rfl rfl (v_move rfl rfl) ?_
          refine o_q _ rfl rfl rfl (v_eql rfl rfl rfl) ?_
          refine o_nil ?_
          with_reducible refine r_then ?_
          refine r_condd rfl (fun hc50 => ?_) (fun hc50 => ?_)
          ·
            (exfalso; revert hc50; decide)
          ·
            refine r_skip ?_
            with_reducible refine r_then ?_
            refine r_seq ?_
            refine r_seq ?_
            cases wp
            all_goals
            refine r_region ?_
            refine o_q _ rfl rfl rfl (v_move rfl rfl) ?_
            refine o_q _ rfl rfl rfl (v_move rfl rfl) ?_
            refine o_g _ rfl rfl rfl rfl (v_move rfl rfl) ?_
            refine o_q _ rfl rfl rfl (v_pick_t rfl rfl rfl) ?_
            refine o_q _ rfl rfl rfl (v_move rfl rfl) ?_
            first | refine o_gn rfl rfl rfl rfl ?_ | refine o_g _ rfl rfl rfl rfl (v_move rfl rfl) ?_
            first | refine o_gn rfl rfl rfl rfl ?_ | refine o_g _ rfl rfl rfl rfl (v_false (v_eql rfl rfl rfl) (by omega)) ?_
            all_goals
              first | refine o_q _ rfl rfl rfl (v_pick_t rfl rfl rfl) ?_ | refine o_q _ rfl rfl rfl (v_pick_f rfl rfl rfl) ?_
              refine o_nil ?_
              with_reducible refine r_then ?_
              refine r_cond rfl (fun hc68 => ?_) (fun hc68 => ?_)
              ·
                (exfalso; revert hc68; decide)
              ·
                refine r_skip ?_
                with_reducible refine r_then ?_
                refine r_seq ?_
                refine r_seq ?_
                refine r_region_q mixed (by kernel_rfl) ?_
                refine q_q _ rfl rfl rfl (v_move rfl rfl) ?_
                refine q_test rfl rfl rfl (v_gtr rfl rfl rfl) (fun h74 => ?_) (fun h74 => ?_)
                all_goals
                  refine q_q _ rfl rfl rfl (v_move rfl rfl) ?_
                  first | refine q_gn rfl rfl rfl rfl ?_ | refine q_g _ rfl rfl rfl rfl (v_move rfl rfl) ?_
                  first | refine q_gn rfl rfl rfl rfl ?_ | refine q_g _ rfl rfl rfl rfl (v_move rfl rfl) ?_
                  first | refine q_gn rfl rfl rfl rfl ?_ | refine q_g _ rfl rfl rfl rfl (v_cast (v := i64 ((x - 1 : Nat) : Int)) (v_sub rfl rfl rfl (by omega)) (congrArg (Value.int .i64) (by omega))) ?_
                  first | refine q_gn rfl rfl rfl rfl ?_ | refine q_g _ rfl rfl rfl rfl (v_indexAddrB rfl Tryd.underlying87 inf89 rfl rfl (by omega)) ?_
                  first | refine q_gn rfl rfl rfl rfl ?_ | refine q_g _ rfl rfl rfl rfl (v_ld1 (v := u64 (c.getD (x - 1) default)) rfl Tryd.underlying89 rfl rfl (boxU_get (by omega))) ?_
                  first | refine q_gn rfl rfl rfl rfl ?_ | refine q_g _ rfl rfl rfl rfl (v_move rfl rfl) ?_
                  first | refine q_gn rfl rfl rfl rfl ?_ | refine q_g _ rfl rfl rfl rfl (v_move rfl rfl) ?_
                  first | refine q_gn rfl rfl rfl rfl ?_ | refine q_g _ rfl rfl rfl rfl (v_indexAddrB rfl Tryd.underlying87 inf89 rfl rfl (by omega)) ?_
                  first | refine q_gn rfl rfl rfl rfl ?_ | refine q_g _ rfl rfl rfl rfl (v_ld1 (v := u64 (c.getD (medA c x y).1 default)) rfl Tryd.underlying89 rfl rfl (boxU_get (by omega))) ?_
                  first | refine q_gn rfl rfl rfl rfl ?_ | refine q_g _ rfl rfl rfl rfl (v_true (OpQ.fn (lessU_v (c.getD (x - 1) default) (c.getD (medA c x y).1 default)) rfl rfl SubRC.sub) (by omega)) ?_
                  all_goals
                    first | refine q_gn rfl rfl rfl rfl ?_ | refine q_g _ rfl rfl rfl rfl (v_not rfl rfl) ?_
                    first | refine q_q _ rfl rfl rfl (v_pick_t rfl rfl rfl) ?_ | refine q_q _ rfl rfl rfl (v_pick_f rfl rfl rfl) ?_
                    refine q_nil ?_
                    with_reducible refine r_then ?_
                    refine r_cond rfl (fun hc87 => ?_) (fun hc87 => ?_)
                    ·
                      (exfalso; revert hc87; decide)
                    ·
                      refine r_skip ?_
                      with_reducible refine r_then ?_
                      refine r_seq ?_
                      refine r_region ?_
                      refine o_q _ rfl rfl rfl (v_move rfl rfl) ?_
                      refine o_q _ rfl rfl rfl (v_move rfl rfl) ?_
                      refine o_q _ rfl rfl rfl (v_move rfl rfl) ?_
                      refine o_q _ rfl rfl rfl (v_move rfl rfl) ?_
                      refine o_fnc (part_n hc1 (by omega) bb cap sp x y (medA c x y).1 (by omega) (by omega) (by omega) (by omega) g5) rfl [] [] rfl rfl rfl rfl rfl rfl SubRC.sub ?_
                      refine o_q _ rfl rfl rfl (v_move rfl rfl) ?_
                      refine o_q _ rfl rfl rfl (v_extract rfl rfl rfl) ?_
                      refine o_q _ rfl rfl rfl (v_extract rfl rfl rfl) ?_
                      refine o_q _ rfl rfl rfl (v_assign rfl rfl) ?_
                      refine o_q _ rfl rfl rfl (v_assign rfl rfl) ?_
                      refine o_nil ?_
                      with_reducible refine r_then ?_
                      refine r_seq ?_
                      refine r_region ?_
                      refine o_q _ rfl rfl rfl (v_move rfl rfl) ?_
                      refine o_q _ rfl rfl rfl (v_assign rfl rfl) ?_
                      refine o_nil ?_
                      with_reducible refine r_then ?_
                      refine r_seq ?_
                      refine r_region ?_
                      refine o_q _ rfl rfl rfl (v_move rfl rfl) ?_
                      refine o_q _ rfl rfl rfl (v_move rfl rfl) ?_
                      refine o_q _ rfl rfl rfl (v_cast (v := i64 (((partT c x y (medA c x y).1).2.1 - x : Nat) : Int)) (v_sub rfl rfl rfl (by omega)) (congrArg (Value.int .i64) (by omega))) ?_
                      refine o_q _ rfl rfl rfl (v_move rfl rfl) ?_
                      refine o_q _ rfl rfl rfl (v_move rfl rfl) ?_
                      refine o_q _ rfl rfl rfl (v_cast (v := i64 ((y - (partT c x y (medA c x y).1).2.1 : Nat) : Int)) (v_sub rfl rfl rfl (by omega)) (congrArg (Value.int .i64) (by omega))) ?_
                      refine o_q _ rfl rfl rfl (v_assign rfl rfl) ?_
                      refine o_q _ rfl rfl rfl (v_assign rfl rfl) ?_
                      refine o_nil ?_
                      with_reducible refine r_then ?_
                      refine r_seq ?_
                      refine r_region ?_
                      refine o_q _ rfl rfl rfl (v_move rfl rfl) ?_
                      refine o_q _ rfl rfl rfl (v_cast (v := i64 (((y - x) / 8 : Nat) : Int)) (v_quo rfl rfl rfl (by decide) (by rw [show ((y - x : Nat) : Int).tdiv 8 = (((y - x) / 8 : Nat) : Int) from tdiv_nat (a := y - x) (b := 8)]; omega)) (congrArg (Value.int .i64) (tdiv_nat (a := y - x) (b := 8)))) ?_
                      refine o_q _ rfl rfl rfl (v_assign rfl rfl) ?_
                      refine o_nil ?_
                      with_reducible refine r_then ?_
                      refine r_seq ?_
                      refine r_region ?_
                      refine o_q _ rfl rfl rfl (v_move rfl rfl) ?_
                      refine o_q _ rfl rfl rfl (v_move rfl rfl) ?_
                      refine o_q _ rfl rfl rfl (v_lss rfl rfl rfl) ?_
                      refine o_nil ?_
                      with_reducible refine r_then ?_
                      refine r_condd rfl (fun hc113 => ?_) (fun hc113 => ?_)
                      ·
                        refine r_seq ?_
                        obtain ⟨e1, e2, e3, e4⟩ := g8.resolve_right (fun h => h.1 (by omega))
                        refine r_region ?_
                        refine o_q _ rfl rfl rfl (v_move rfl rfl) ?_
                        refine o_q _ rfl rfl rfl (v_move rfl rfl) ?_
                        refine o_q _ rfl rfl rfl (v_cast (v := .bool true) (v_geq rfl rfl rfl) (congrArg Value.bool (decide_eq_true (by omega)))) ?_
                        refine o_q _ rfl rfl rfl (v_assign rfl rfl) ?_
                        refine o_nil ?_
                        with_reducible refine r_then ?_
                        refine r_seq ?_
                        refine r_region ?_
                        refine o_q _ rfl rfl rfl (v_move rfl rfl) ?_
                        refine o_q _ rfl rfl rfl (v_move rfl rfl) ?_
                        refine o_q _ rfl rfl rfl (v_move rfl rfl) ?_
                        refine o_q _ rfl rfl rfl (v_move rfl rfl) ?_
                        refine o_fnc (pdq_n (hpl.trans hc1) (by omega) bb cap sp x (partT c x y (medA c x y).1).2.1 m (by omega) (by omega) (by omega)) rfl [] [] rfl rfl rfl rfl rfl rfl SubRC.sub ?_
                        refine o_nil ?_
                        with_reducible refine r_then ?_
                        refine r_region ?_
                        refine o_q _ rfl rfl rfl (v_move rfl rfl) ?_
                        refine o_q _ rfl rfl rfl (v_cast (v := i64 (((partT c x y (medA c x y).1).2.1 + 1 : Nat) : Int)) (v_add rfl rfl rfl (by omega)) (i64c (by omega))) ?_
                        refine o_q _ rfl rfl rfl (v_assign rfl rfl) ?_
                        refine o_nil ?_
                        with_reducible refine r_in_normal ?_; refine r_then ?_
                        exact r_next ((k, insA x (partT c x y (medA c x y).1).1 ((partT c x y (medA c x y).1).2.1 - x - 1), (partT c x y (medA c x y).1).2.1 + 1, y, false)) (by exact r_here (by repeat (first | exact FSub.nil | refine FSub.cons rfl ?_ | refine FSub.cons2 rfl (congrArg (Value.int .i64) (by omega)) ?_)) SelMC.sel SubRC.sub) (by exact ⟨by show (partT c x y (medA c x y).1).2.1 + 1 ≤ y; omega, hx2, by show (insA _ _ _).length = _; rw [insA_len, hpl, hc1], e4⟩) (by show y - ((partT c x y (medA c x y).1).2.1 + 1) < y - x; omega)
                      ·
                        refine r_seq ?_
                        obtain ⟨e1, e2, e3, e4⟩ := g8.resolve_left (fun h => absurd h.1 (by omega))
                        refine r_region ?_
                        refine o_q _ rfl rfl rfl (v_move rfl rfl) ?_
                        refine o_q _ rfl rfl rfl (v_move rfl rfl) ?_
                        refine o_q _ rfl rfl rfl (v_cast (v := .bool true) (v_geq rfl rfl rfl) (congrArg Value.bool (decide_eq_true (by omega)))) ?_
                        refine o_q _ rfl rfl rfl (v_assign rfl rfl) ?_
                        refine o_nil ?_
                        with_reducible refine r_then ?_
                        refine r_seq ?_
                        refine r_region ?_
                        refine o_q _ rfl rfl rfl (v_move rfl rfl) ?_
                        refine o_q _ rfl rfl rfl (v_move rfl rfl) ?_
                        refine o_q _ rfl rfl rfl (v_cast (v := i64 (((partT c x y (medA c x y).1).2.1 + 1 : Nat) : Int)) (v_add rfl rfl rfl (by omega)) (i64c (by omega))) ?_
                        refine o_q _ rfl rfl rfl (v_move rfl rfl) ?_
                        refine o_q _ rfl rfl rfl (v_move rfl rfl) ?_
                        refine o_fnc (pdq_n (hpl.trans hc1) (by omega) bb cap sp ((partT c x y (medA c x y).1).2.1 + 1) y m (by omega) (by omega) (by omega)) rfl [] [] rfl rfl rfl rfl rfl rfl SubRC.sub ?_
                        refine o_nil ?_
                        with_reducible refine r_then ?_
                        refine r_region ?_
                        refine o_q _ rfl rfl rfl (v_move rfl rfl) ?_
                        refine o_q _ rfl rfl rfl (v_assign rfl rfl) ?_
                        refine o_nil ?_
                        with_reducible refine r_in_normal ?_; refine r_then ?_
                        exact r_next ((k, insA ((partT c x y (medA c x y).1).2.1 + 1) (partT c x y (medA c x y).1).1 (y - ((partT c x y (medA c x y).1).2.1 + 1) - 1), x, (partT c x y (medA c x y).1).2.1, false)) (by exact r_here (by repeat (first | exact FSub.nil | refine FSub.cons rfl ?_ | refine FSub.cons2 rfl (congrArg (Value.int .i64) (by omega)) ?_)) SelMC.sel SubRC.sub) (by exact ⟨g6, by show (partT c x y (medA c x y).1).2.1 ≤ _; omega, by show (insA _ _ _).length = _; rw [insA_len, hpl, hc1], e4⟩) (by show (partT c x y (medA c x y).1).2.1 - x < y - x; omega)
set_option maxHeartbeats 4000000 in
theorem sortU_run (l : List Nat) (hl : l.length ≤ 1000) (bb cap : Nat) (sp : List Value) (l' : List Nat) (hs : l.length ≤ 16) (hs0 : 0 < l.length) (h : pdqK 4 l 0 l.length = some l') : FnC Tryd.prog 60 [.slice (some ⟨bb, 0, none⟩) l.length cap] (bx bb 89 ((l).flatMap encU ++ sp)) [] (.tuple #[]) (bx bb 89 ((l').flatMap encU ++ sp)) := by
  refine FnC.intro Tryd.call60 Tryd.func60 rfl Tryd.ntmps60 rfl ?_
  intro W M Rf
  refine r_seq ?_
  refine r_region ?_
  refine o_q _ rfl rfl rfl (v_move rfl rfl) ?_
  refine o_q _ rfl rfl rfl (v_len rfl rfl Tryd.underlying87 rfl) ?_
  refine o_q _ rfl rfl rfl (v_assign rfl rfl) ?_
  refine o_nil ?_
  with_reducible refine r_then ?_
  refine r_region ?_
  refine o_q _ rfl rfl rfl (v_move rfl rfl) ?_
  refine o_q _ rfl rfl rfl (v_move rfl rfl) ?_
  refine o_q _ rfl rfl rfl (v_move rfl rfl) ?_
  refine o_q _ rfl rfl rfl (v_conv rfl Tryd.underlying3 Tryd.underlying89 rfl (IntWalk.u64_in _ (by omega))) ?_
  refine o_q _ rfl rfl rfl (OpQ.fn (len_v l.length (by omega)) rfl rfl SubRC.sub) ?_
  refine o_fnc (pdq_run l hl bb cap sp 4 0 l.length (bitL l.length : Nat) l' (Nat.zero_le _) (Nat.le_refl _) (by have := bitL_pos l.length (by omega) hs0; omega) h) rfl [] [] rfl rfl rfl rfl rfl rfl SubRC.sub ?_
  refine o_nil ?_
  exact r_ende [bx bb 89 ((l').flatMap encU ++ sp)] [] (Rd.none rfl) ⟨rfl, rfl, rfl⟩ SelMC.sel SubRC.sub
end Go.Proofs.YtpfgiednfjfdmaaDoor


namespace Go.Proofs.YtpfgiednfjfdmaaDoor
open Go.G Debt10
set_option maxRecDepth 1000000
attribute [local irreducible] G.ParO G.Fin
theorem onL_half {f : Nat → Int} (hf : ∀ w, 0 ≤ f w) (w : Nat) : ∀ (k who : Nat) (left : Int) (m : Nat), who ≤ w → w < who + k → left < f w → (onL f k who left m).length * 2 ≤ 2 ^ k
  | 0, who, left, m, h1, h2, _ => by omega
  | k + 1, who, left, m, h1, h2, h3 => by
    by_cases hn : left < 0
    · rw [onL_neg hn]; exact Nat.zero_le _
    · rw [onL_s hn, List.length_append, Nat.pow_succ]
      by_cases e : who = w
      · subst e
        rw [onL_neg (f := f) (k := k) (left := left - f who) (by omega)]
        have := onL_len f k (who + 1) left m
        simp only [List.length_nil]
        omega
      · have i1 := onL_half hf w k (who + 1) left m (by omega) (by omega) h3
        have i2 := onL_half hf w k (who + 1) (left - f who) (m ||| 2 ^ who) (by omega) (by omega) (by have := hf who; omega)
        omega
theorem onL_pair {f : Nat → Int} (hf : ∀ w, 0 ≤ f w) (i j : Nat) (hij : i < j) : ∀ (k who : Nat) (left : Int) (m : Nat), who ≤ i → j < who + k → left < f i + f j → (onL f k who left m).length * 4 ≤ 3 * 2 ^ k
  | 0, who, left, m, h1, h2, _ => by omega
  | k + 1, who, left, m, h1, h2, h3 => by
    by_cases hn : left < 0
    · rw [onL_neg hn]; exact Nat.zero_le _
    · rw [onL_s hn, List.length_append, Nat.pow_succ]
      by_cases e : who = i
      · subst e
        have i1 := onL_len f k (who + 1) left m
        have i2 := onL_half hf j k (who + 1) (left - f who) (m ||| 2 ^ who) (by omega) (by omega) (by omega)
        omega
      · have i1 := onL_pair hf i j hij k (who + 1) left m (by omega) (by omega) h3
        have i2 := onL_pair hf i j hij k (who + 1) (left - f who) (m ||| 2 ^ who) (by omega) (by omega) (by have := hf who; omega)
        omega
/-- All sets of at most two people are covered: of the others each is there or not. -/
def lisB (t12 t02 t01 t01x : Bool) (al : Bool) : List Nat := [0, 8, 4, 12, 2, 10, 6] ++ (if t12 then [14] else []) ++ [1, 9, 5] ++ (if t02 then [13] else []) ++ [3] ++ (if t01 then [11] else []) ++ (if t01x then [7] ++ (if al then [15] else []) else [])
theorem lis_run : ∀ a b c d e : Bool, (e = true → a = true ∧ b = true ∧ c = true ∧ d = true) → 12 < (lisB a b c d e).length → pdqK 4 (lisB a b c d e) 0 (lisB a b c d e).length = some (sortT (lisB a b c d e)) := by decide +kernel
theorem onL_lis {f : Nat → Int} {s : Int} (hf : ∀ w, 0 ≤ f w) (hs : 0 ≤ s) (hp : ∀ i j, i < j → j < 4 → f i + f j ≤ s) : ∃ a b c d e : Bool, (e = true → a = true ∧ b = true ∧ c = true ∧ d = true) ∧ onL f 4 0 s 0 = lisB a b c d e := by
  have h0 := hf 0
  have h1 := hf 1
  have h2 := hf 2
  have h3 := hf 3
  have p01 := hp 0 1 (by decide) (by decide)
  have p02 := hp 0 2 (by decide) (by decide)
  have p03 := hp 0 3 (by decide) (by decide)
  have p12 := hp 1 2 (by decide) (by decide)
  have p13 := hp 1 3 (by decide) (by decide)
  have p23 := hp 2 3 (by decide) (by decide)
  have n : ¬ s < 0 := by omega
  have n0 : ¬ s - f 0 < 0 := by omega
  have n1 : ¬ s - f 1 < 0 := by omega
  have n2 : ¬ s - f 2 < 0 := by omega
  have n3 : ¬ s - f 3 < 0 := by omega
  have n01 : ¬ s - f 0 - f 1 < 0 := by omega
  have n02 : ¬ s - f 0 - f 2 < 0 := by omega
  have n03 : ¬ s - f 0 - f 3 < 0 := by omega
  have n12 : ¬ s - f 1 - f 2 < 0 := by omega
  have n13 : ¬ s - f 1 - f 3 < 0 := by omega
  have n23 : ¬ s - f 2 - f 3 < 0 := by omega
  refine ⟨decide (¬ s - f 1 - f 2 - f 3 < 0), decide (¬ s - f 0 - f 2 - f 3 < 0), decide (¬ s - f 0 - f 1 - f 3 < 0), decide (¬ s - f 0 - f 1 - f 2 < 0), decide (¬ s - f 0 - f 1 - f 2 - f 3 < 0), ?_, ?_⟩
  · intro h
    have h := of_decide_eq_true h
    exact ⟨decide_eq_true (by omega), decide_eq_true (by omega), decide_eq_true (by omega), decide_eq_true (by omega)⟩
  · have e : onL f 4 0 s 0 = [0, 8, 4, 12, 2, 10, 6] ++ (if s - f 1 - f 2 - f 3 < 0 then [] else [14]) ++ [1, 9, 5] ++ (if s - f 0 - f 2 - f 3 < 0 then [] else [13]) ++ [3] ++ (if s - f 0 - f 1 - f 3 < 0 then [] else [11]) ++ (if s - f 0 - f 1 - f 2 < 0 then [] else [7] ++ (if s - f 0 - f 1 - f 2 - f 3 < 0 then [] else [15])) := by
      simp only [onL, if_neg n, if_neg n0, if_neg n1, if_neg n2, if_neg n3, if_neg n01, if_neg n02, if_neg n03, if_neg n12, if_neg n13, if_neg n23, Nat.reduceAdd, Nat.reducePow, Nat.reduceOr]
      by_cases c0 : s - f 0 - f 1 - f 2 < 0
      · simp only [if_pos c0, List.cons_append, List.nil_append, List.append_assoc]
      · simp only [if_neg c0, List.cons_append, List.nil_append, List.append_assoc]
    rw [e]
    unfold lisB
    by_cases c1 : s - f 1 - f 2 - f 3 < 0 <;> by_cases c2 : s - f 0 - f 2 - f 3 < 0 <;> by_cases c3 : s - f 0 - f 1 - f 3 < 0 <;> by_cases c4 : s - f 0 - f 1 - f 2 < 0 <;> by_cases c5 : s - f 0 - f 1 - f 2 - f 3 < 0 <;> simp [c1, c2, c3, c4, c5]
theorem onL_run {f : Nat → Int} {s : Int} (hf : ∀ w, 0 ≤ f w) (hl : 12 < (onL f 4 0 s 0).length) : pdqK 4 (onL f 4 0 s 0) 0 (onL f 4 0 s 0).length = some (sortT (onL f 4 0 s 0)) := by
  have hs : 0 ≤ s := by
    by_cases h : s < 0
    · rw [onL_neg h] at hl; cases hl
    · omega
  obtain ⟨a, b, c, d, e, h1, h2⟩ := onL_lis hf hs (fun i j h1 h2 => by
    by_cases h : s < f i + f j
    · have h3 := onL_pair hf i j h1 4 0 s 0 (Nat.zero_le _) (by omega) h
      have h4 : (2 : Nat) ^ 4 = 16 := rfl
      omega
    · omega)
  rw [h2] at hl ⊢
  exact lis_run a b c d e h1 hl
theorem sets_run {D : Debt} (hg : GoodD D) {dn : Nat} (hd : dn ≤ 30) {s : Int} (hl : 12 < (setsT D dn s).length) : pdqK 4 (setsT D dn s) 0 (setsT D dn s).length = some (sortT (setsT D dn s)) := by
  have hp := hg.np
  have h4 : D.people.toNat = 4 := by
    have h1 := onL_len (needN D dn) D.people.toNat 0 s 0
    have h2 : 12 < 2 ^ D.people.toNat := Nat.lt_of_lt_of_le hl h1
    by_cases h : D.people.toNat ≤ 3
    · have : 2 ^ D.people.toNat ≤ 2 ^ 3 := Nat.pow_le_pow_right (by decide) h
      omega
    · omega
  unfold setsT at hl ⊢
  rw [h4] at hl ⊢
  exact onL_run (fun w => (need_bd hg (w : Int) hd).1) hl
variable (D : Debt) (uo po : Option Addr) (uc pc : Nat)
theorem most26_v (d s : Int) (hl1 : D.dues.length ≤ 40) (hl2 : D.paid.length ≤ 40) : FnV Tryd.prog 26 [valD D uo po uc pc, i64 d, i64 s] [rowD uo 5 encD D.dues, rowD po 4 encP D.paid, rowD (some ⟨0, 0, none⟩) 1 encE ([0, 1] : List Nat)] (.tuple #[i64 (mostB D d s).1.1, i64 (mostB D d s).1.2, i64 (mostB D d s).2]) :=
  most26_g D uo po uc pc d s hl1 hl2 fun hg h1 _ bb cap sp => by
    have h2 := of_decide_eq_true h1
    have h3 := sets_len hg (dn := d.toNat) (s := s)
    by_cases h : (setsT D d.toNat s).length ≤ 12
    · exact sortU_ins _ (by omega) bb cap sp h
    · exact sortU_run _ (by omega) bb cap sp _ h3 (by omega) (sets_run hg (by omega) (by omega))
end Go.Proofs.YtpfgiednfjfdmaaDoor


set_option linter.unusedSectionVars false
set_option linter.unusedVariables false
namespace Debt10
/-- What each has grown by. -/
def lateL (d : Nat) (l : List Opn) : List Opn := l.map fun x => { x with left := if x.left > 0 ∧ x.day < d then x.late else 0 }
theorem grow_total (d : Nat) : ∀ l : List Opn, total (growF d l) = total l + total (lateL d l)
  | [] => rfl
  | x :: r => by
    have ih := grow_total d r
    have e1 : total (growF d (x :: r)) = (if x.left > 0 ∧ x.day < d then { x with left := x.left + x.late } else x).left + total (growF d r) := rfl
    have e2 : total (lateL d (x :: r)) = (if x.left > 0 ∧ x.day < d then x.late else 0) + total (lateL d r) := rfl
    have e3 : total (x :: r) = x.left + total r := rfl
    rw [e1, e2, e3, ih]
    split
    · show x.left + x.late + _ = _; omega
    · omega
theorem nums_late (d : Nat) (l : List Opn) : nums (lateL d l) = nums l := by
  unfold lateL nums
  rw [List.map_map]
  rfl
theorem late_val {d : Nat} {l : List Opn} (hn : (nums l).Nodup) {x : Opn} (hx : x ∈ l) : valF (lateL d l) x.number = if x.left > 0 ∧ x.day < d then x.late else 0 :=
  val_mem (l := lateL d l) (x := { x with left := if x.left > 0 ∧ x.day < d then x.late else 0 }) (by rw [nums_late]; exact hn) (List.mem_map.2 ⟨x, hx, rfl⟩)
theorem total_app : ∀ l m : List Opn, total (l ++ m) = total l + total m
  | [], m => by show total m = 0 + total m; omega
  | x :: r, m => by
    have e1 : total (x :: r ++ m) = x.left + total (r ++ m) := rfl
    have e2 : total (x :: r) = x.left + total r := rfl
    rw [e1, e2, total_app r m]; omega
section
variable {D : Debt} {am pa : List Int} (hg : GoodD D) (h : TruD D am pa) (who : Int) (d : Nat)
abbrev bitX (D : Debt) (am pa : List Int) (who : Int) (d : Nat) : Nat := setK ((accT D am pa who (d + 1)).1.filter isOpen) ((accT D am pa who (d + 1)).1.filter isOpen).length
def lateK (D : Debt) (am pa : List Int) (who : Int) (d k : Nat) : Int := sumTo (fun i => if (bitX D am pa who d).testBit i = true ∧ (D.dues.getD i default).day < (d : Int) then (D.dues.getD i default).late else 0) k
include hg h
theorem late_sum (hd : d ≤ 30) : lateK D am pa who d D.dues.length = total (lateL d (payF (lstT D am pa who d) (bagT D am pa who d))) := by
  have hn : (nums (payF (lstT D am pa who d) (bagT D am pa who d))).Nodup := by rw [nums_pay]; exact lst_nodup who d
  have hent := (lst_ent (D := D) (am := am) (pa := pa) who d).pay (A := bagT D am pa who d)
  have hf := (lst_fit hg h who d hd).pay (A := bagT D am pa who d) (bag_bd hg h who d hd).1
  rw [total_sum (n := D.dues.length) (l := lateL d (payF (lstT D am pa who d) (bagT D am pa who d))) (by rw [nums_late]; exact hn) (fun x hx => by
    obtain ⟨y, hy, rfl⟩ := List.mem_map.1 hx
    exact (hent y hy).1)]
  unfold lateK
  refine sum_congr fun i hi => ?_
  by_cases hm : i ∈ nums (payF (lstT D am pa who d) (bagT D am pa who d))
  · obtain ⟨x, hx, rfl⟩ := List.mem_map.1 hm
    obtain ⟨e1, e2, e3, e4⟩ := hent x hx
    show (if _ then _ else _ : Int) = valF _ x.number
    rw [late_val hn hx]
    have hbit : (bitX D am pa who d).testBit x.number = true ↔ x.left > 0 := by
      have hg' : (accT D am pa who (d + 1)).1 = growF d (payF (lstT D am pa who d) (bagT D am pa who d)) := rfl
      rw [set_bit', hg']
      constructor
      · rintro ⟨y, hy, hyx⟩
        obtain ⟨g1, g2⟩ := mem_open.1 hy
        obtain ⟨z, hz, rfl⟩ := List.mem_map.1 g1
        have hzn : z.number = x.number := by
          have : (if z.left > 0 ∧ z.day < d then { z with left := z.left + z.late } else z).number = z.number := by split <;> rfl
          rw [← this]; exact hyx
        have hzx : z.left = x.left := by rw [← val_mem hn hz, ← val_mem hn hx, hzn]
        have hzp := hf.pos z hz
        by_cases c : z.left > 0 ∧ z.day < d
        · omega
        · rw [if_neg c] at g2; omega
      · intro hp
        refine ⟨if x.left > 0 ∧ x.day < d then { x with left := x.left + x.late } else x, mem_open.2 ⟨List.mem_map.2 ⟨x, hx, rfl⟩, ?_⟩, by split <;> rfl⟩
        have := (hf.late x hx).1
        split
        · show 0 < x.left + x.late; omega
        · exact hp
    rw [e3, ← e4]
    by_cases c : x.left > 0 ∧ x.day < d
    · rw [if_pos ⟨hbit.2 c.1, by omega⟩, if_pos c]
    · rw [if_neg (fun hc => c ⟨hbit.1 hc.1, by omega⟩), if_neg c]
  · show (if _ then _ else _ : Int) = valF _ i
    rw [val_not (by rw [nums_late]; exact hm)]
    refine if_neg fun hc => hm ?_
    obtain ⟨x, hx, hxi⟩ := set_bit'.1 hc.1
    obtain ⟨g1, _⟩ := mem_open.1 hx
    have : x.number ∈ nums (accT D am pa who (d + 1)).1 := List.mem_map.2 ⟨x, g1, rfl⟩
    rw [hxi, show (accT D am pa who (d + 1)).1 = growF d (payF (lstT D am pa who d) (bagT D am pa who d)) from rfl, nums_grow] at this
    exact this
/-- What is owed and what is ahead, kept. -/
theorem kept (hd : d ≤ 30) : total (accT D am pa who d).1 + total (newF D (amF am) who d) + lateK D am pa who d D.dues.length - total (accT D am pa who (d + 1)).1 = (accT D am pa who d).2 + paidS D (amF pa) who d - (accT D am pa who (d + 1)).2 := by
  have h1 := pay_keep (l := lstT D am pa who d) (A := bagT D am pa who d) (lst_fit hg h who d hd).pos (bag_bd hg h who d hd).1
  have h2 := grow_total d (payF (lstT D am pa who d) (bagT D am pa who d))
  have h3 : total (accT D am pa who (d + 1)).1 = total (growF d (payF (lstT D am pa who d) (bagT D am pa who d))) := rfl
  have h4 : (accT D am pa who (d + 1)).2 = restF (lstT D am pa who d) (bagT D am pa who d) := rfl
  have h5 : total (lstT D am pa who d) = total (accT D am pa who d).1 + total (newF D (amF am) who d) := total_app _ _
  have h6 : bagT D am pa who d = (accT D am pa who d).2 + paidS D (amF pa) who d := rfl
  rw [h3, h4, late_sum hg h who d hd, h2]
  omega
end
end Debt10


set_option linter.unusedSectionVars false
set_option linter.unusedVariables false
namespace Debt10
abbrev nextC (D : Debt) (who : Int) (d : Nat) (f : Nat → Int) (i : Nat) : Prop := ((D.dues.getD i default).who = who ∧ (D.dues.getD i default).day ≤ (d : Int)) ∧ 0 < f i
def befN (D : Debt) (k : Nat) : Option Nat → Bool
  | none => true
  | some b => decide ((D.dues.getD k default).day < (D.dues.getD b default).day)
def nextTo (D : Debt) (who : Int) (d : Nat) (f : Nat → Int) : Nat → Option Nat
  | 0 => none
  | k + 1 => if nextC D who d f k ∧ befN D k (nextTo D who d f k) = true then some k else nextTo D who d f k
def nextV : Option Nat → Int
  | none => -1
  | some b => b
section
variable {D : Debt} {who : Int} {d : Nat} {f : Nat → Int}
end
/-! ### in order of day and number -/
def keysL (l : List Opn) : List (Nat × Nat) := l.map fun x => (x.day, x.number)
def LexL (l : List Opn) : Prop := (keysL l).Pairwise fun x y => x.1 < y.1 ∨ (x.1 = y.1 ∧ x.2 < y.2)
section
variable {D : Debt} {who : Int} {d : Nat}
end
/-! ### paying one by one -/
section
variable {D : Debt} {am pa : List Int} (hg : GoodD D) (h : TruD D am pa) (who : Int) (d : Nat)
include hg h
end
end Debt10


namespace Go.G
variable {P : Program} {W : World} {n : Nat} {D : List Deferred} {L : Tm} {M : List Res} {R : List Fact} {Q : Exit → Act → World → Prop} {o : Oper} {Z : World → Prop} {en : Nat}
/-- All orders; and at each step, as long as one is not carried out, something stays so. -/
def wpAnyE (en : Nat) (Z : World → Prop) (P : Program) (ops : Array Oper) (Q : Exit → Act → World → Prop) : Nat → Array Bool → Act → World → Prop
  | 0, listed, a, w => (listed.getD en false = false → Z w) ∧ Region.ready .any ops listed = [] ∧ Q .normal a w
  | fuel + 1, listed, a, w => (listed.getD en false = false → Z w) ∧ (Region.ready .any ops listed = [] → Q .normal a w) ∧ ∀ i ∈ Region.ready .any ops listed, wpOp P ops Q i (wpAnyE en Z P ops Q fuel (listed.setIfInBounds i true)) a w
theorem wpAnyE.any {ops : Array Oper} : ∀ {fuel : Nat} {listed : Array Bool} {a : Act} {w : World}, wpAnyE en Z P ops Q fuel listed a w → wpAny P .any ops Q fuel listed a w
  | 0, _, _, _, h => h.2
  | _ + 1, _, _, _, h => ⟨h.2.1, fun i hi => wpOp_mono (fun _ _ h' => h'.any) (h.2.2 i hi)⟩
def waitsE (fl : List Nat) (l : List Oper) (en : Nat) : Bool := match l[en]? with | some o => fl.all fun i => o.after.any fun ed => Region.binds .any ed && Nat.beq ed.on i | none => false
/-- A tail, in its order, and ahead of each step something stays so. -/
def wpListE (Z : World → Prop) (P : Program) (ops : Array Oper) (Q : Exit → Act → World → Prop) : List Oper → Act → World → Prop
  | [], a, w => Q .normal a w
  | o :: rest, a, w => Z w ∧ if Region.wanted o (yielded ops a.tmps) then o.wp P a w (wpListE Z P ops Q rest) Q ∨ (o.asks P a w ∧ LetsOut Q) else wpListE Z P ops Q rest (a.put o.dst undef) w
end Go.G


namespace Go.Proofs.YtpfgiednfjfdmaaDoor
open Go.G Debt10
set_option maxRecDepth 1000000
attribute [local irreducible] G.ParO G.Fin
variable (D : Debt) (uo po : Option Addr) (uc pc : Nat)
end Go.Proofs.YtpfgiednfjfdmaaDoor


namespace Go.Proofs.YtpfgiednfjfdmaaDoor
open Go.G Debt10
set_option maxRecDepth 1000000
attribute [local irreducible] G.ParO G.Fin
section
variable {D : Debt} {am pa : List Int} (hg : GoodD D) (h : TruD D am pa)
abbrev setX (D : Debt) (am pa : List Int) (who : Int) (d : Nat) : Nat := setT ((accT D am pa who (d + 1)).1.filter isOpen)
def sumX (D : Debt) (am pa : List Int) (d : Nat) : Nat → Int
  | 0 => 0
  | k + 1 => sumX D am pa d k + total (accT D am pa (k : Int) (d + 1)).1
include hg h
end
attribute [local irreducible] leftT aheadT gradeS setT sumT trA trP acc0
variable (D : Debt) (uo po : Option Addr) (uc pc : Nat)
end Go.Proofs.YtpfgiednfjfdmaaDoor


namespace Go.Proofs.YtpfgiednfjfdmaaDoor
open Go.G Debt10
set_option maxRecDepth 1000000
attribute [local irreducible] G.ParO G.Fin
theorem v_shrI {P : Program} {W : World} {n : Nat} {L : Tm} {M : List Res} {R : List Fact} {o : Oper} {t u : TypeId} {x y : Operand} {a h : Nat} (ho : o.op = .binOp .shr t x y u) (hx : ev L x = some (i64 (a : Int))) (hy : ev L y = some (i64 (h : Int))) (ha : a < 2 ^ 62) (hh : h < 62) : OpQ P W n L M R o (i64 ((a >>> h : Nat) : Int)) :=
  OpQ.of_value fun f w h1 _ => by
    have hle : a >>> h ≤ a := Nat.shiftRight_le a h
    have key : ∀ q : Nat, q ≤ a → IntKind.wrap .i64 (q : Int) = (q : Int) := fun q hq => IntWalk.i64_in _ (by omega)
    have hw : IntKind.wrap .i64 ((a >>> h : Nat) : Int) = ((a >>> h : Nat) : Int) := key _ hle
    have h2 : ¬ ((h : Int) < 0) := by omega
    have h3 : min h 64 = h := by omega
    have hs : (Op.shift .shr .i64 (a : Int) .i64 (h : Int)).run P w = .ok (.int .i64 ((a >>> h : Nat) : Int)) w := by
      unfold Op.shift
      rw [if_neg h2]
      have e : ((a : Int).fdiv (2 ^ (min (h : Int).toNat IntKind.i64.bits))) = ((a >>> h : Nat) : Int) := by
        rw [show (h : Int).toNat = h from by simp, show IntKind.i64.bits = 64 from rfl, h3, Nat.shiftRight_eq_div_pow, Int.fdiv_eq_ediv_of_nonneg _ (by exact Int.le_of_lt (Int.pow_pos (by decide)))]
        simp
      simp only [e, hw, Sem.run_pure]
    have hb : (binOp .shr t (.int .i64 (a : Int)) (.int .i64 (h : Int))).run P w = .ok (.int .i64 ((a >>> h : Nat) : Int)) w := hs
    simp [execOp, ho, h1.ev hx, h1.ev hy, eqGuard, hb]
section
variable {D : Debt} {am pa : List Int} (hg : GoodD D) (h : TruD D am pa)
include hg h
end
attribute [local irreducible] leftT aheadT gradeS setT sumT trA trP acc0 lateK setK
variable (D : Debt) (uo po : Option Addr) (uc pc : Nat)
end Go.Proofs.YtpfgiednfjfdmaaDoor


namespace Go.Proofs.YtpfgiednfjfdmaaDoor
open Go.G Debt10
set_option maxRecDepth 1000000
attribute [local irreducible] G.ParO G.Fin
attribute [local irreducible] leftT aheadT gradeS setT trA trP acc0 setK
/-- What a call of the reference's account hands back besides: where it lies, what was brought, what is its own. -/
abbrev AcX (c : Int) : Type := { y : Nat × Int × Int // (0 ≤ y.2.1 ∧ y.2.1 ≤ c) ∧ (0 ≤ y.2.2 ∧ y.2.2 ≤ c) }
variable (D : Debt) (uo po : Option Addr) (uc pc : Nat)
end Go.Proofs.YtpfgiednfjfdmaaDoor


namespace Go.Proofs.YtpfgiednfjfdmaaDoor
open Go.G Debt10
set_option maxRecDepth 1000000
attribute [local irreducible] G.ParO G.Fin
attribute [local irreducible] leftT aheadT gradeS setT trA trP acc0 setK
variable (D : Debt) (uo po : Option Addr) (uc pc : Nat)
end Go.Proofs.YtpfgiednfjfdmaaDoor


namespace Go.Proofs.YtpfgiednfjfdmaaDoor
open Go.G Debt10
set_option maxRecDepth 1000000
attribute [local irreducible] G.ParO G.Fin
variable (D : Debt) (uo po : Option Addr) (uc pc : Nat)
end Go.Proofs.YtpfgiednfjfdmaaDoor


namespace Go.G
variable {P : Program} {W : World} {n : Nat} {D : List Deferred} {L : Tm} {M : List Res} {R : List Fact} {Q : Exit → Act → World → Prop} {o : Oper}
/-- The operation is a call that hands back such a value, and lays what goes with it. -/
def LayR (P : Program) (L : Tm) (R : List Fact) (o : Oper) (val : Value → Prop) (res : Value → List Res) : Prop :=
  ∃ (k : FuncId) (args : List Value) (R0 : List Fact) (xs : List Operand) (ts : Array TypeId), o.op = .call { callee := .value (.func k), args := xs.toArray, argTypes := ts } ∧ evs L xs = some args ∧ FnS P k args [] R0 (fun e M' R' => ∃ v, e = .returned v ∧ val v ∧ M' = res v ∧ R' = []) ∧ SubR R R0
theorem LayR.mk {k : FuncId} {args : List Value} {R0 : List Fact} {xs : List Operand} {ts : Array TypeId} {val : Value → Prop} {res : Value → List Res} (h : FnS P k args [] R0 (fun e M' R' => ∃ v, e = .returned v ∧ val v ∧ M' = res v ∧ R' = [])) (ho : o.op = .call { callee := .value (.func k), args := xs.toArray, argTypes := ts }) (hx : evs L xs = some args) (hs : SubR R R0) : LayR P L R o val res := ⟨k, args, R0, xs, ts, ho, hx, h, hs⟩
/-- The operation is a call that takes these, and hands back one value. -/
def TakR (P : Program) (L : Tm) (R : List Fact) (o : Oper) (v : Value) (r : List Res) : Prop :=
  ∃ (k : FuncId) (args : List Value) (R0 : List Fact) (xs : List Operand) (ts : Array TypeId), o.op = .call { callee := .value (.func k), args := xs.toArray, argTypes := ts } ∧ evs L xs = some args ∧ FnS P k args r R0 (fun e M' R' => e = .returned v ∧ M' = [] ∧ R' = []) ∧ SubR R R0
theorem TakR.mk {k : FuncId} {args : List Value} {R0 : List Fact} {xs : List Operand} {ts : Array TypeId} {v : Value} {r : List Res} (h : FnS P k args r R0 (fun e M' R' => e = .returned v ∧ M' = [] ∧ R' = [])) (ho : o.op = .call { callee := .value (.func k), args := xs.toArray, argTypes := ts }) (hx : evs L xs = some args) (hs : SubR R R0) : TakR P L R o v r := ⟨k, args, R0, xs, ts, ho, hx, h, hs⟩
end Go.G


namespace Go.Proofs.YtpfgiednfjfdmaaDoor
open Go.G Debt10
set_option maxRecDepth 1000000
attribute [local irreducible] G.ParO G.Fin
attribute [local irreducible] leftT aheadT gradeS setT trA trP acc0 setK
variable (D : Debt) (uo po : Option Addr) (uc pc : Nat)
/-- Where the row of an account lies. -/
def blkA : Value → Nat
  | .agg a => match a.toList with
    | Value.slice (some p) _ _ :: _ => p.block
    | _ => 0
  | _ => 0
def valAc (n : Nat) (c A : Int) (v : Value) : Prop := ∃ x : AcX c, v = .agg ([.slice (some ⟨x.1.1, 0, none⟩) n n, i64 A, i64 x.1.2.1, i64 x.1.2.2] : List Value).toArray
def resAc (n : Nat) (l : List Opn) (v : Value) : List Res := [bx (blkA v) 3 ((arrL l n).flatMap encI)]
end Go.Proofs.YtpfgiednfjfdmaaDoor


namespace Go.Proofs.YtpfgiednfjfdmaaDoor
open Go.G Debt10
set_option maxRecDepth 1000000
attribute [local irreducible] G.ParO G.Fin
variable (D : Debt) (uo po : Option Addr) (uc pc : Nat)
end Go.Proofs.YtpfgiednfjfdmaaDoor


namespace Go.Proofs.YtpfgiednfjfdmaaDoor
open Go.G Debt10
set_option maxRecDepth 1000000
attribute [local irreducible] G.ParO G.Fin
variable (D : Debt) (uo po : Option Addr) (uc pc : Nat)
abbrev endA (D : Debt) (e : Nat) (who : Int) (d : Nat) : List Opn × Int := accT D (amT D e) (paT D e) who (d + 1)
def leftR (D : Debt) (who d : Int) : Debt10.Span × Int := ansD D (okWD D who d) ⟨0, 0⟩ ⟨total (endA D 0 who d.toNat).1, total (endA D 1 who d.toNat).1⟩
def needR (D : Debt) (who d : Int) : Int × Int := ansD D (okWD D who d) 0 (sumTo (valF (payF (lstT D (amT D 1) (paT D 1) who d.toNat) (bagT D (amT D 1) (paT D 1) who d.toNat))) D.dues.length)
def leftRT (D : Debt) (who : Int) (d : Nat) : Debt10.Span := ⟨total (endA D 0 who d).1, total (endA D 1 who d).1⟩
def setlR (D : Debt) (who d : Int) : Int × Int := ansD D (okWD D who d) 0 (gradeS (leftRT D who d.toNat))
end Go.Proofs.YtpfgiednfjfdmaaDoor


namespace Go.G
variable {P : Program} {W : World} {n : Nat} {D : List Deferred} {L : Tm} {M : List Res} {R : List Fact} {Q : Exit → Act → World → Prop} {o : Oper}
end Go.G


namespace Go.Proofs.YtpfgiednfjfdmaaDoor
open Go.G Debt10
set_option maxRecDepth 1000000
attribute [local irreducible] G.ParO G.Fin
variable (D : Debt) (uo po : Option Addr) (uc pc : Nat)
def aheadR (D : Debt) (who d : Int) : Debt10.Span × Int := ansD D (okWD D who d) ⟨0, 0⟩ ⟨(endA D 1 who d.toNat).2, (endA D 0 who d.toNat).2⟩
def openR (D : Debt) (who d : Int) : (Nat × Nat) × Int := ansD D (okWD D who d) (0, 0) (openK (valF (endA D 0 who d.toNat).1) D.dues.length, openK (valF (endA D 1 who d.toNat).1) D.dues.length)
end Go.Proofs.YtpfgiednfjfdmaaDoor


namespace Go.Proofs.YtpfgiednfjfdmaaDoor
open Go.G Debt10
set_option maxRecDepth 1000000
attribute [local irreducible] G.ParO G.Fin
/-! ### what the sets of people are, and which is returned -/
def sumM (f : Nat → Int) (x : Nat) : Nat → Int
  | 0 => 0
  | k + 1 => sumM f x k + (if x.testBit k then f k else 0)
def sumR (f : Nat → Int) (x : Nat) : Nat → Nat → Int
  | _, 0 => 0
  | who, k + 1 => (if x.testBit who then f who else 0) + sumR f x (who + 1) k
theorem sumR_add (f : Nat → Int) (x : Nat) : ∀ (k who : Nat), sumM f x (who + k) = sumM f x who + sumR f x who k
  | 0, who => by show sumM f x who = sumM f x who + 0; omega
  | k + 1, who => by
    rw [show who + (k + 1) = who + 1 + k from by omega, sumR_add f x k (who + 1)]
    show sumM f x who + (if x.testBit who then f who else 0) + sumR f x (who + 1) k = sumM f x who + ((if x.testBit who then f who else 0) + sumR f x (who + 1) k)
    omega
theorem sumR_pos {f : Nat → Int} (hf : ∀ w, 0 ≤ f w) (x : Nat) : ∀ (k who : Nat), 0 ≤ sumR f x who k
  | 0, _ => Int.le_refl _
  | k + 1, who => by
    have h1 := sumR_pos hf x k (who + 1)
    have h2 := hf who
    show 0 ≤ (if x.testBit who then f who else 0) + sumR f x (who + 1) k
    split <;> omega
theorem bit_out {x who i : Nat} (h : x < 2 ^ who) (hi : who ≤ i) : x.testBit i = false := Nat.testBit_lt_two_pow (Nat.lt_of_lt_of_le h (Nat.pow_le_pow_right (by decide) hi))
theorem on_mem {f : Nat → Int} (hf : ∀ w, 0 ≤ f w) (x : Nat) : ∀ (k who : Nat) (left : Int) (m : Nat), m < 2 ^ who → (x ∈ onL f k who left m ↔ 0 ≤ left ∧ x < 2 ^ (who + k) ∧ (∀ i, i < who → x.testBit i = m.testBit i) ∧ sumR f x who k ≤ left)
  | 0, who, left, m, hm => by
    by_cases hn : left < 0
    · rw [onL_neg hn]
      exact ⟨fun h => (by cases h), fun h => by omega⟩
    · rw [onL_0 hn, List.mem_singleton]
      constructor
      · intro h; subst h
        exact ⟨by omega, hm, fun i _ => rfl, by show (0 : Int) ≤ left; omega⟩
      · rintro ⟨_, h2, h3, _⟩
        have h2 : x < 2 ^ who := h2
        apply Nat.eq_of_testBit_eq
        intro i
        by_cases hi : i < who
        · exact h3 i hi
        · rw [bit_out h2 (by omega), bit_out hm (by omega)]
  | k + 1, who, left, m, hm => by
    by_cases hn : left < 0
    · rw [onL_neg hn]
      exact ⟨fun h => (by cases h), fun h => by omega⟩
    · have hm1 : m < 2 ^ (who + 1) := by rw [Nat.pow_succ]; omega
      have hmb : m.testBit who = false := bit_out hm (Nat.le_refl _)
      have hob : ∀ i, (m ||| 2 ^ who).testBit i = (m.testBit i || decide (who = i)) := fun i => by rw [Nat.testBit_or, Nat.testBit_two_pow]
      have e1 : who + (k + 1) = who + 1 + k := by omega
      have e2 : sumR f x who (k + 1) = (if x.testBit who then f who else 0) + sumR f x (who + 1) k := rfl
      have hp := sumR_pos hf x k (who + 1)
      rw [onL_s hn, List.mem_append, on_mem hf x k (who + 1) left m hm1, on_mem hf x k (who + 1) (left - f who) (m ||| 2 ^ who) (or_lt hm), e1, e2]
      constructor
      · rintro (⟨h1, h2, h3, h4⟩ | ⟨h1, h2, h3, h4⟩)
        · have hb : x.testBit who = false := by rw [h3 who (by omega), hmb]
          refine ⟨h1, h2, fun i hi => h3 i (by omega), ?_⟩
          rw [hb]
          show 0 + _ ≤ left
          omega
        · have hb : x.testBit who = true := by rw [h3 who (by omega), hob]; simp
          refine ⟨by omega, h2, fun i hi => ?_, ?_⟩
          · rw [h3 i (by omega), hob, show decide (who = i) = false from decide_eq_false (by omega), Bool.or_false]
          · rw [hb]
            show f who + _ ≤ left
            omega
      · rintro ⟨h1, h2, h3, h4⟩
        cases hb : x.testBit who with
        | false =>
          rw [hb] at h4
          have h4 : 0 + sumR f x (who + 1) k ≤ left := h4
          refine .inl ⟨h1, h2, fun i hi => ?_, by omega⟩
          by_cases e : i = who
          · rw [e, hb, hmb]
          · exact h3 i (by omega)
        | true =>
          rw [hb] at h4
          have h4 : f who + sumR f x (who + 1) k ≤ left := h4
          refine .inr ⟨by omega, h2, fun i hi => ?_, by omega⟩
          rw [hob]
          by_cases e : i = who
          · rw [e, hb]; simp
          · rw [h3 i (by omega), show decide (who = i) = false from decide_eq_false (by omega), Bool.or_false]
theorem on_mem0 {f : Nat → Int} (hf : ∀ w, 0 ≤ f w) {x p : Nat} {s : Int} : x ∈ onL f p 0 s 0 ↔ 0 ≤ s ∧ x < 2 ^ p ∧ sumM f x p ≤ s := by
  have h := sumR_add f x p 0
  rw [Nat.zero_add] at h
  have h : sumM f x p = 0 + sumR f x 0 p := h
  rw [on_mem hf x p 0 s 0 (by decide), h, Nat.zero_add]
  exact ⟨fun ⟨a, b, _, d⟩ => ⟨a, b, by omega⟩, fun ⟨a, b, d⟩ => ⟨a, b, fun i hi => by omega, by omega⟩⟩
/-! ### sorting by insertion -/
theorem getD_setN {l : List Nat} {i k v : Nat} (hi : i < l.length) : (l.set i v).getD k default = if k = i then v else l.getD k default := by
  rw [List.getD_eq_getElem?_getD, List.getElem?_set, List.getD_eq_getElem?_getD]
  by_cases e : i = k
  · subst e; simp [hi]
  · rw [if_neg e, if_neg (fun h => e h.symm)]
theorem swapU_at {l : List Nat} {j k : Nat} (h : j + 1 < l.length) : (swapU l j).getD k default = if k = j then l.getD (j + 1) default else if k = j + 1 then l.getD j default else l.getD k default := by
  unfold swapU
  rw [getD_setN (by rw [List.length_set]; omega), getD_setN h]
theorem mem_atU {l : List Nat} {x : Nat} : x ∈ l ↔ ∃ i, i < l.length ∧ l.getD i default = x := by
  rw [List.mem_iff_getElem]
  constructor
  · rintro ⟨i, h, e⟩; exact ⟨i, h, by rw [← e]; simp [List.getD, h]⟩
  · rintro ⟨i, h, e⟩; exact ⟨i, h, by rw [← e]; simp [List.getD, h]⟩
theorem mem_swapU {l : List Nat} {j x : Nat} (h : j + 1 < l.length) : x ∈ swapU l j ↔ x ∈ l := by
  rw [mem_atU, mem_atU, swapU_len]
  constructor
  · rintro ⟨i, hi, e⟩
    rw [swapU_at h] at e
    split at e
    · exact ⟨j + 1, h, e⟩
    · split at e
      · exact ⟨j, by omega, e⟩
      · exact ⟨i, hi, e⟩
  · rintro ⟨i, hi, e⟩
    by_cases e1 : i = j
    · exact ⟨j + 1, h, by rw [swapU_at h, if_neg (by omega), if_pos rfl, ← e1, e]⟩
    · by_cases e2 : i = j + 1
      · exact ⟨j, by omega, by rw [swapU_at h, if_pos rfl, ← e2, e]⟩
      · exact ⟨i, hi, by rw [swapU_at h, if_neg e1, if_neg e2, e]⟩
theorem mem_sink {a x : Nat} : ∀ (j : Nat) (l : List Nat), j < l.length → (x ∈ sinkA a j l ↔ x ∈ l)
  | 0, _, _ => Iff.rfl
  | j + 1, l, h => by
    unfold sinkA
    split
    · rw [mem_sink j _ (by rw [swapU_len]; omega), mem_swapU h]
    · exact Iff.rfl
theorem mem_insA {a x : Nat} {l : List Nat} : ∀ k, a + k < l.length ∨ k = 0 → (x ∈ insA a l k ↔ x ∈ l)
  | 0, _ => Iff.rfl
  | k + 1, h => by
    unfold insA
    rw [mem_sink _ _ (by rw [insA_len]; omega), mem_insA k (by omega)]
def SrtX (a m : Nat) (l : List Nat) : Prop := ∀ i i', a ≤ i → i < i' → i' < m → l.getD i default ≤ l.getD i' default
def OrdX (a m j : Nat) (l : List Nat) : Prop := (∀ i i', a ≤ i → i < i' → i' < m → i ≠ j → i' ≠ j → l.getD i default ≤ l.getD i' default) ∧ ∀ i', j < i' → i' < m → l.getD j default ≤ l.getD i' default
theorem sink_ord {a m : Nat} : ∀ (j : Nat) (l : List Nat), a ≤ j → j < m → m ≤ l.length → OrdX a m j l → SrtX a m (sinkA a j l)
  | 0, l, h1, h2, h3, h => fun i i' g1 g2 g3 => by
    show l.getD i default ≤ l.getD i' default
    by_cases e : i = 0
    · subst e; exact h.2 i' (by omega) g3
    · exact h.1 i i' g1 g2 g3 e (by omega)
  | j + 1, l, h1, h2, h3, h => by
    unfold sinkA
    split
    · rename_i hc
      have hj : j + 1 < l.length := by omega
      refine sink_ord j _ (by omega) (by omega) (by rw [swapU_len]; exact h3) ⟨fun i i' g1 g2 g3 g4 g5 => ?_, fun i' g1 g2 => ?_⟩
      · rw [swapU_at hj, swapU_at hj, if_neg g4, if_neg g5]
        by_cases e1 : i = j + 1
        · rw [if_pos e1, if_neg (by omega)]
          exact h.1 j i' (by omega) (by omega) g3 (by omega) (by omega)
        · rw [if_neg e1]
          by_cases e2 : i' = j + 1
          · rw [if_pos e2]
            exact h.1 i j g1 (by omega) (by omega) e1 (by omega)
          · rw [if_neg e2]
            exact h.1 i i' g1 g2 g3 e1 e2
      · rw [swapU_at hj, swapU_at hj, if_pos rfl, if_neg (by omega)]
        by_cases e2 : i' = j + 1
        · rw [if_pos e2]; omega
        · rw [if_neg e2]
          exact h.2 i' (by omega) g2
    · rename_i hc
      intro i i' g1 g2 g3
      by_cases e2 : i' = j + 1
      · subst e2
        by_cases e : i = j
        · subst e; omega
        · have h4 := h.1 i j g1 (by omega) (by omega) (by omega) (by omega)
          omega
      · by_cases e1 : i = j + 1
        · subst e1; exact h.2 i' g2 g3
        · exact h.1 i i' g1 g2 g3 e1 e2
theorem insA_ord {a : Nat} {l : List Nat} : ∀ k, a + k < l.length → SrtX a (a + k + 1) (insA a l k)
  | 0, _ => fun i i' g1 g2 g3 => by omega
  | k + 1, h => by
    have ih := insA_ord (a := a) (l := l) k (by omega)
    refine sink_ord (a + 1 + k) _ (by omega) (by omega) (by rw [insA_len]; omega) ⟨fun i i' g1 g2 g3 g4 g5 => ih i i' g1 g2 (by omega), fun i' g1 g2 => by omega⟩
theorem sortT_mem {l : List Nat} {x : Nat} : x ∈ sortT l ↔ x ∈ l := mem_insA _ (by omega)
theorem sortT_ord {l : List Nat} {i i' : Nat} (h : i ≤ i') (h2 : i' < l.length) : (sortT l).getD i default ≤ (sortT l).getD i' default := by
  by_cases e : i = i'
  · subst e; exact Nat.le_refl _
  · exact insA_ord (a := 0) (l := l) (l.length - 1) (by omega) i i' (Nat.zero_le _) (by omega) (by omega)
theorem best_law {f : Nat → Nat} {l : List Nat} : ∀ k, 0 < k → ∃ i, i < k ∧ bestU f l k = l.getD i default ∧ (∀ i', i' < k → f (l.getD i' default) ≤ f (bestU f l k)) ∧ ∀ i', i' < i → f (l.getD i' default) < f (bestU f l k)
  | 0, h => by cases h
  | k + 1, _ => by
    by_cases hk : k = 0
    · subst hk
      have e : bestU f l (0 + 1) = l.getD 0 default := bestU_y (.inl rfl)
      rw [e]
      exact ⟨0, by decide, rfl, fun i' h => by rw [show i' = 0 from by omega]; exact Nat.le_refl _, fun i' h => by cases h⟩
    · obtain ⟨i, h1, h2, h3, h4⟩ := best_law (f := f) (l := l) k (by omega)
      by_cases hc : f (bestU f l k) < f (l.getD k default)
      · rw [bestU_y (.inr hc)]
        refine ⟨k, by omega, rfl, fun i' h => ?_, fun i' h => ?_⟩
        · by_cases e : i' = k
          · rw [e]; exact Nat.le_refl _
          · have := h3 i' (by omega); omega
        · have := h3 i' h; omega
      · rw [bestU_n (by omega)]
        refine ⟨i, by omega, h2, fun i' h => ?_, h4⟩
        by_cases e : i' = k
        · rw [e]; omega
        · exact h3 i' (by omega)
theorem best_in {l : List Nat} {f : Nat → Nat} (hl : 0 < l.length) : bestU f (sortT l) (sortT l).length ∈ l ∧ ∀ x ∈ l, f x ≤ f (bestU f (sortT l) (sortT l).length) ∧ (f x = f (bestU f (sortT l) (sortT l).length) → bestU f (sortT l) (sortT l).length ≤ x) := by
  have hs := sortT_len l
  obtain ⟨i, h1, h2, h3, h4⟩ := best_law (f := f) (l := sortT l) (sortT l).length (by omega)
  refine ⟨?_, fun x hx => ?_⟩
  · rw [← sortT_mem, mem_atU]; exact ⟨i, h1, h2.symm⟩
  · obtain ⟨i', g1, g2⟩ := mem_atU.1 (sortT_mem.2 hx)
    rw [← g2]
    refine ⟨h3 i' g1, fun e => ?_⟩
    have hi : i ≤ i' := by
      by_cases h : i ≤ i'
      · exact h
      · have := h4 i' (by omega); omega
    rw [h2]
    exact sortT_ord hi (by omega)
section
variable {D : Debt} (hg : GoodD D) {dn : Nat} (hd : dn ≤ 30)
include hg hd
theorem need_pos (w : Nat) : 0 ≤ needN D dn w := (need_bd hg (w : Int) hd).1
theorem most_in {s : Int} (hs : 0 ≤ s) : (mostS D dn s < 2 ^ D.people.toNat ∧ sumM (needN D dn) (mostS D dn s) D.people.toNat ≤ s) ∧ ∀ x, x < 2 ^ D.people.toNat → sumM (needN D dn) x D.people.toNat ≤ s → pop x ≤ pop (mostS D dn s) ∧ (pop x = pop (mostS D dn s) → mostS D dn s ≤ x) := by
  have h := best_in (f := pop) (l := setsT D dn s) (onL_ne _ _ _ _ _ hs)
  refine ⟨((on_mem0 (need_pos hg hd)).1 h.1).2, fun x h1 h2 => h.2 x ((on_mem0 (need_pos hg hd)).2 ⟨hs, h1, h2⟩)⟩
theorem most_more {s s' : Int} (hs : 0 ≤ s) (h : s ≤ s') : pop (mostS D dn s) ≤ pop (mostS D dn s') := by
  obtain ⟨⟨h1, h2⟩, _⟩ := most_in hg hd hs
  exact ((most_in hg hd (show 0 ≤ s' by omega)).2 _ h1 (by omega)).1
/-- Those who need nothing. -/
abbrev noneF (D : Debt) (dn w : Nat) : Int := if needN D dn w = 0 then 1 else 0
omit hg hd in
theorem sumM_zero {f : Nat → Int} {x : Nat} : ∀ k, (∀ i, i < k → x.testBit i = true → f i = 0) → sumM f x k = 0
  | 0, _ => rfl
  | k + 1, h => by
    show sumM f x k + (if x.testBit k then f k else 0) = 0
    rw [sumM_zero k fun i hi => h i (by omega)]
    split
    · rename_i hb; rw [h k (by omega) hb]; rfl
    · rfl
omit hg hd in
theorem sumM_ge {f : Nat → Int} (hf : ∀ w, 0 ≤ f w) {x : Nat} : ∀ k, 0 ≤ sumM f x k ∧ ∀ i, i < k → x.testBit i = true → f i ≤ sumM f x k
  | 0 => ⟨Int.le_refl _, fun i h => by cases h⟩
  | k + 1 => by
    obtain ⟨h1, h2⟩ := sumM_ge hf (x := x) k
    have h3 := hf k
    have e : sumM f x (k + 1) = sumM f x k + (if x.testBit k then f k else 0) := rfl
    rw [e]
    refine ⟨by split <;> omega, fun i hi hb => ?_⟩
    by_cases e2 : i = k
    · subst e2; rw [if_pos hb]; omega
    · have := h2 i (by omega) hb
      split <;> omega
theorem most_none : mostS D dn 0 = openK (noneF D dn) D.people.toNat := by
  have hp := hg.np
  obtain ⟨⟨h1, h2⟩, h3⟩ := most_in hg hd (s := 0) (Int.le_refl _)
  have hk : 2 ^ D.people.toNat ≤ 2 ^ 4 := Nat.pow_le_pow_right (by decide) (by omega)
  have h4 : sumM (needN D dn) (openK (noneF D dn) D.people.toNat) D.people.toNat = 0 := sumM_zero _ fun i hi hb => by
    have := ((openK_bit _ i _).1 hb).2
    unfold noneF at this
    split at this
    · assumption
    · omega
  have h5 := h3 (openK (noneF D dn) D.people.toNat) (openK_lt _ _) (by omega)
  have h6 : openK (noneF D dn) D.people.toNat &&& mostS D dn 0 = mostS D dn 0 := by
    apply Nat.eq_of_testBit_eq
    intro i
    rw [Nat.testBit_and]
    cases hb : (mostS D dn 0).testBit i with
    | false => simp
    | true =>
      have hi : i < D.people.toNat := by
        by_cases h : i < D.people.toNat
        · exact h
        · rw [bit_out h1 (by omega)] at hb; cases hb
      have h7 := (sumM_ge (need_pos hg hd) (x := mostS D dn 0) D.people.toNat).2 i hi hb
      have h8 := need_pos hg hd i
      rw [(openK_bit _ i _).2 ⟨hi, by unfold noneF; rw [if_pos (by omega)]; decide⟩]; rfl
  have h9 := openK_lt (noneF D dn) D.people.toNat
  have hdec : ∀ y, y < 16 → ∀ x, x < 16 → y &&& x = x → pop y ≤ pop x → x = y := by decide +kernel
  exact hdec _ (by omega) _ (by omega) h6 h5.1
end
/-! ### how many a set holds -/
def sizeK : Nat → Nat → Nat
  | 0, _ => 0
  | n + 1, x => x % 2 + sizeK n (x / 2)
theorem size_pop : ∀ m, m < 64 → sizeK 6 m = pop m := by decide +kernel
theorem size_0 : ∀ k, sizeK k 0 = 0
  | 0 => rfl
  | k + 1 => by show 0 % 2 + sizeK k (0 / 2) = 0; rw [show 0 / 2 = 0 from rfl, size_0 k]
end Go.Proofs.YtpfgiednfjfdmaaDoor


namespace Go.Proofs.YtpfgiednfjfdmaaDoor
open Go.G Debt10
set_option maxRecDepth 1000000
attribute [local irreducible] G.ParO G.Fin
theorem size_s {n x a : Nat} {t : Nat} (h : a + sizeK (n + 1) x = t) : a + x % 2 + sizeK n (x / 2) = t := by
  have e : sizeK (n + 1) x = x % 2 + sizeK n (x / 2) := rfl
  omega
theorem bit_and (m k : Nat) : ((m >>> k &&& 1 : Nat) : Int) = 1 ↔ m.testBit k = true := by
  have h := Nat.toNat_testBit m k
  rw [Nat.and_one_is_mod, Nat.shiftRight_eq_div_pow, ← h]
  cases m.testBit k <;> simp
theorem bit_dec (m k : Nat) : Value.bool (decide (((m >>> k &&& 1 : Nat) : Int) = 1)) = .bool (m.testBit k) := by
  cases hb : m.testBit k with
  | true => exact congrArg Value.bool (decide_eq_true ((bit_and m k).2 hb))
  | false => exact congrArg Value.bool (decide_eq_false (fun h => by rw [(bit_and m k).1 h] at hb; cases hb))
theorem sum_y {f : Nat → Int} {x k : Nat} (h : x.testBit k = true) : sumM f x k + f k = sumM f x (k + 1) := by
  show _ = sumM f x k + (if x.testBit k then f k else 0)
  rw [if_pos h]
theorem sum_n {f : Nat → Int} {x k : Nat} (h : x.testBit k = false) : sumM f x k = sumM f x (k + 1) := by
  show _ = sumM f x k + (if x.testBit k then f k else 0)
  rw [h]
  show _ = sumM f x k + 0
  omega
theorem sumM_bd {f : Nat → Int} (hf : ∀ w, 0 ≤ f w ∧ f w ≤ 6000) (x : Nat) : ∀ k : Nat, 0 ≤ sumM f x k ∧ sumM f x k ≤ 6000 * (k : Int)
  | 0 => ⟨Int.le_refl _, by show (0 : Int) ≤ 6000 * ((0 : Nat) : Int); omega⟩
  | k + 1 => by
    have h1 := sumM_bd hf x k
    have h2 := hf k
    show 0 ≤ sumM f x k + (if x.testBit k then f k else 0) ∧ sumM f x k + (if x.testBit k then f k else 0) ≤ 6000 * ((k + 1 : Nat) : Int)
    split <;> omega
theorem none_y {D : Debt} {dn k : Nat} (h : needT D (k : Int) dn = 0) : openK (noneF D dn) k ||| 2 ^ k = openK (noneF D dn) (k + 1) := (openK_y (by unfold noneF; rw [if_pos h]; decide)).symm
theorem none_n {D : Debt} {dn k : Nat} (h : ¬ needT D (k : Int) dn = 0) : openK (noneF D dn) k = openK (noneF D dn) (k + 1) := (openK_n (by unfold noneF; rw [if_neg h]; decide)).symm
theorem mostB_ok {D : Debt} (hg : GoodD D) {d : Nat} {s : Int} (hd : d ≤ 30) (hs : 0 ≤ s ∧ s ≤ 5000) : mostB D (d : Int) s = (((pop (mostS D d s) : Int), (mostS D d s : Int)), 0) := by
  rw [mostB, ansD_0 (chkD_0 hg (okMT (decide_eq_true (by omega)) (decide_eq_true hs))), Int.toNat_natCast]
theorem two_p {p : Nat} (h : 1 ≤ p ∧ p ≤ 4) : 1 < 2 ^ p ∧ 2 ^ p ≤ 16 := by
  have h1 : 2 ^ 1 ≤ 2 ^ p := Nat.pow_le_pow_right (by decide) h.1
  have h2 : 2 ^ p ≤ 2 ^ 4 := Nat.pow_le_pow_right (by decide) h.2
  omega
attribute [local irreducible] leftT aheadT gradeS setT needT mostS pop sumM openK
set_option maxHeartbeats 4000000 in
theorem size40_v (m : Nat) (hm : m < 64) : FnV Tryd.prog 40 [i64 (m : Int)] [] (i64 (pop m : Nat)) := by
  refine FnV.intro Tryd.call40 Tryd.func40 rfl Tryd.ntmps40 rfl ?_
  intro W M Rf
  refine r_seq ?_
  refine r_region ?_
  refine o_q _ rfl rfl rfl (v_assign rfl rfl) ?_
  refine o_nil ?_
  with_reducible refine r_then ?_
  refine r_seq ?_
  refine r_region ?_
  refine o_q _ rfl rfl rfl (v_assign rfl rfl) ?_
  refine o_nil ?_
  with_reducible refine r_then ?_
  refine r_seq ?_
  refine r_block ?_
  refine r_loop (ι := Nat × Nat × Nat) (fun gh => gh.2.2 < 2 ^ gh.1 ∧ gh.1 ≤ 6 ∧ gh.2.1 + sizeK gh.1 gh.2.2 = pop m) (fun gh => [(0, i64 (gh.2.2 : Int)), (3, i64 (gh.2.1 : Int))]) (fun gh => M) (fun gh => [] ++ Rf) (fun gh => gh.1) (6, 0, m) ?_ ?_ ?_
  ·
    exact r_here (by repeat (first | exact FSub.nil | refine FSub.cons rfl ?_)) SelMC.sel SubRC.sub
  ·
    exact ⟨hm, Nat.le_refl _, by rw [← size_pop m hm]; exact Nat.zero_add _⟩
  ·
    rintro ⟨q, a, x⟩ hI0
    dsimp only at hI0
    dsimp only
    obtain ⟨hx1, hx2, hx3⟩ := hI0
    have hpl := pop_lt m
    have hq64 : 2 ^ q ≤ 2 ^ 6 := Nat.pow_le_pow_right (by decide) hx2
    have hx64 : x < 64 := by omega
    refine r_seq ?_
    refine r_seq ?_
    refine r_region ?_
    refine o_q _ rfl rfl rfl (v_move rfl rfl) ?_
    refine o_q _ rfl rfl rfl (v_gtr rfl rfl rfl) ?_
    refine o_nil ?_
    with_reducible refine r_then ?_
    refine r_condd rfl (fun hc5 => ?_) (fun hc5 => ?_)
    ·
      refine r_skip ?_
      with_reducible refine r_then ?_
      refine r_block ?_
      obtain ⟨q, rfl⟩ : ∃ n, q = n + 1 := by cases q with | zero => (exfalso; have h1 : x < 1 := hx1; omega) | succ n => exact ⟨n, rfl⟩
      refine r_region ?_
      refine o_q _ rfl rfl rfl (v_move rfl rfl) ?_
      refine o_q _ rfl rfl rfl (v_move rfl rfl) ?_
      refine o_q _ rfl rfl rfl (v_cast (v := i64 ((x % 2 : Nat) : Int)) (v_rem rfl rfl rfl (by omega)) (tmodE (b := 2) rfl rfl)) ?_
      refine o_q _ rfl rfl rfl (v_cast (v := i64 ((a + x % 2 : Nat) : Int)) (v_add rfl rfl rfl (by omega)) (congrArg (Value.int .i64) (by omega))) ?_
      refine o_q _ rfl rfl rfl (v_move rfl rfl) ?_
      refine o_q _ rfl rfl rfl (v_cast (v := i64 ((x / 2 : Nat) : Int)) (v_quo rfl rfl rfl (by omega) (by rw [Int.tdiv_eq_ediv_of_nonneg (by omega)]; omega)) (congrArg (Value.int .i64) (tdiv_nat (a := x) (b := 2)))) ?_
      refine o_q _ rfl rfl rfl (v_assign rfl rfl) ?_
      refine o_q _ rfl rfl rfl (v_assign rfl rfl) ?_
      refine o_nil ?_
      with_reducible refine r_in_normal ?_; refine r_then ?_
      exact r_next ((q, a + x % 2, x / 2)) (by exact r_here (by repeat (first | exact FSub.nil | refine FSub.cons rfl ?_)) SelMC.sel SubRC.sub) (by exact ⟨by rw [Nat.pow_succ] at hx1; show x / 2 < 2 ^ q; omega, by show q ≤ 6; omega, size_s hx3⟩) (by show q < q + 1; omega)
    ·
      refine r_exit ?_
      with_reducible refine r_then_exit ?_; refine r_then_exit ?_; refine r_in_here ?_; refine r_then ?_
      refine r_seq ?_
      have hx0 : x = 0 := by omega
      rw [hx0, size_0] at hx3
      refine r_region ?_
      refine o_q _ rfl rfl rfl (v_move rfl rfl) ?_
      refine o_q _ rfl rfl rfl (v_assign rfl rfl) ?_
      refine o_nil ?_
      with_reducible refine r_then ?_
      refine r_ret ?_
      exact r_retv2 (Rd.tmp rfl rfl) (congrArg (Value.int .i64) (congrArg Nat.cast (by omega))) SelMC.sel SubRC.sub
variable (D : Debt) (uo po : Option Addr) (uc pc : Nat)
set_option maxHeartbeats 4000000 in
theorem needs41_v (m b4 b9 dk : Nat) (hm : m < 64) (hg : GoodD D) (hd : dk ≤ 30) (hl1 : D.dues.length ≤ 40) (hl2 : D.paid.length ≤ 40) : FnV Tryd.prog 41 [i64 (m : Int), pt b4 0, pt b9 0] [boxF b4 25 (cellsD D uo po uc pc), boxF b9 3 [i64 (dk : Int)], rowD uo 5 encD D.dues, rowD po 4 encP D.paid, rowD (some ⟨0, 0, none⟩) 1 encE ([0, 1] : List Nat)] (.tuple #[i64 (sumM (needN D dk) m D.people.toNat), i64 (openK (noneF D dk) D.people.toNat : Nat)]) := by
  have hp1 := hg.np
  have hp2 := hg.nd
  have hp3 := hg.ny
  refine FnV.intro Tryd.call41 Tryd.func41 rfl Tryd.ntmps41 rfl ?_
  intro W M Rf
  refine r_seq ?_
  refine r_region ?_
  refine o_q _ rfl rfl rfl (v_assign rfl rfl) ?_
  refine o_q _ rfl rfl rfl (v_assign rfl rfl) ?_
  refine o_nil ?_
  with_reducible refine r_then ?_
  refine r_seq ?_
  refine r_seq ?_
  refine r_region ?_
  refine o_q _ rfl rfl rfl (v_fieldAddr rfl Tryd.underlying25 inf3 rfl rfl rfl rfl) ?_
  refine o_q _ rfl rfl rfl (v_lf1 rfl Tryd.underlying3 rfl rfl rfl) ?_
  refine o_q _ rfl rfl rfl (v_move rfl rfl) ?_
  refine o_nil ?_
  with_reducible refine r_then ?_
  refine r_block ?_
  refine r_loop (ι := Nat) (fun k => k ≤ D.people.toNat) (fun k => [(0, i64 (m : Int)), (1, pt b4 0), (2, pt b9 0), (4, i64 (sumM (needN D dk) m k)), (5, i64 ((openK (noneF D dk) k : Nat) : Int)), (10, i64 D.people), (11, i64 (k : Int))]) (fun k => M) (fun k => [boxF b4 25 (cellsD D uo po uc pc), boxF b9 3 [i64 (dk : Int)], rowD uo 5 encD D.dues, rowD po 4 encP D.paid, rowD (some ⟨0, 0, none⟩) 1 encE ([0, 1] : List Nat)] ++ Rf) (fun k => D.people.toNat - k) 0 ?_ ?_ ?_
  ·
    exact r_here (by repeat (first | exact FSub.nil | refine FSub.cons rfl ?_ | refine FSub.cons2 rfl (by unfold sumM; rfl) ?_ | refine FSub.cons2 rfl (by unfold openK; rfl) ?_)) SelMC.sel SubRC.sub
  ·
    omega
  ·
    rintro k hI0
    refine r_seq ?_
    refine r_region ?_
    refine o_q _ rfl rfl rfl (v_lss rfl rfl rfl) ?_
    refine o_nil ?_
    with_reducible refine r_then ?_
    refine r_seq ?_
    refine r_condd rfl (fun hc12 => ?_) (fun hc12 => ?_)
    ·
      refine r_skip ?_
      with_reducible refine r_then ?_
      refine r_seq ?_
      refine r_block ?_
      refine r_seq ?_
      refine r_region ?_
      refine o_q _ rfl rfl rfl (v_move rfl rfl) ?_
      refine o_q _ rfl rfl rfl (v_assign rfl rfl) ?_
      refine o_nil ?_
      with_reducible refine r_then ?_
      refine r_seq ?_
      refine r_region ?_
      refine o_q _ rfl rfl rfl (v_lfW rfl Tryd.underlying25 rfl inf25 rfl rfl) ?_
      refine o_q _ rfl rfl rfl (v_move rfl rfl) ?_
      refine o_q _ rfl rfl rfl (v_lf1 rfl Tryd.underlying3 rfl rfl rfl) ?_
      refine o_q _ rfl rfl rfl (v_cast (v := .tuple #[i64 (needT D (k : Int) dk), i64 0]) (OpQ.fn (need22_v D uo po uc pc (k : Int) (dk : Int) hl1 hl2) rfl rfl SubRC.sub) (by rw [needB_ok hg (w := k) (d := dk) (by omega) (by omega)]; try rfl)) ?_
      refine o_q _ rfl rfl rfl (v_move rfl rfl) ?_
      refine o_q _ rfl rfl rfl (v_extract rfl rfl rfl) ?_
      refine o_q _ rfl rfl rfl (v_extract rfl rfl rfl) ?_
      refine o_q _ rfl rfl rfl (v_assign rfl rfl) ?_
      refine o_q _ rfl rfl rfl (v_assign rfl rfl) ?_
      refine o_nil ?_
      with_reducible refine r_then ?_
      refine r_seq ?_
      refine r_seq ?_
      refine r_region ?_
      refine o_q _ rfl rfl rfl (v_move rfl rfl) ?_
      refine o_q _ rfl rfl rfl (v_neq rfl rfl rfl) ?_
      refine o_nil ?_
      with_reducible refine r_then ?_
      refine r_condd rfl (fun hc22 => ?_) (fun hc22 => ?_)
      ·
        (exfalso; revert hc22; decide)
      ·
        refine r_skip ?_
        with_reducible refine r_then ?_
        refine r_seq ?_
        refine r_seq ?_
        refine r_region ?_
        refine o_q _ rfl rfl rfl (v_move rfl rfl) ?_
        refine o_q _ rfl rfl rfl (v_move rfl rfl) ?_
        refine o_q _ rfl rfl rfl (v_shrI (a := m) (h := k) rfl rfl rfl (by omega) (by omega)) ?_
        refine o_q _ rfl rfl rfl (v_andn (a := m >>> k) (b := 1) rfl rfl rfl (by have := Nat.shiftRight_le m k; omega) (by decide)) ?_
        refine o_q _ rfl rfl rfl (v_cast (v := .bool (m.testBit k)) (v_eql rfl rfl rfl) (bit_dec m k)) ?_
        refine o_nil ?_
        with_reducible refine r_then ?_
        refine r_cond rfl (fun hc27 => ?_) (fun hc27 => ?_)
        ·
          have hsb := sumM_bd (f := (needN D dk)) (fun w => need_bd hg (w : Int) hd) m k
          have hnb := need_bd hg (k : Int) hd
          refine r_region ?_
          refine o_q _ rfl rfl rfl (v_move rfl rfl) ?_
          refine o_q _ rfl rfl rfl (v_move rfl rfl) ?_
          refine o_q _ rfl rfl rfl (v_add rfl rfl rfl (by omega)) ?_
          refine o_q _ rfl rfl rfl (v_assign rfl rfl) ?_
          refine o_nil ?_
          with_reducible refine r_then ?_
          refine r_seq ?_
          refine r_region ?_
          refine o_q _ rfl rfl rfl (v_move rfl rfl) ?_
          refine o_q _ rfl rfl rfl (v_eql rfl rfl rfl) ?_
          refine o_nil ?_
          with_reducible refine r_then ?_
          refine r_condd rfl (fun hc32 => ?_) (fun hc32 => ?_)
          ·
            have hok := openK_lt (noneF D dk) k
            have hkp : 2 ^ k ≤ 2 ^ 4 := Nat.pow_le_pow_right (by decide) (by omega)
            refine r_region ?_
            refine o_q _ rfl rfl rfl (v_move rfl rfl) ?_
            refine o_q _ rfl rfl rfl (v_move rfl rfl) ?_
            refine o_q _ rfl rfl rfl (v_shl1 (h := k) rfl rfl rfl (by omega) rfl) ?_
            refine o_q _ rfl rfl rfl (v_orn (a := openK (noneF D dk) k) (b := 2 ^ k) rfl rfl rfl (by omega) (by omega)) ?_
            refine o_q _ rfl rfl rfl (v_assign rfl rfl) ?_
            refine o_nil ?_
            with_reducible refine r_in_normal ?_; refine r_then ?_
            refine r_region ?_
            refine o_q _ rfl rfl rfl (v_add rfl rfl rfl (by omega)) ?_
            refine o_q _ rfl rfl rfl (v_move rfl rfl) ?_
            refine o_nil ?_
            with_reducible refine r_then ?_
            refine r_next (k + 1) ?_ ?_ ?_
            ·
              exact r_here (by (repeat (first | exact FSub.nil | refine FSub.cons rfl ?_ | refine FSub.cons2 rfl (i64c (sum_y (by assumption))) ?_ | refine FSub.cons2 rfl (i64c (sum_n (by assumption))) ?_ | refine FSub.cons2 rfl (i64n (none_y (by omega))) ?_ | refine FSub.cons2 rfl (i64n (none_n (by omega))) ?_)); first | done | fail) SelMC.sel SubRC.sub
            ·
              omega
            ·
              omega
          ·
            refine r_skip ?_
            with_reducible refine r_in_normal ?_; refine r_then ?_
            refine r_region ?_
            refine o_q _ rfl rfl rfl (v_add rfl rfl rfl (by omega)) ?_
            refine o_q _ rfl rfl rfl (v_move rfl rfl) ?_
            refine o_nil ?_
            with_reducible refine r_then ?_
            refine r_next (k + 1) ?_ ?_ ?_
            ·
              exact r_here (by (repeat (first | exact FSub.nil | refine FSub.cons rfl ?_ | refine FSub.cons2 rfl (i64c (sum_y (by assumption))) ?_ | refine FSub.cons2 rfl (i64c (sum_n (by assumption))) ?_ | refine FSub.cons2 rfl (i64n (none_y (by omega))) ?_ | refine FSub.cons2 rfl (i64n (none_n (by omega))) ?_)); first | done | fail) SelMC.sel SubRC.sub
            ·
              omega
            ·
              omega
        ·
          refine r_skip ?_
          with_reducible refine r_then ?_
          refine r_seq ?_
          refine r_region ?_
          refine o_q _ rfl rfl rfl (v_move rfl rfl) ?_
          refine o_q _ rfl rfl rfl (v_eql rfl rfl rfl) ?_
          refine o_nil ?_
          with_reducible refine r_then ?_
          refine r_condd rfl (fun hc32 => ?_) (fun hc32 => ?_)
          ·
            have hok := openK_lt (noneF D dk) k
            have hkp : 2 ^ k ≤ 2 ^ 4 := Nat.pow_le_pow_right (by decide) (by omega)
            refine r_region ?_
            refine o_q _ rfl rfl rfl (v_move rfl rfl) ?_
            refine o_q _ rfl rfl rfl (v_move rfl rfl) ?_
            refine o_q _ rfl rfl rfl (v_shl1 (h := k) rfl rfl rfl (by omega) rfl) ?_
            refine o_q _ rfl rfl rfl (v_orn (a := openK (noneF D dk) k) (b := 2 ^ k) rfl rfl rfl (by omega) (by omega)) ?_
            refine o_q _ rfl rfl rfl (v_assign rfl rfl) ?_
            refine o_nil ?_
            with_reducible refine r_in_normal ?_; refine r_then ?_
            refine r_region ?_
            refine o_q _ rfl rfl rfl (v_add rfl rfl rfl (by omega)) ?_
            refine o_q _ rfl rfl rfl (v_move rfl rfl) ?_
            refine o_nil ?_
            with_reducible refine r_then ?_
            refine r_next (k + 1) ?_ ?_ ?_
            ·
              exact r_here (by (repeat (first | exact FSub.nil | refine FSub.cons rfl ?_ | refine FSub.cons2 rfl (i64c (sum_y (by assumption))) ?_ | refine FSub.cons2 rfl (i64c (sum_n (by assumption))) ?_ | refine FSub.cons2 rfl (i64n (none_y (by omega))) ?_ | refine FSub.cons2 rfl (i64n (none_n (by omega))) ?_)); first | done | fail) SelMC.sel SubRC.sub
            ·
              omega
            ·
              omega
          ·
            refine r_skip ?_
            with_reducible refine r_in_normal ?_; refine r_then ?_
            refine r_region ?_
            refine o_q _ rfl rfl rfl (v_add rfl rfl rfl (by omega)) ?_
            refine o_q _ rfl rfl rfl (v_move rfl rfl) ?_
            refine o_nil ?_
            with_reducible refine r_then ?_
            refine r_next (k + 1) ?_ ?_ ?_
            ·
              exact r_here (by (repeat (first | exact FSub.nil | refine FSub.cons rfl ?_ | refine FSub.cons2 rfl (i64c (sum_y (by assumption))) ?_ | refine FSub.cons2 rfl (i64c (sum_n (by assumption))) ?_ | refine FSub.cons2 rfl (i64n (none_y (by omega))) ?_ | refine FSub.cons2 rfl (i64n (none_n (by omega))) ?_)); first | done | fail) SelMC.sel SubRC.sub
            ·
              omega
            ·
              omega
    ·
      refine r_exit ?_
      with_reducible refine r_then_exit ?_; refine r_then_exit ?_; refine r_in_here ?_; refine r_then ?_
      refine r_seq ?_
      obtain rfl : k = D.people.toNat := by omega
      refine r_region ?_
      refine o_q _ rfl rfl rfl (v_move rfl rfl) ?_
      refine o_q _ rfl rfl rfl (v_move rfl rfl) ?_
      refine o_q _ rfl rfl rfl (v_assign rfl rfl) ?_
      refine o_q _ rfl rfl rfl (v_assign rfl rfl) ?_
      refine o_nil ?_
      with_reducible refine r_then ?_
      refine r_ret ?_
      exact r_retv2 (Rd.two rfl (RdI.tmp rfl) (RdI.tmp rfl)) rfl SelMC.sel SubRC.sub
set_option maxHeartbeats 4000000 in
theorem mosts_not (w0 : Nat) (b0 : w0 ≤ 255) (w1 : Nat) (b1 : w1 ≤ 65535) (w2 : Nat) (b2 : w2 ≤ 255) (hfg : ¬ (¬ farD D ∧ GoodD D)) : FnV Tryd.prog 8 [valD D uo po uc pc, .int .u8 w0, .int .u16 w1, .int .u8 w2] [rowD uo 5 encD D.dues, rowD po 4 encP D.paid, rowD (some ⟨0, 0, none⟩) 1 encE ([0, 1] : List Nat)] (.bool true) := by
  refine FnV.intro Tryd.call8 Tryd.func8 rfl Tryd.ntmps8 rfl ?_
  intro W M Rf
  refine r_seq ?_
  refine r_region ?_
  refine o_boxA rfl rfl rfl rfl rfl (fun b4 => ?_)
  refine o_q _ rfl rfl rfl (v_assign rfl rfl) ?_
  refine o_nil ?_
  with_reducible refine r_then ?_
  refine r_seq ?_
  refine r_seq ?_
  refine r_region ?_
  refine o_q _ rfl rfl rfl (v_ldW rfl Tryd.underlying25 rfl inf25 rfl rfl) ?_
  refine o_q _ rfl rfl rfl (v_cast (v := .bool false) (OpQ.fn (fine_v D uo po uc pc) rfl rfl SubRC.sub) (congrArg Value.bool (decide_eq_false hfg))) ?_
  refine o_q _ rfl rfl rfl (v_not rfl rfl) ?_
  refine o_nil ?_
  with_reducible refine r_then ?_
  refine r_cond rfl (fun hc30 => ?_) (fun hc30 => ?_)
  ·
    refine r_seq ?_
    refine r_region ?_
    refine o_q _ rfl rfl rfl (OpQ.fn awake_v rfl rfl SubRC.sub) ?_
    refine o_q _ rfl rfl rfl (v_assign rfl rfl) ?_
    refine o_nil ?_
    with_reducible refine r_then ?_
    refine r_ret ?_
    with_reducible refine r_then_ret ?_
    exact r_retv2 (Rd.tmp rfl rfl) rfl SelMC.sel SubRC.sub
  ·
    (exfalso; revert hc30; decide)
set_option maxHeartbeats 4000000 in
theorem mosts_ok (w0 : Nat) (b0 : w0 ≤ 255) (w1 : Nat) (b1 : w1 ≤ 65535) (w2 : Nat) (b2 : w2 ≤ 255) (dk sk : Nat) (hdk : w0 % 31 = dk) (hsk : w1 % 5001 = sk) (hf : ¬ farD D) (hg : GoodD D) : FnV Tryd.prog 8 [valD D uo po uc pc, .int .u8 w0, .int .u16 w1, .int .u8 w2] [rowD uo 5 encD D.dues, rowD po 4 encP D.paid, rowD (some ⟨0, 0, none⟩) 1 encE ([0, 1] : List Nat)] (.bool true) := by
  have hf2 := hf
  unfold farD at hf2
  have hl1 : D.dues.length ≤ 40 := by omega
  have hl2 : D.paid.length ≤ 40 := by omega
  have hp1 := hg.np
  have hp2 := hg.nd
  have hp3 := hg.ny
  have hdp : dk ≤ 30 := by omega
  have hsp : sk ≤ 5000 := by omega
  have h2p := two_p (p := D.people.toNat) (by omega)
  refine FnV.intro Tryd.call8 Tryd.func8 rfl Tryd.ntmps8 rfl ?_
  intro W M Rf
  refine r_seq ?_
  refine r_region ?_
  refine o_boxA rfl rfl rfl rfl rfl (fun b4 => ?_)
  refine o_q _ rfl rfl rfl (v_assign rfl rfl) ?_
  refine o_nil ?_
  with_reducible refine r_then ?_
  refine r_seq ?_
  refine r_seq ?_
  refine r_region ?_
  refine o_q _ rfl rfl rfl (v_ldW rfl Tryd.underlying25 rfl inf25 rfl rfl) ?_
  refine o_q _ rfl rfl rfl (v_cast (v := .bool true) (OpQ.fn (fine_v D uo po uc pc) rfl rfl SubRC.sub) (congrArg Value.bool (decide_eq_true ⟨hf, hg⟩))) ?_
  refine o_q _ rfl rfl rfl (v_not rfl rfl) ?_
  refine o_nil ?_
  with_reducible refine r_then ?_
  refine r_cond rfl (fun hc30 => ?_) (fun hc30 => ?_)
  ·
    (exfalso; revert hc30; decide)
  ·
    refine r_skip ?_
    with_reducible refine r_then ?_
    refine r_seq ?_
    refine r_region ?_
    refine o_q _ rfl rfl rfl (v_move rfl rfl) ?_
    refine o_q _ rfl rfl rfl (v_conv rfl Tryd.underlying5 Tryd.underlying3 rfl (IntWalk.i64_in _ (by omega))) ?_
    refine o_q _ rfl rfl rfl (v_cast (v := i64 (dk : Nat)) (v_rem rfl rfl rfl (by omega)) (tmodE hdk (by omega))) ?_
    refine o_q _ rfl rfl rfl (v_move rfl rfl) ?_
    refine o_q _ rfl rfl rfl (v_conv rfl Tryd.underlying56 Tryd.underlying3 rfl (IntWalk.i64_in _ (by omega))) ?_
    refine o_q _ rfl rfl rfl (v_cast (v := i64 (sk : Nat)) (v_rem rfl rfl rfl (by omega)) (tmodE hsk (by omega))) ?_
    refine o_alloc rfl inf3 rfl rfl rfl rfl rfl (fun b9 => ?_)
    refine o_st rfl inf3 rfl rfl rfl rfl rfl rfl rfl rfl ?_
    refine o_q _ rfl rfl rfl (v_assign rfl rfl) ?_
    refine o_nil ?_
    with_reducible refine r_then ?_
    refine r_seq ?_
    refine Imp.box_to b9 [i64 (dk : Int)] rfl ?_
    obtain ⟨⟨hm1, hm2⟩, hm3⟩ := most_in hg hdp (s := (sk : Int)) (by omega)
    refine r_region ?_
    refine o_q _ rfl rfl rfl (v_ldW rfl Tryd.underlying25 rfl inf25 rfl rfl) ?_
    refine o_q _ rfl rfl rfl (v_ld1 rfl Tryd.underlying3 rfl rfl rfl) ?_
    refine o_q _ rfl rfl rfl (v_move rfl rfl) ?_
    refine o_q _ rfl rfl rfl (v_cast (v := .tuple #[i64 (pop (mostS D dk (sk : Int)) : Nat), i64 (mostS D dk (sk : Int) : Nat), i64 0]) (OpQ.fn (most26_v D uo po uc pc (dk : Int) (sk : Int) hl1 hl2) rfl rfl SubRC.sub) (by rw [mostB_ok hg (d := dk) (s := (sk : Int)) (by omega) (by omega)]; try rfl)) ?_
    refine o_q _ rfl rfl rfl (v_move rfl rfl) ?_
    refine o_q _ rfl rfl rfl (v_extract rfl rfl rfl) ?_
    refine o_q _ rfl rfl rfl (v_extract rfl rfl rfl) ?_
    refine o_q _ rfl rfl rfl (v_extract rfl rfl rfl) ?_
    refine o_q _ rfl rfl rfl (v_assign rfl rfl) ?_
    refine o_q _ rfl rfl rfl (v_assign rfl rfl) ?_
    refine o_q _ rfl rfl rfl (v_assign rfl rfl) ?_
    refine o_nil ?_
    with_reducible refine r_then ?_
    refine r_seq ?_
    refine r_region ?_
    refine o_q _ rfl rfl rfl (v_fieldAddr rfl Tryd.underlying25 inf3 rfl rfl rfl rfl) ?_
    refine o_q _ rfl rfl rfl (v_cast (v := i64 ((D.people.toNat : Nat) : Int)) (v_ld1 rfl Tryd.underlying3 rfl rfl rfl) (i64c (by omega))) ?_
    refine o_q _ rfl rfl rfl (v_shl1 (h := D.people.toNat) rfl rfl rfl (by omega) rfl) ?_
    refine o_q _ rfl rfl rfl (v_cast (v := i64 ((2 ^ D.people.toNat - 1 : Nat) : Int)) (v_sub rfl rfl rfl (by omega)) (i64c (by omega))) ?_
    refine o_q _ rfl rfl rfl (v_assign rfl rfl) ?_
    refine o_nil ?_
    with_reducible refine r_then ?_
    refine r_seq ?_
    refine r_region ?_
    refine o_q _ rfl rfl rfl (v_move rfl rfl) ?_
    refine o_q _ rfl rfl rfl (v_conv rfl Tryd.underlying5 Tryd.underlying3 rfl (IntWalk.i64_in _ (by omega))) ?_
    refine o_q _ rfl rfl rfl (v_move rfl rfl) ?_
    refine o_q _ rfl rfl rfl (v_andn (a := w2) (b := 2 ^ D.people.toNat - 1) rfl rfl rfl (by omega) (by omega)) ?_
    refine o_q _ rfl rfl rfl (v_assign rfl rfl) ?_
    refine o_q _ rfl rfl rfl (v_assign rfl rfl) ?_
    refine o_nil ?_
    with_reducible refine r_then ?_
    refine r_seq ?_
    refine r_region ?_
    refine o_q _ rfl rfl rfl (v_makeFunc rfl rfl rfl) ?_
    refine o_q _ rfl rfl rfl (v_assign rfl rfl) ?_
    refine o_nil ?_
    with_reducible refine r_then ?_
    refine r_seq ?_
    have how : (w2 &&& (2 ^ D.people.toNat - 1)) ≤ 2 ^ D.people.toNat - 1 := Nat.and_le_right
    refine Imp.sealB b4 ?_
    refine Imp.sealB b9 ?_
    refine r_region ?_
    refine o_q _ rfl rfl rfl (v_move rfl rfl) ?_
    refine o_q _ rfl rfl rfl (v_move rfl rfl) ?_
    refine o_q _ rfl rfl rfl (OpQ.call (needs41_v D uo po uc pc (mostS D dk (sk : Int)) b4 b9 dk (by omega) hg hdp hl1 hl2) rfl [] [pt b4 0, pt b9 0] rfl rfl rfl SubRC.sub) ?_
    refine o_q _ rfl rfl rfl (v_move rfl rfl) ?_
    refine o_q _ rfl rfl rfl (v_extract rfl rfl rfl) ?_
    refine o_q _ rfl rfl rfl (v_extract rfl rfl rfl) ?_
    refine o_q _ rfl rfl rfl (v_assign rfl rfl) ?_
    refine o_q _ rfl rfl rfl (v_assign rfl rfl) ?_
    refine o_nil ?_
    with_reducible refine r_then ?_
    refine r_seq ?_
    refine r_region ?_
    refine o_q _ rfl rfl rfl (v_move rfl rfl) ?_
    refine o_q _ rfl rfl rfl (v_move rfl rfl) ?_
    refine o_q _ rfl rfl rfl (OpQ.call (needs41_v D uo po uc pc (w2 &&& (2 ^ D.people.toNat - 1)) b4 b9 dk (by omega) hg hdp hl1 hl2) rfl [] [pt b4 0, pt b9 0] rfl rfl rfl SubRC.sub) ?_
    refine o_q _ rfl rfl rfl (v_move rfl rfl) ?_
    refine o_q _ rfl rfl rfl (v_extract rfl rfl rfl) ?_
    refine o_q _ rfl rfl rfl (v_extract rfl rfl rfl) ?_
    refine o_q _ rfl rfl rfl (v_assign rfl rfl) ?_
    refine o_q _ rfl rfl rfl (v_assign rfl rfl) ?_
    refine o_nil ?_
    with_reducible refine r_then ?_
    refine r_seq ?_
    refine r_seq ?_
    refine r_region ?_
    refine o_q _ rfl rfl rfl (v_move rfl rfl) ?_
    refine o_q _ rfl rfl rfl (v_false (v_neq rfl rfl rfl) (by omega)) ?_
    all_goals
      refine o_q _ rfl rfl rfl (v_move rfl rfl) ?_
      refine o_g _ rfl rfl rfl rfl (v_move rfl rfl) ?_
      refine o_g _ rfl rfl rfl rfl (v_false (v_lss rfl rfl rfl) (by omega)) ?_
      all_goals
        refine o_q _ rfl rfl rfl (v_pick_f rfl rfl rfl) ?_
        refine o_q _ rfl rfl rfl (v_move rfl rfl) ?_
        refine o_g _ rfl rfl rfl rfl (v_move rfl rfl) ?_
        refine o_g _ rfl rfl rfl rfl (v_move rfl rfl) ?_
        refine o_g _ rfl rfl rfl rfl (v_false (v_gtr rfl rfl rfl) (by omega)) ?_
        all_goals
          refine o_q _ rfl rfl rfl (v_pick_f rfl rfl rfl) ?_
          refine o_q _ rfl rfl rfl (v_move rfl rfl) ?_
          refine o_g _ rfl rfl rfl rfl (v_move rfl rfl) ?_
          refine o_g _ rfl rfl rfl rfl (v_move rfl rfl) ?_
          refine o_g _ rfl rfl rfl rfl (OpQ.call (size40_v (mostS D dk (sk : Int)) (by omega)) rfl [] [] rfl rfl (by simp) SubRC.sub) ?_
          refine o_g _ rfl rfl rfl rfl (v_move rfl rfl) ?_
          refine o_g _ rfl rfl rfl rfl (v_false (v_neq rfl rfl rfl) (by omega)) ?_
          all_goals
            refine o_q _ rfl rfl rfl (v_pick_f rfl rfl rfl) ?_
            refine o_q _ rfl rfl rfl (v_move rfl rfl) ?_
            refine o_g _ rfl rfl rfl rfl (v_move rfl rfl) ?_
            refine o_g _ rfl rfl rfl rfl (v_move rfl rfl) ?_
            refine o_g _ rfl rfl rfl rfl (v_false (v_gtr rfl rfl rfl) (by omega)) ?_
            all_goals
              refine o_q _ rfl rfl rfl (v_pick_f rfl rfl rfl) ?_
              refine o_nil ?_
              with_reducible refine r_then ?_
              refine r_cond rfl (fun hc89 => ?_) (fun hc89 => ?_)
              ·
                (exfalso; revert hc89; decide)
              ·
                refine r_skip ?_
                with_reducible refine r_then ?_
                refine r_seq ?_
                refine r_seq ?_
                have hb := hm3 (w2 &&& (2 ^ D.people.toNat - 1)) (by omega)
                refine r_region ?_
                refine o_q _ rfl rfl rfl (v_move rfl rfl) ?_
                refine o_q _ rfl rfl rfl (v_move rfl rfl) ?_
                refine o_test rfl rfl rfl (v_leq rfl rfl rfl) (fun h92 => ?_) (fun h92 => ?_)
                all_goals
                  refine o_q _ rfl rfl rfl (v_move rfl rfl) ?_
                  first | refine o_gn rfl rfl rfl rfl ?_ | refine o_g _ rfl rfl rfl rfl (v_move rfl rfl) ?_
                  first | refine o_gn rfl rfl rfl rfl ?_ | refine o_g _ rfl rfl rfl rfl (v_move rfl rfl) ?_
                  first | refine o_gn rfl rfl rfl rfl ?_ | refine o_g _ rfl rfl rfl rfl (OpQ.call (size40_v (w2 &&& (2 ^ D.people.toNat - 1)) (by omega)) rfl [] [] rfl rfl (by simp) SubRC.sub) ?_
                  first | refine o_gn rfl rfl rfl rfl ?_ | refine o_g _ rfl rfl rfl rfl (v_move rfl rfl) ?_
                  first | refine o_gn rfl rfl rfl rfl ?_ | refine o_g _ rfl rfl rfl rfl (v_false (v_gtr rfl rfl rfl) (by omega)) ?_
                  all_goals
                    first | refine o_gn rfl rfl rfl rfl ?_ | refine o_g _ rfl rfl rfl rfl (v_move rfl rfl) ?_
                    first | refine o_gn rfl rfl rfl rfl ?_ | refine o_g _ rfl rfl rfl rfl (v_move rfl rfl) ?_
                    first | refine o_gn rfl rfl rfl rfl ?_ | refine o_g _ rfl rfl rfl rfl (v_move rfl rfl) ?_
                    first | refine o_gn rfl rfl rfl rfl ?_ | refine o_g _ rfl rfl rfl rfl (OpQ.call (size40_v (w2 &&& (2 ^ D.people.toNat - 1)) (by omega)) rfl [] [] rfl rfl (by simp) SubRC.sub) ?_
                    first | refine o_gn rfl rfl rfl rfl ?_ | refine o_g _ rfl rfl rfl rfl (v_move rfl rfl) ?_
                    first | refine o_gn rfl rfl rfl rfl ?_ | refine o_gtest rfl rfl rfl rfl (v_eql rfl rfl rfl) (fun h104 => ?_) (fun h104 => ?_)
                    all_goals
                      first | refine o_gn rfl rfl rfl rfl ?_ | refine o_g _ rfl rfl rfl rfl (v_move rfl rfl) ?_
                      first | refine o_gn rfl rfl rfl rfl ?_ | refine o_g _ rfl rfl rfl rfl (v_move rfl rfl) ?_
                      first | refine o_gn rfl rfl rfl rfl ?_ | refine o_g _ rfl rfl rfl rfl (v_move rfl rfl) ?_
                      first | refine o_gn rfl rfl rfl rfl ?_ | refine o_g _ rfl rfl rfl rfl (v_false (v_lss rfl rfl rfl) (by omega)) ?_
                      all_goals
                        first | refine o_gn rfl rfl rfl rfl ?_ | refine o_g _ rfl rfl rfl rfl (v_pick_t rfl rfl rfl) ?_ | refine o_g _ rfl rfl rfl rfl (v_pick_f rfl rfl rfl) ?_
                        first | refine o_gn rfl rfl rfl rfl ?_ | refine o_g _ rfl rfl rfl rfl (v_pick_f rfl rfl rfl) ?_
                        first | refine o_q _ rfl rfl rfl (v_pick_t rfl rfl rfl) ?_ | refine o_q _ rfl rfl rfl (v_pick_f rfl rfl rfl) ?_
                        refine o_nil ?_
                        with_reducible refine r_then ?_
                        refine r_cond rfl (fun hc111 => ?_) (fun hc111 => ?_)
                        ·
                          (exfalso; revert hc111; decide)
                        ·
                          refine r_skip ?_
                          with_reducible refine r_then ?_
                          refine r_seq ?_
                          have hmm := most_more hg hdp (s := (sk : Int)) (s' := (min 5000 ((sk : Int) + 50))) (by omega) (by omega)
                          have hmn := most_none hg hdp
                          have hmp : pop (mostS D dk 0) = pop (openK (noneF D dk) D.people.toNat) := by rw [hmn]
                          have hok := openK_lt (noneF D dk) D.people.toNat
                          refine r_region ?_
                          refine o_q _ rfl rfl rfl (v_lfW rfl Tryd.underlying25 rfl inf25 rfl rfl) ?_
                          refine o_q _ rfl rfl rfl (v_lf1 rfl Tryd.underlying3 rfl rfl rfl) ?_
                          refine o_q _ rfl rfl rfl (v_move rfl rfl) ?_
                          refine o_q _ rfl rfl rfl (v_add rfl rfl rfl (by omega)) ?_
                          refine o_q _ rfl rfl rfl (v_min2 rfl rfl rfl) ?_
                          refine o_q _ rfl rfl rfl (v_cast (v := .tuple #[i64 (pop (mostS D dk (min 5000 ((sk : Int) + 50))) : Nat), i64 (mostS D dk (min 5000 ((sk : Int) + 50)) : Nat), i64 0]) (OpQ.fn (most26_v D uo po uc pc (dk : Int) (min 5000 ((sk : Int) + 50)) hl1 hl2) rfl rfl SubRC.sub) (by rw [mostB_ok hg (d := dk) (s := (min 5000 ((sk : Int) + 50))) (by omega) (by omega)]; try rfl)) ?_
                          refine o_q _ rfl rfl rfl (v_move rfl rfl) ?_
                          refine o_q _ rfl rfl rfl (v_extract rfl rfl rfl) ?_
                          refine o_q _ rfl rfl rfl (v_extract rfl rfl rfl) ?_
                          refine o_q _ rfl rfl rfl (v_extract rfl rfl rfl) ?_
                          refine o_q _ rfl rfl rfl (v_assign rfl rfl) ?_
                          refine o_q _ rfl rfl rfl (v_assign rfl rfl) ?_
                          refine o_q _ rfl rfl rfl (v_assign rfl rfl) ?_
                          refine o_nil ?_
                          with_reducible refine r_then ?_
                          refine r_seq ?_
                          refine r_region ?_
                          refine o_q _ rfl rfl rfl (v_lfW rfl Tryd.underlying25 rfl inf25 rfl rfl) ?_
                          refine o_q _ rfl rfl rfl (v_lf1 rfl Tryd.underlying3 rfl rfl rfl) ?_
                          refine o_q _ rfl rfl rfl (v_cast (v := .tuple #[i64 (pop (mostS D dk 0) : Nat), i64 (mostS D dk 0 : Nat), i64 0]) (OpQ.fn (most26_v D uo po uc pc (dk : Int) 0 hl1 hl2) rfl rfl SubRC.sub) (by rw [mostB_ok hg (d := dk) (s := 0) (by omega) (by omega)]; try rfl)) ?_
                          refine o_q _ rfl rfl rfl (v_move rfl rfl) ?_
                          refine o_q _ rfl rfl rfl (v_extract rfl rfl rfl) ?_
                          refine o_q _ rfl rfl rfl (v_extract rfl rfl rfl) ?_
                          refine o_q _ rfl rfl rfl (v_extract rfl rfl rfl) ?_
                          refine o_q _ rfl rfl rfl (v_assign rfl rfl) ?_
                          refine o_q _ rfl rfl rfl (v_assign rfl rfl) ?_
                          refine o_q _ rfl rfl rfl (v_assign rfl rfl) ?_
                          refine o_nil ?_
                          with_reducible refine r_then ?_
                          refine r_seq ?_
                          refine r_region ?_
                          refine o_q _ rfl rfl rfl (v_move rfl rfl) ?_
                          refine o_q _ rfl rfl rfl (v_true (v_eql rfl rfl rfl) (by omega)) ?_
                          all_goals
                            refine o_q _ rfl rfl rfl (v_move rfl rfl) ?_
                            refine o_g _ rfl rfl rfl rfl (v_move rfl rfl) ?_
                            refine o_g _ rfl rfl rfl rfl (v_move rfl rfl) ?_
                            refine o_g _ rfl rfl rfl rfl (v_true (v_geq rfl rfl rfl) (by omega)) ?_
                            all_goals
                              refine o_q _ rfl rfl rfl (v_pick_t rfl rfl rfl) ?_
                              refine o_q _ rfl rfl rfl (v_move rfl rfl) ?_
                              refine o_g _ rfl rfl rfl rfl (v_move rfl rfl) ?_
                              refine o_g _ rfl rfl rfl rfl (v_true (v_eql rfl rfl rfl) (by omega)) ?_
                              all_goals
                                refine o_q _ rfl rfl rfl (v_pick_t rfl rfl rfl) ?_
                                refine o_q _ rfl rfl rfl (v_move rfl rfl) ?_
                                refine o_g _ rfl rfl rfl rfl (v_move rfl rfl) ?_
                                refine o_g _ rfl rfl rfl rfl (v_move rfl rfl) ?_
                                refine o_g _ rfl rfl rfl rfl (v_true (v_eql rfl rfl rfl) (by omega)) ?_
                                all_goals
                                  refine o_q _ rfl rfl rfl (v_pick_t rfl rfl rfl) ?_
                                  refine o_q _ rfl rfl rfl (v_move rfl rfl) ?_
                                  refine o_g _ rfl rfl rfl rfl (v_move rfl rfl) ?_
                                  refine o_g _ rfl rfl rfl rfl (v_move rfl rfl) ?_
                                  refine o_g _ rfl rfl rfl rfl (v_move rfl rfl) ?_
                                  refine o_g _ rfl rfl rfl rfl (OpQ.call (size40_v (openK (noneF D dk) D.people.toNat) (by omega)) rfl [] [] rfl rfl (by simp) SubRC.sub) ?_
                                  refine o_g _ rfl rfl rfl rfl (v_true (v_eql rfl rfl rfl) (by omega)) ?_
                                  all_goals
                                    refine o_q _ rfl rfl rfl (v_pick_t rfl rfl rfl) ?_
                                    refine o_q _ rfl rfl rfl (v_move rfl rfl) ?_
                                    refine o_g _ rfl rfl rfl rfl (OpQ.fn awake_v rfl rfl SubRC.sub) ?_
                                    refine o_q _ rfl rfl rfl (v_pick_t rfl rfl rfl) ?_
                                    refine o_q _ rfl rfl rfl (v_assign rfl rfl) ?_
                                    refine o_nil ?_
                                    with_reducible refine r_then ?_
                                    refine r_ret ?_
                                    exact r_retv2 (Rd.tmp rfl rfl) rfl SelMC.sel SubRC.sub
theorem mosts_v (w0 : Nat) (b0 : w0 ≤ 255) (w1 : Nat) (b1 : w1 ≤ 65535) (w2 : Nat) (b2 : w2 ≤ 255) : FnV Tryd.prog 8 [valD D uo po uc pc, .int .u8 w0, .int .u16 w1, .int .u8 w2] [rowD uo 5 encD D.dues, rowD po 4 encP D.paid, rowD (some ⟨0, 0, none⟩) 1 encE ([0, 1] : List Nat)] (.bool true) := by
  by_cases h : ¬ farD D ∧ GoodD D
  · exact mosts_ok D uo po uc pc w0 b0 w1 b1 w2 b2 _ _ rfl rfl h.1 h.2
  · exact mosts_not D uo po uc pc w0 b0 w1 b1 w2 b2 h
end Go.Proofs.YtpfgiednfjfdmaaDoor

