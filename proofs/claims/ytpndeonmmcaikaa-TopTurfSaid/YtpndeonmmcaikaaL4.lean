/- Part 4 of 5 of what the proofs of this seat stand on: a small logic for walks, what the functions come to, and the walks themselves. No condition of its own. -/
import Derived.Test.YtpndeonmmcaikaaL3
import Derived.Test.YtpndeonmmcaikaaL2
import Derived.Test.YtpndeonmmcaikaaL1
set_option linter.unusedVariables false
set_option linter.unusedSimpArgs false
set_option linter.unusedSectionVars false
namespace Go.Proofs.Ytpndeonmmcaikaa.SodW
open Go.G Foot4 Sod2
set_option maxRecDepth 1000000
attribute [local irreducible] G.ParO G.Fin
attribute [local irreducible] strokes strS cntTo nowF bk logD someTo upTo sodsOf cutL one preC nxC costsL
variable (B : Bank) (po so lo : Option Addr) (pc sc lc : Nat)
variable (fb mb : Nat)
set_option maxHeartbeats 4000000 in
theorem sods_s (d : Nat) (hg : GoodS B) (hd : d < B.days.length) : FnS Try.prog 32 [pt fb 0, i64 (d : Int)] [memo Try.prog 113 (okS B) mb] [boxF fb 110 [.slice po B.spits.length pc, .slice so B.days.length sc, .slice lo B.logs.length lc, .map (some mb)], rowD po 3 encSp B.spits, rowD so 2 encS B.days, rowD lo 3 encLg B.logs] (fun e M' R' => ∃ x : Option Addr × Nat, e = .returned (.slice x.1 ((goodC B).map (cutSp B d)).length x.2) ∧ True ∧ M' = [memo Try.prog 113 (okS B) mb] ∧ R' = [rowD x.1 2 encS ((goodC B).map (cutSp B d))]) := by
 refine FnS.intro1 Try.call32 Try.func32 rfl Try.ntmps32 rfl ?_
 intro W M Rf
 refine r_seq ?_
 refine r_region ?_
 refine o_box1 rfl rfl rfl rfl rfl rfl (fun b2 => ?_)
 refine o_box1 rfl rfl rfl rfl rfl rfl (fun b3 => ?_)
 refine o_q _ rfl rfl rfl (v_assign rfl rfl) ?_
 refine o_nil ?_
 repeat (first | with_reducible refine r_then ?_ | with_reducible refine r_in_normal ?_ | with_reducible refine r_sc_normal ?_)
 refine r_seq ?_
 refine Imp.sealB b2 ?_
 refine Imp.sealB b3 ?_
 refine r_region ?_
 first | refine o_q _ rfl rfl rfl (v_ld1 rfl Try.underlying76 rfl rfl rfl) ?_ | refine o_q _ rfl rfl rfl (v_lf1 rfl Try.underlying76 rfl rfl rfl) ?_ | refine o_q _ rfl rfl rfl (v_loadE1 rfl Try.underlying76 rfl rfl (by omega) rfl rfl) ?_
 refine o_q _ rfl rfl rfl (v_makeFunc rfl rfl rfl) ?_
 refine o_q _ rfl rfl rfl (v_bS rfl Try.underlying122 inf122 plt122 rfl rfl rfl (by repeat (first | exact trivial | refine ⟨rfl, ?_⟩)) (by rfl)) ?_
 refine o_fnX (all_s B po so lo pc sc lc fb mb d b2 b3 hg hd) rfl rfl rfl rfl rfl SubRC.sub (fun x8 _ => ?_)
 refine o_q _ rfl rfl rfl (v_assign rfl rfl) ?_
 refine o_nil ?_
 repeat (first | with_reducible refine r_then ?_ | with_reducible refine r_in_normal ?_ | with_reducible refine r_sc_normal ?_)
 refine r_ret ?_
 repeat (first | with_reducible refine r_then_ret ?_ | with_reducible refine r_in_ret ?_ | with_reducible refine r_sc_ret ?_)
 exact r_rete [memo Try.prog 113 (okS B) mb] [rowD x8.1 2 encS ((goodC B).map (cutSp B d))] (Rd.tmp rfl rfl) ⟨x8, rfl, trivial, rfl, rfl⟩ SelMC.sel SubRC.sub
set_option maxHeartbeats 4000000 in
theorem is1_v (d c1 : Nat) (hd : d < B.days.length) (hl2 : B.days.length ≤ 40) : FnV Try.prog 29 [pt fb 0, pt c1 0] [boxF fb 110 [.slice po B.spits.length pc, .slice so B.days.length sc, .slice lo B.logs.length lc, .map (some mb)], rowD po 3 encSp B.spits, rowD so 2 encS B.days, rowD lo 3 encLg B.logs, boxF c1 3 [i64 (d : Int)]] (.bool true) := by
 refine FnV.intro Try.call29 Try.func29 rfl Try.ntmps29 rfl ?_
 intro W M Rf
 refine r_seq ?_
 refine r_region ?_
 refine o_q _ rfl rfl rfl (v_assign rfl rfl) ?_
 refine o_nil ?_
 repeat (first | with_reducible refine r_then ?_ | with_reducible refine r_in_normal ?_ | with_reducible refine r_sc_normal ?_)
 refine r_seq ?_
 refine r_region ?_
 refine o_q _ rfl rfl rfl (v_move rfl rfl) ?_
 first | refine o_q _ rfl rfl rfl (v_ld1 rfl Try.underlying3 rfl rfl rfl) ?_ | refine o_q _ rfl rfl rfl (v_lf1 rfl Try.underlying3 rfl rfl rfl) ?_ | refine o_q _ rfl rfl rfl (v_loadE1 rfl Try.underlying3 rfl rfl (by omega) rfl rfl) ?_
 refine o_q _ rfl rfl rfl (v_cast (v := .bool true) (OpQ.fn (isDay_v B po so lo pc sc lc fb mb _ hl2) rfl rfl SubRC.sub) (congrArg Value.bool (decide_eq_true (by omega)))) ?_
 refine o_q _ rfl rfl rfl (v_assign rfl rfl) ?_
 refine o_nil ?_
 repeat (first | with_reducible refine r_then ?_ | with_reducible refine r_in_normal ?_ | with_reducible refine r_sc_normal ?_)
 refine r_ret ?_
 repeat (first | with_reducible refine r_then_ret ?_ | with_reducible refine r_in_ret ?_ | with_reducible refine r_sc_ret ?_)
 exact r_retv2 (Rd.tmp rfl rfl) rfl SelMC.sel SubRC.sub
set_option maxHeartbeats 4000000 in
theorem answer_ans : AnsP Try.prog 26 .i64 104 43 := by
  refine ⟨Try.call26, fun W M R w b hw => ?_, fun W M R w b x y hw => ?_⟩
  · refine ans_intro (args := [pt b 0]) (u' := .returning) (v := .nilIface) Try.func26 rfl Try.ntmps26 rfl rfl rfl rfl rfl rfl rfl rfl rfl (fun c₀ cs h => .inr ⟨rec_ret h, rfl, rfl⟩) hw ?_
    intro c₀ cs
    refine r_seq ?_
    refine r_region ?_
    refine o_q _ rfl rfl rfl (v_move rfl rfl) ?_
    first | refine o_q _ rfl rfl rfl (v_ifnn rfl Try.underlying20 rfl) ?_ | refine o_q _ rfl rfl rfl (v_ifnil rfl Try.underlying20 rfl) ?_
    refine o_nil ?_
    repeat (first | with_reducible refine r_then ?_ | with_reducible refine r_in_normal ?_ | with_reducible refine r_sc_normal ?_)
    first | refine r_condd rfl (fun hc7 => ?_) (fun hc7 => ?_) | refine r_cond rfl (fun hc7 => ?_) (fun hc7 => ?_)
    ·
      first
      | (exfalso; revert hc7; decide)
      | (exfalso; omega)
      | skip
        refine r_seq ?_
        refine r_region ?_
        refine o_q _ rfl rfl rfl (v_move rfl rfl) ?_
        refine o_q _ rfl rfl rfl (v_assertOk rfl Try.underlying104 rfl rfl) ?_
        refine o_q _ rfl rfl rfl (v_move rfl rfl) ?_
        refine o_q _ rfl rfl rfl (v_extract rfl rfl rfl) ?_
        refine o_q _ rfl rfl rfl (v_extract rfl rfl rfl) ?_
        refine o_q _ rfl rfl rfl (v_assign rfl rfl) ?_
        refine o_q _ rfl rfl rfl (v_assign rfl rfl) ?_
        refine o_nil ?_
        repeat (first | with_reducible refine r_then ?_ | with_reducible refine r_in_normal ?_ | with_reducible refine r_sc_normal ?_)
        refine r_seq ?_
        refine r_seq ?_
        refine r_region ?_
        refine o_q _ rfl rfl rfl (v_move rfl rfl) ?_
        refine o_q _ rfl rfl rfl (v_not rfl rfl) ?_
        refine o_nil ?_
        repeat (first | with_reducible refine r_then ?_ | with_reducible refine r_in_normal ?_ | with_reducible refine r_sc_normal ?_)
        first | refine r_condd rfl (fun hc14 => ?_) (fun hc14 => ?_) | refine r_cond rfl (fun hc14 => ?_) (fun hc14 => ?_)
        ·
          first
          | (exfalso; revert hc14; decide)
          | (exfalso; omega)
          | skip
            refine r_region ?_
            refine o_q _ rfl rfl rfl (v_move rfl rfl) ?_
            refine o_panic rfl rfl rfl ?_
            repeat (first | with_reducible refine r_then_panic ?_ | with_reducible refine r_in_panic ?_ | with_reducible refine r_sc_panic ?_)
            skip
        ·
          first
          | (exfalso; revert hc14; decide)
          | (exfalso; omega)
          | skip
            refine r_skip ?_
            repeat (first | with_reducible refine r_then ?_ | with_reducible refine r_in_normal ?_ | with_reducible refine r_sc_normal ?_)
            refine r_region ?_
            refine o_q _ rfl rfl rfl (v_move rfl rfl) ?_
            refine o_q _ rfl rfl rfl (v_move rfl rfl) ?_
            refine o_q _ rfl rfl rfl (v_nilCheck rfl rfl) ?_
            refine o_st rfl inf43 rfl rfl rfl rfl rfl rfl rfl rfl ?_
            refine o_nil ?_
            repeat (first | with_reducible refine r_then ?_ | with_reducible refine r_in_normal ?_ | with_reducible refine r_sc_normal ?_)
            exact r_ends (Rd.none rfl) (fun w' h => ⟨⟨_, rfl⟩, rfl, h⟩)
    ·
      first
      | (exfalso; revert hc7; decide)
      | (exfalso; omega)
      | skip
        refine r_skip ?_
        repeat (first | with_reducible refine r_then ?_ | with_reducible refine r_in_normal ?_ | with_reducible refine r_sc_normal ?_)
        exact r_ends (Rd.none rfl) (fun w' h => ⟨⟨_, rfl⟩, rfl, h⟩)
  · refine ans_intro (args := [pt b 0]) (u' := .panicking [{ v := .iface 104 (i64 y), recovered := true }]) (v := .iface 104 (i64 y)) Try.func26 rfl Try.ntmps26 rfl rfl rfl rfl rfl rfl rfl rfl rfl (fun c₀ cs h => .inl (rec_pan h)) hw ?_
    intro c₀ cs
    refine r_seq ?_
    refine r_region ?_
    refine o_q _ rfl rfl rfl (v_move rfl rfl) ?_
    first | refine o_q _ rfl rfl rfl (v_ifnn rfl Try.underlying20 rfl) ?_ | refine o_q _ rfl rfl rfl (v_ifnil rfl Try.underlying20 rfl) ?_
    refine o_nil ?_
    repeat (first | with_reducible refine r_then ?_ | with_reducible refine r_in_normal ?_ | with_reducible refine r_sc_normal ?_)
    first | refine r_condd rfl (fun hc7 => ?_) (fun hc7 => ?_) | refine r_cond rfl (fun hc7 => ?_) (fun hc7 => ?_)
    ·
      first
      | (exfalso; revert hc7; decide)
      | (exfalso; omega)
      | skip
        refine r_seq ?_
        refine r_region ?_
        refine o_q _ rfl rfl rfl (v_move rfl rfl) ?_
        refine o_q _ rfl rfl rfl (v_assertOk rfl Try.underlying104 rfl rfl) ?_
        refine o_q _ rfl rfl rfl (v_move rfl rfl) ?_
        refine o_q _ rfl rfl rfl (v_extract rfl rfl rfl) ?_
        refine o_q _ rfl rfl rfl (v_extract rfl rfl rfl) ?_
        refine o_q _ rfl rfl rfl (v_assign rfl rfl) ?_
        refine o_q _ rfl rfl rfl (v_assign rfl rfl) ?_
        refine o_nil ?_
        repeat (first | with_reducible refine r_then ?_ | with_reducible refine r_in_normal ?_ | with_reducible refine r_sc_normal ?_)
        refine r_seq ?_
        refine r_seq ?_
        refine r_region ?_
        refine o_q _ rfl rfl rfl (v_move rfl rfl) ?_
        refine o_q _ rfl rfl rfl (v_not rfl rfl) ?_
        refine o_nil ?_
        repeat (first | with_reducible refine r_then ?_ | with_reducible refine r_in_normal ?_ | with_reducible refine r_sc_normal ?_)
        first | refine r_condd rfl (fun hc14 => ?_) (fun hc14 => ?_) | refine r_cond rfl (fun hc14 => ?_) (fun hc14 => ?_)
        ·
          first
          | (exfalso; revert hc14; decide)
          | (exfalso; omega)
          | skip
            refine r_region ?_
            refine o_q _ rfl rfl rfl (v_move rfl rfl) ?_
            refine o_panic rfl rfl rfl ?_
            repeat (first | with_reducible refine r_then_panic ?_ | with_reducible refine r_in_panic ?_ | with_reducible refine r_sc_panic ?_)
            skip
        ·
          first
          | (exfalso; revert hc14; decide)
          | (exfalso; omega)
          | skip
            refine r_skip ?_
            repeat (first | with_reducible refine r_then ?_ | with_reducible refine r_in_normal ?_ | with_reducible refine r_sc_normal ?_)
            refine r_region ?_
            refine o_q _ rfl rfl rfl (v_move rfl rfl) ?_
            refine o_q _ rfl rfl rfl (v_move rfl rfl) ?_
            refine o_q _ rfl rfl rfl (v_nilCheck rfl rfl) ?_
            refine o_st rfl inf43 rfl rfl rfl rfl rfl rfl rfl rfl ?_
            refine o_nil ?_
            repeat (first | with_reducible refine r_then ?_ | with_reducible refine r_in_normal ?_ | with_reducible refine r_sc_normal ?_)
            exact r_ends (Rd.none rfl) (fun w' h => ⟨⟨_, rfl⟩, rfl, h⟩)
    ·
      first
      | (exfalso; revert hc7; decide)
      | (exfalso; omega)
      | skip
        refine r_skip ?_
        repeat (first | with_reducible refine r_then ?_ | with_reducible refine r_in_normal ?_ | with_reducible refine r_sc_normal ?_)
        exact r_ends (Rd.none rfl) (fun w' h => ⟨⟨_, rfl⟩, rfl, h⟩)
theorem o_fnN {α : Type} {W : World} {n : Nat} {D : List Deferred} {L : Tm} {M : List Res} {R : List Fact} {Q : Exit → Act → World → Prop} {o : Oper} {ops : Array Oper} {rest : List Oper} {k : FuncId} {args : List Value} {R0 : List Fact} {g : α → Value} {Pp : α → Prop} {Mr : α → Res} {Rr : α → List Fact} {xs : List Operand} {ts : Array TypeId} {d : Nat}
    (h : FnS Try.prog k args [] R0 (fun e M' R' => ∃ x, e = .returned (g x) ∧ Pp x ∧ M' = [Mr x] ∧ R' = Rr x)) (ho : o.op = .call { callee := .value (.func k), args := xs.toArray, argTypes := ts })
    (hx : evs L xs = some args) (hg : o.guard = none) (hdst : o.dst = some d) (hd : Nat.blt d n = true) (hs : SubR R R0)
    (hret : ∀ x, Pp x → Imp W n D ((d, g x) :: L) (Mr x :: M) (Rr x ++ R) (wpList Try.prog ops Q rest)) : Imp W n D L M R (wpList Try.prog ops Q (o :: rest)) := by
  refine o_call h ho [] [] rfl hx (by simp) hg (by simp [okD, hdst, hd]) (Mf := M) SelM.refl hs ?_ ?_ ?_
  · rintro v M' R' ⟨x, he, hp, rfl, rfl⟩
    cases he
    rw [hdst]
    exact hret x hp
  · rintro c M' R' ⟨x, he, _⟩; cases he
  · rintro M' R' ⟨x, he, _⟩; cases he
set_option maxHeartbeats 4000000 in
theorem open_ok (ki : FuncId) (caps : List Value) (Rc : List Fact) (hI : ∀ fb mb, FnV Try.prog ki (pt fb 0 :: caps) (boxF fb 110 [.slice po B.spits.length pc, .slice so B.days.length sc, .slice lo B.logs.length lc, .map (some mb)] :: rowD po 3 encSp B.spits :: rowD so 2 encS B.days :: rowD lo 3 encLg B.logs :: Rc) (.bool true)) (hg : GoodS B) : FnS Try.prog 28 [valS B po pc so sc lo lc, .func (.func ki) #[] caps.toArray] [] (rowD po 3 encSp B.spits :: rowD so 2 encS B.days :: rowD lo 3 encLg B.logs :: Rc) (fun e M' R' => ∃ x : Nat × Nat, e = .returned (pt x.1 0) ∧ True ∧ M' = [memo Try.prog 113 (okS B) x.2] ∧ R' = [boxF x.1 110 [.slice po B.spits.length pc, .slice so B.days.length sc, .slice lo B.logs.length lc, .map (some x.2)]]) := by
 refine FnS.intro0 Try.call28 Try.func28 rfl Try.ntmps28 rfl ?_
 intro W M Rf
 refine r_seq ?_
 refine r_region ?_
 refine o_boxA rfl rfl rfl rfl rfl (fun b2 => ?_)
 refine o_q _ rfl rfl rfl (v_assign rfl rfl) ?_
 refine o_nil ?_
 repeat (first | with_reducible refine r_then ?_ | with_reducible refine r_in_normal ?_ | with_reducible refine r_sc_normal ?_)
 refine r_seq ?_
 have hq1 := hg.1
 have hq2 := hg.2.1
 have hq3 := hg.2.2.1
 refine r_region ?_
 first | refine o_q _ rfl rfl rfl (v_fieldAddr rfl Try.underlying37 inf34 rfl rfl rfl rfl) ?_ | refine o_q _ rfl rfl rfl (v_fieldAddrE rfl Try.underlying37 inf34 rfl rfl rfl rfl) ?_
 first | refine o_q _ rfl rfl rfl (v_ld1 rfl Try.underlying34 rfl rfl rfl) ?_ | refine o_q _ rfl rfl rfl (v_lf1 rfl Try.underlying34 rfl rfl rfl) ?_ | refine o_q _ rfl rfl rfl (v_loadE1 rfl Try.underlying34 rfl rfl (by omega) rfl rfl) ?_
 refine o_q _ rfl rfl rfl (v_len rfl rfl Try.underlying34 rfl) ?_
 first | refine o_q _ rfl rfl rfl (v_true (OpQ.fn (within_v _ _ _) rfl rfl SubRC.sub) (by omega)) ?_ | refine o_q _ rfl rfl rfl (v_false (OpQ.fn (within_v _ _ _) rfl rfl SubRC.sub) (by omega)) ?_ | refine o_test rfl rfl rfl (OpQ.fn (within_v _ _ _) rfl rfl SubRC.sub) (fun h13 => ?_) (fun h13 => ?_)
 all_goals
  refine o_q _ rfl rfl rfl (v_move rfl rfl) ?_
  first | refine o_gn rfl rfl rfl rfl ?_ | refine o_g _ rfl rfl rfl rfl (v_fieldAddr rfl Try.underlying37 inf22 rfl rfl rfl rfl) ?_ | refine o_g _ rfl rfl rfl rfl (v_fieldAddrE rfl Try.underlying37 inf22 rfl rfl rfl rfl) ?_
  first | refine o_gn rfl rfl rfl rfl ?_ | refine o_g _ rfl rfl rfl rfl (v_ld1 rfl Try.underlying22 rfl rfl rfl) ?_ | refine o_g _ rfl rfl rfl rfl (v_lf1 rfl Try.underlying22 rfl rfl rfl) ?_ | refine o_g _ rfl rfl rfl rfl (v_loadE1 rfl Try.underlying22 rfl rfl (by omega) rfl rfl) ?_
  first | refine o_gn rfl rfl rfl rfl ?_ | refine o_g _ rfl rfl rfl rfl (v_len rfl rfl Try.underlying22 rfl) ?_
  first | refine o_gn rfl rfl rfl rfl ?_ | refine o_g _ rfl rfl rfl rfl (v_true (OpQ.fn (within_v _ _ _) rfl rfl SubRC.sub) (by omega)) ?_ | refine o_g _ rfl rfl rfl rfl (v_false (OpQ.fn (within_v _ _ _) rfl rfl SubRC.sub) (by omega)) ?_ | refine o_gtest rfl rfl rfl rfl (OpQ.fn (within_v _ _ _) rfl rfl SubRC.sub) (fun h18 => ?_) (fun h18 => ?_)
  all_goals
   first | refine o_q _ rfl rfl rfl (v_pick_t rfl rfl rfl) ?_ | refine o_q _ rfl rfl rfl (v_pick_f rfl rfl rfl) ?_
   refine o_q _ rfl rfl rfl (v_move rfl rfl) ?_
   first | refine o_gn rfl rfl rfl rfl ?_ | refine o_g _ rfl rfl rfl rfl (v_fieldAddr rfl Try.underlying37 inf35 rfl rfl rfl rfl) ?_ | refine o_g _ rfl rfl rfl rfl (v_fieldAddrE rfl Try.underlying37 inf35 rfl rfl rfl rfl) ?_
   first | refine o_gn rfl rfl rfl rfl ?_ | refine o_g _ rfl rfl rfl rfl (v_ld1 rfl Try.underlying35 rfl rfl rfl) ?_ | refine o_g _ rfl rfl rfl rfl (v_lf1 rfl Try.underlying35 rfl rfl rfl) ?_ | refine o_g _ rfl rfl rfl rfl (v_loadE1 rfl Try.underlying35 rfl rfl (by omega) rfl rfl) ?_
   first | refine o_gn rfl rfl rfl rfl ?_ | refine o_g _ rfl rfl rfl rfl (v_len rfl rfl Try.underlying35 rfl) ?_
   first | refine o_gn rfl rfl rfl rfl ?_ | refine o_g _ rfl rfl rfl rfl (v_true (v_leq rfl rfl rfl) (by omega)) ?_ | refine o_g _ rfl rfl rfl rfl (v_false (v_leq rfl rfl rfl) (by omega)) ?_ | refine o_gtest rfl rfl rfl rfl (v_leq rfl rfl rfl) (fun h24 => ?_) (fun h24 => ?_)
   all_goals
    first | refine o_q _ rfl rfl rfl (v_pick_t rfl rfl rfl) ?_ | refine o_q _ rfl rfl rfl (v_pick_f rfl rfl rfl) ?_
    first | refine o_q _ rfl rfl rfl (OpQ.fn (ask_t _) rfl rfl SubRC.sub) ?_ | refine o_fnx (ask_f _) rfl rfl rfl SubRC.sub ?_
    repeat (first | with_reducible refine r_then_panic ?_ | with_reducible refine r_in_panic ?_ | with_reducible refine r_sc_panic ?_)
    try ((exfalso; first | omega | (obtain ⟨j, hj, hp⟩ := h56; exact hp (hg.2.2.2.2.1 j hj))))
    all_goals
     refine o_nil ?_
     repeat (first | with_reducible refine r_then ?_ | with_reducible refine r_in_normal ?_ | with_reducible refine r_sc_normal ?_)
     refine r_seq ?_
     refine r_seq ?_
     refine r_region ?_
     first | refine o_q _ rfl rfl rfl (v_fieldAddr rfl Try.underlying37 inf34 rfl rfl rfl rfl) ?_ | refine o_q _ rfl rfl rfl (v_fieldAddrE rfl Try.underlying37 inf34 rfl rfl rfl rfl) ?_
     first | refine o_q _ rfl rfl rfl (v_ld1 rfl Try.underlying34 rfl rfl rfl) ?_ | refine o_q _ rfl rfl rfl (v_lf1 rfl Try.underlying34 rfl rfl rfl) ?_ | refine o_q _ rfl rfl rfl (v_loadE1 rfl Try.underlying34 rfl rfl (by omega) rfl rfl) ?_
     refine o_q _ rfl rfl rfl (v_len rfl rfl Try.underlying34 rfl) ?_
     refine o_q _ rfl rfl rfl (v_move rfl rfl) ?_
     refine o_nil ?_
     repeat (first | with_reducible refine r_then ?_ | with_reducible refine r_in_normal ?_ | with_reducible refine r_sc_normal ?_)
     refine r_block ?_
     refine r_loop (ι := Nat) (fun k => k ≤ B.spits.length) (fun k => [(1, .func (.func ki) #[] caps.toArray), (2, pt b2 0), (28, .slice po B.spits.length pc), (29, i64 B.spits.length), (30, i64 k)]) (fun k => bx b2 37 (cellsS B po pc so sc lo lc) :: M) (fun k => (rowD po 3 encSp B.spits :: rowD so 2 encS B.days :: rowD lo 3 encLg B.logs :: Rc) ++ Rf) (fun k => B.spits.length - k) 0 ?_ ?_ ?_
     ·
      exact r_here (by repeat (first | exact FSub.nil | refine FSub.cons rfl ?_)) SelMC.sel SubRC.sub
     ·
      omega
     ·
      rintro k hI0
      have hsp := hg.2.2.2.1 k
      refine r_seq ?_
      refine r_region ?_
      refine o_q _ rfl rfl rfl (v_lss rfl rfl rfl) ?_
      refine o_nil ?_
      repeat (first | with_reducible refine r_then ?_ | with_reducible refine r_in_normal ?_ | with_reducible refine r_sc_normal ?_)
      refine r_seq ?_
      first | refine r_condd rfl (fun hc31 => ?_) (fun hc31 => ?_) | refine r_cond rfl (fun hc31 => ?_) (fun hc31 => ?_)
      ·
       first
       | (exfalso; revert hc31; decide)
       | (exfalso; omega)
       |
        skip
        refine r_skip ?_
        repeat (first | with_reducible refine r_then ?_ | with_reducible refine r_in_normal ?_ | with_reducible refine r_sc_normal ?_)
        refine r_seq ?_
        refine r_block ?_
        refine r_seq ?_
        refine r_region ?_
        first | refine o_q _ rfl rfl rfl (v_indexAddrSn rfl Try.underlying34 inf67 rfl rfl rfl (by omega) rfl) ?_ | refine o_q _ rfl rfl rfl (v_indexAddrS rfl Try.underlying34 inf67 rfl rfl rfl (by omega) (by omega) rfl) ?_
        first | refine o_q _ rfl rfl rfl (v_ldW rfl Try.underlying67 rfl inf67 rfl rfl) ?_ | refine o_q _ rfl rfl rfl (v_lfW rfl Try.underlying67 rfl inf67 rfl rfl) ?_ | refine o_q _ rfl rfl rfl (v_lfN rfl Try.underlying67 rfl inf67 rfl rfl rfl) ?_ | refine o_q _ rfl rfl rfl (v_ldN rfl Try.underlying67 rfl inf67 rfl rfl rfl) ?_ | refine o_q _ rfl rfl rfl (v_loadEN rfl Try.underlying67 rfl inf67 rfl (by omega) rfl rfl rfl) ?_
        refine o_alloc rfl inf67 rfl rfl rfl rfl rfl (fun b6 => ?_)
        refine o_st rfl inf67 rfl rfl rfl rfl rfl rfl rfl rfl ?_
        refine o_nil ?_
        repeat (first | with_reducible refine r_then ?_ | with_reducible refine r_in_normal ?_ | with_reducible refine r_sc_normal ?_)
        refine Imp.box_to b6 [i64 (B.spits.getD k default).sods, i64 (B.spits.getD k default).lo, i64 (B.spits.getD k default).hi] rfl ?_
        refine r_region ?_
        first | refine o_q _ rfl rfl rfl (v_fieldAddr rfl Try.underlying67 inf3 rfl rfl rfl rfl) ?_ | refine o_q _ rfl rfl rfl (v_fieldAddrE rfl Try.underlying67 inf3 rfl rfl rfl rfl) ?_
        first | refine o_q _ rfl rfl rfl (v_ld1 rfl Try.underlying3 rfl rfl rfl) ?_ | refine o_q _ rfl rfl rfl (v_lf1 rfl Try.underlying3 rfl rfl rfl) ?_ | refine o_q _ rfl rfl rfl (v_loadE1 rfl Try.underlying3 rfl rfl (by omega) rfl rfl) ?_
        first | refine o_q _ rfl rfl rfl (v_true (OpQ.fn (within_v _ _ _) rfl rfl SubRC.sub) (by omega)) ?_ | refine o_q _ rfl rfl rfl (v_false (OpQ.fn (within_v _ _ _) rfl rfl SubRC.sub) (by omega)) ?_ | refine o_test rfl rfl rfl (OpQ.fn (within_v _ _ _) rfl rfl SubRC.sub) (fun h36 => ?_) (fun h36 => ?_)
        all_goals
         refine o_q _ rfl rfl rfl (v_move rfl rfl) ?_
         first | refine o_gn rfl rfl rfl rfl ?_ | refine o_g _ rfl rfl rfl rfl (v_fieldAddr rfl Try.underlying67 inf42 rfl rfl rfl rfl) ?_ | refine o_g _ rfl rfl rfl rfl (v_fieldAddrE rfl Try.underlying67 inf42 rfl rfl rfl rfl) ?_
         first | refine o_gn rfl rfl rfl rfl ?_ | refine o_g _ rfl rfl rfl rfl (v_ldW rfl Try.underlying42 rfl inf42 rfl rfl) ?_ | refine o_g _ rfl rfl rfl rfl (v_lfW rfl Try.underlying42 rfl inf42 rfl rfl) ?_ | refine o_g _ rfl rfl rfl rfl (v_lfN rfl Try.underlying42 rfl inf42 rfl rfl rfl) ?_ | refine o_g _ rfl rfl rfl rfl (v_ldN rfl Try.underlying42 rfl inf42 rfl rfl rfl) ?_ | refine o_g _ rfl rfl rfl rfl (v_loadEN rfl Try.underlying42 rfl inf42 rfl (by omega) rfl rfl rfl) ?_
         first | refine o_gn rfl rfl rfl rfl ?_ | refine o_g _ rfl rfl rfl rfl (v_true (OpQ.fn (isSpan_v _ _ _ _) rfl rfl SubRC.sub) (by omega)) ?_ | refine o_g _ rfl rfl rfl rfl (v_false (OpQ.fn (isSpan_v _ _ _ _) rfl rfl SubRC.sub) (by omega)) ?_ | refine o_gtest rfl rfl rfl rfl (OpQ.fn (isSpan_v _ _ _ _) rfl rfl SubRC.sub) (fun h40 => ?_) (fun h40 => ?_)
         all_goals
          first | refine o_q _ rfl rfl rfl (v_pick_t rfl rfl rfl) ?_ | refine o_q _ rfl rfl rfl (v_pick_f rfl rfl rfl) ?_
          refine o_q _ rfl rfl rfl (v_move rfl rfl) ?_
          first | refine o_gn rfl rfl rfl rfl ?_ | refine o_g _ rfl rfl rfl rfl (v_fieldAddr rfl Try.underlying67 inf42 rfl rfl rfl rfl) ?_ | refine o_g _ rfl rfl rfl rfl (v_fieldAddrE rfl Try.underlying67 inf42 rfl rfl rfl rfl) ?_
          first | refine o_gn rfl rfl rfl rfl ?_ | refine o_g _ rfl rfl rfl rfl (v_fieldAddr rfl Try.underlying42 inf3 rfl rfl rfl rfl) ?_ | refine o_g _ rfl rfl rfl rfl (v_fieldAddrE rfl Try.underlying42 inf3 rfl rfl rfl rfl) ?_
          first | refine o_gn rfl rfl rfl rfl ?_ | refine o_g _ rfl rfl rfl rfl (v_ld1 rfl Try.underlying3 rfl rfl rfl) ?_ | refine o_g _ rfl rfl rfl rfl (v_lf1 rfl Try.underlying3 rfl rfl rfl) ?_ | refine o_g _ rfl rfl rfl rfl (v_loadE1 rfl Try.underlying3 rfl rfl (by omega) rfl rfl) ?_
          first | refine o_gn rfl rfl rfl rfl ?_ | refine o_g _ rfl rfl rfl rfl (v_fieldAddr rfl Try.underlying67 inf42 rfl rfl rfl rfl) ?_ | refine o_g _ rfl rfl rfl rfl (v_fieldAddrE rfl Try.underlying67 inf42 rfl rfl rfl rfl) ?_
          first | refine o_gn rfl rfl rfl rfl ?_ | refine o_g _ rfl rfl rfl rfl (v_fieldAddr rfl Try.underlying42 inf3 rfl rfl rfl rfl) ?_ | refine o_g _ rfl rfl rfl rfl (v_fieldAddrE rfl Try.underlying42 inf3 rfl rfl rfl rfl) ?_
          first | refine o_gn rfl rfl rfl rfl ?_ | refine o_g _ rfl rfl rfl rfl (v_ld1 rfl Try.underlying3 rfl rfl rfl) ?_ | refine o_g _ rfl rfl rfl rfl (v_lf1 rfl Try.underlying3 rfl rfl rfl) ?_ | refine o_g _ rfl rfl rfl rfl (v_loadE1 rfl Try.underlying3 rfl rfl (by omega) rfl rfl) ?_
          first | refine o_gn rfl rfl rfl rfl ?_ | refine o_g _ rfl rfl rfl rfl (v_sub rfl rfl rfl (by omega)) ?_
          first | refine o_gn rfl rfl rfl rfl ?_ | refine o_g _ rfl rfl rfl rfl (v_true (v_leq rfl rfl rfl) (by omega)) ?_ | refine o_g _ rfl rfl rfl rfl (v_false (v_leq rfl rfl rfl) (by omega)) ?_ | refine o_gtest rfl rfl rfl rfl (v_leq rfl rfl rfl) (fun h50 => ?_) (fun h50 => ?_)
          all_goals
           first | refine o_q _ rfl rfl rfl (v_pick_t rfl rfl rfl) ?_ | refine o_q _ rfl rfl rfl (v_pick_f rfl rfl rfl) ?_
           first | refine o_q _ rfl rfl rfl (OpQ.fn (ask_t _) rfl rfl SubRC.sub) ?_ | refine o_fnx (ask_f _) rfl rfl rfl SubRC.sub ?_
           repeat (first | with_reducible refine r_then_panic ?_ | with_reducible refine r_in_panic ?_ | with_reducible refine r_sc_panic ?_)
           try ((exfalso; first | omega | (obtain ⟨j, hj, hp⟩ := h56; exact hp (hg.2.2.2.2.1 j hj))))
           all_goals
            refine o_nil ?_
            repeat (first | with_reducible refine r_then ?_ | with_reducible refine r_in_normal ?_ | with_reducible refine r_sc_normal ?_)
            refine r_region ?_
            refine o_q _ rfl rfl rfl (v_add rfl rfl rfl (by omega)) ?_
            refine o_q _ rfl rfl rfl (v_move rfl rfl) ?_
            refine o_nil ?_
            repeat (first | with_reducible refine r_then ?_ | with_reducible refine r_in_normal ?_ | with_reducible refine r_sc_normal ?_)
            refine r_next (k + 1) ?_ ?_ ?_
            ·
             exact r_here (by repeat (first | exact FSub.nil | refine FSub.cons rfl ?_)) SelMC.sel SubRC.sub
            ·
             omega
            ·
             omega
      ·
       first
       | (exfalso; revert hc31; decide)
       | (exfalso; omega)
       |
        skip
        refine r_exit ?_
        repeat (first | with_reducible refine r_then_exit ?_ | with_reducible refine r_sc_exit ?_ | with_reducible refine r_in_here ?_ | (with_reducible refine r_in_past (by decide) ?_) | with_reducible refine r_then ?_ | with_reducible refine r_in_normal ?_ | with_reducible refine r_sc_normal ?_)
        refine r_seq ?_
        refine r_region ?_
        first | refine o_q _ rfl rfl rfl (v_fieldAddr rfl Try.underlying37 inf22 rfl rfl rfl rfl) ?_ | refine o_q _ rfl rfl rfl (v_fieldAddrE rfl Try.underlying37 inf22 rfl rfl rfl rfl) ?_
        first | refine o_q _ rfl rfl rfl (v_ld1 rfl Try.underlying22 rfl rfl rfl) ?_ | refine o_q _ rfl rfl rfl (v_lf1 rfl Try.underlying22 rfl rfl rfl) ?_ | refine o_q _ rfl rfl rfl (v_loadE1 rfl Try.underlying22 rfl rfl (by omega) rfl rfl) ?_
        first | refine o_q _ rfl rfl rfl (v_true (OpQ.fn (FootW.spans_c (fun s : Span => ¬ (0 ≤ s.lo ∧ s.lo ≤ s.hi ∧ s.hi ≤ 100)) B.days so sc 50 [] [] (by omega) (fun j hj => open1_v _ _)) rfl rfl SubRC.sub) (by omega)) ?_ | refine o_q _ rfl rfl rfl (v_false (OpQ.fn (FootW.spans_c (fun s : Span => ¬ (0 ≤ s.lo ∧ s.lo ≤ s.hi ∧ s.hi ≤ 100)) B.days so sc 50 [] [] (by omega) (fun j hj => open1_v _ _)) rfl rfl SubRC.sub) (by omega)) ?_ | refine o_test rfl rfl rfl (OpQ.fn (FootW.spans_c (fun s : Span => ¬ (0 ≤ s.lo ∧ s.lo ≤ s.hi ∧ s.hi ≤ 100)) B.days so sc 50 [] [] (by omega) (fun j hj => open1_v _ _)) rfl rfl SubRC.sub) (fun h56 => ?_) (fun h56 => ?_)
        all_goals
         refine o_q _ rfl rfl rfl (v_not rfl rfl) ?_
         first | refine o_q _ rfl rfl rfl (OpQ.fn (ask_t _) rfl rfl SubRC.sub) ?_ | refine o_fnx (ask_f _) rfl rfl rfl SubRC.sub ?_
         repeat (first | with_reducible refine r_then_panic ?_ | with_reducible refine r_in_panic ?_ | with_reducible refine r_sc_panic ?_)
         try ((exfalso; first | omega | (obtain ⟨j, hj, hp⟩ := h56; exact hp (hg.2.2.2.2.1 j hj))))
         all_goals
          refine o_nil ?_
          repeat (first | with_reducible refine r_then ?_ | with_reducible refine r_in_normal ?_ | with_reducible refine r_sc_normal ?_)
          refine r_seq ?_
          refine r_region ?_
          first | refine o_q _ rfl rfl rfl (v_ldW rfl Try.underlying37 rfl inf37 rfl rfl) ?_ | refine o_q _ rfl rfl rfl (v_lfW rfl Try.underlying37 rfl inf37 rfl rfl) ?_ | refine o_q _ rfl rfl rfl (v_lfN rfl Try.underlying37 rfl inf37 rfl rfl rfl) ?_ | refine o_q _ rfl rfl rfl (v_ldN rfl Try.underlying37 rfl inf37 rfl rfl rfl) ?_ | refine o_q _ rfl rfl rfl (v_loadEN rfl Try.underlying37 rfl inf37 rfl (by omega) rfl rfl rfl) ?_
          refine o_makeMap (P := Try.prog) (k := 113) (okS B) rfl rfl rfl rfl (fun b60 => ?_)
          refine o_q _ rfl rfl rfl (v_bS rfl Try.underlying110 inf110 plt110 rfl rfl rfl (by repeat (first | exact trivial | refine ⟨rfl, ?_⟩)) (by rfl)) ?_
          refine o_boxA rfl rfl rfl rfl rfl (fun b62 => ?_)
          refine o_q _ rfl rfl rfl (v_assign rfl rfl) ?_
          refine o_nil ?_
          repeat (first | with_reducible refine r_then ?_ | with_reducible refine r_in_normal ?_ | with_reducible refine r_sc_normal ?_)
          refine r_seq ?_
          refine r_seq ?_
          refine Imp.box_to b62 [.slice po B.spits.length pc, .slice so B.days.length sc, .slice lo B.logs.length lc, .map (some b60)] rfl ?_
          refine Imp.sealB b62 ?_
          refine r_region ?_
          first | refine o_q _ rfl rfl rfl (v_fieldAddr rfl Try.underlying37 inf35 rfl rfl rfl rfl) ?_ | refine o_q _ rfl rfl rfl (v_fieldAddrE rfl Try.underlying37 inf35 rfl rfl rfl rfl) ?_
          first | refine o_q _ rfl rfl rfl (v_ld1 rfl Try.underlying35 rfl rfl rfl) ?_ | refine o_q _ rfl rfl rfl (v_lf1 rfl Try.underlying35 rfl rfl rfl) ?_ | refine o_q _ rfl rfl rfl (v_loadE1 rfl Try.underlying35 rfl rfl (by omega) rfl rfl) ?_
          refine o_q _ rfl rfl rfl (v_len rfl rfl Try.underlying35 rfl) ?_
          refine o_q _ rfl rfl rfl (v_move rfl rfl) ?_
          refine o_nil ?_
          repeat (first | with_reducible refine r_then ?_ | with_reducible refine r_in_normal ?_ | with_reducible refine r_sc_normal ?_)
          refine r_block ?_
          refine r_loop (ι := Nat) (fun k => k ≤ B.logs.length) (fun k => [(1, .func (.func ki) #[] caps.toArray), (7, pt b62 0), (64, .slice lo B.logs.length lc), (65, i64 B.logs.length), (66, i64 k)]) (fun k => memo Try.prog 113 (okS B) b60 :: M) (fun k => boxF b62 110 [.slice po B.spits.length pc, .slice so B.days.length sc, .slice lo B.logs.length lc, .map (some b60)] :: (rowD po 3 encSp B.spits :: rowD so 2 encS B.days :: rowD lo 3 encLg B.logs :: Rc) ++ Rf) (fun k => B.logs.length - k) 0 ?_ ?_ ?_
          ·
           exact r_here (by repeat (first | exact FSub.nil | refine FSub.cons rfl ?_)) SelMC.sel SubRC.sub
          ·
           omega
          ·
           rintro k hI1
           have hlk := hg.2.2.2.2.2 k
           refine r_seq ?_
           refine r_region ?_
           refine o_q _ rfl rfl rfl (v_lss rfl rfl rfl) ?_
           refine o_nil ?_
           repeat (first | with_reducible refine r_then ?_ | with_reducible refine r_in_normal ?_ | with_reducible refine r_sc_normal ?_)
           refine r_seq ?_
           first | refine r_condd rfl (fun hc67 => ?_) (fun hc67 => ?_) | refine r_cond rfl (fun hc67 => ?_) (fun hc67 => ?_)
           ·
            first
            | (exfalso; revert hc67; decide)
            | (exfalso; omega)
            |
             skip
             refine r_skip ?_
             repeat (first | with_reducible refine r_then ?_ | with_reducible refine r_in_normal ?_ | with_reducible refine r_sc_normal ?_)
             refine r_seq ?_
             refine r_block ?_
             refine r_seq ?_
             refine r_region ?_
             first | refine o_q _ rfl rfl rfl (v_indexAddrSn rfl Try.underlying35 inf70 rfl rfl rfl (by omega) rfl) ?_ | refine o_q _ rfl rfl rfl (v_indexAddrS rfl Try.underlying35 inf70 rfl rfl rfl (by omega) (by omega) rfl) ?_
             first | refine o_q _ rfl rfl rfl (v_ldW rfl Try.underlying70 rfl inf70 rfl rfl) ?_ | refine o_q _ rfl rfl rfl (v_lfW rfl Try.underlying70 rfl inf70 rfl rfl) ?_ | refine o_q _ rfl rfl rfl (v_lfN rfl Try.underlying70 rfl inf70 rfl rfl rfl) ?_ | refine o_q _ rfl rfl rfl (v_ldN rfl Try.underlying70 rfl inf70 rfl rfl rfl) ?_ | refine o_q _ rfl rfl rfl (v_loadEN rfl Try.underlying70 rfl inf70 rfl (by omega) rfl rfl rfl) ?_
             refine o_alloc rfl inf70 rfl rfl rfl rfl rfl (fun b9 => ?_)
             refine o_st rfl inf70 rfl rfl rfl rfl rfl rfl rfl rfl ?_
             refine o_nil ?_
             repeat (first | with_reducible refine r_then ?_ | with_reducible refine r_in_normal ?_ | with_reducible refine r_sc_normal ?_)
             refine Imp.box_to b9 [i64 (B.logs.getD k default).day, i64 (B.logs.getD k default).lo, i64 (B.logs.getD k default).hi] rfl ?_
             refine r_region ?_
             refine o_q _ rfl rfl rfl (v_move rfl rfl) ?_
             first | refine o_q _ rfl rfl rfl (v_fieldAddr rfl Try.underlying70 inf3 rfl rfl rfl rfl) ?_ | refine o_q _ rfl rfl rfl (v_fieldAddrE rfl Try.underlying70 inf3 rfl rfl rfl rfl) ?_
             first | refine o_q _ rfl rfl rfl (v_ld1 rfl Try.underlying3 rfl rfl rfl) ?_ | refine o_q _ rfl rfl rfl (v_lf1 rfl Try.underlying3 rfl rfl rfl) ?_ | refine o_q _ rfl rfl rfl (v_loadE1 rfl Try.underlying3 rfl rfl (by omega) rfl rfl) ?_
             first | refine o_q _ rfl rfl rfl (v_true (OpQ.fn (isDay_v B po so lo pc sc lc b62 b60 _ (by omega)) rfl rfl SubRC.sub) (by omega)) ?_ | refine o_q _ rfl rfl rfl (v_false (OpQ.fn (isDay_v B po so lo pc sc lc b62 b60 _ (by omega)) rfl rfl SubRC.sub) (by omega)) ?_ | refine o_test rfl rfl rfl (OpQ.fn (isDay_v B po so lo pc sc lc b62 b60 _ (by omega)) rfl rfl SubRC.sub) (fun h73 => ?_) (fun h73 => ?_)
             all_goals
              refine o_q _ rfl rfl rfl (v_move rfl rfl) ?_
              first | refine o_gn rfl rfl rfl rfl ?_ | refine o_g _ rfl rfl rfl rfl (v_fieldAddr rfl Try.underlying70 inf42 rfl rfl rfl rfl) ?_ | refine o_g _ rfl rfl rfl rfl (v_fieldAddrE rfl Try.underlying70 inf42 rfl rfl rfl rfl) ?_
              first | refine o_gn rfl rfl rfl rfl ?_ | refine o_g _ rfl rfl rfl rfl (v_ldW rfl Try.underlying42 rfl inf42 rfl rfl) ?_ | refine o_g _ rfl rfl rfl rfl (v_lfW rfl Try.underlying42 rfl inf42 rfl rfl) ?_ | refine o_g _ rfl rfl rfl rfl (v_lfN rfl Try.underlying42 rfl inf42 rfl rfl rfl) ?_ | refine o_g _ rfl rfl rfl rfl (v_ldN rfl Try.underlying42 rfl inf42 rfl rfl rfl) ?_ | refine o_g _ rfl rfl rfl rfl (v_loadEN rfl Try.underlying42 rfl inf42 rfl (by omega) rfl rfl rfl) ?_
              first | refine o_gn rfl rfl rfl rfl ?_ | refine o_g _ rfl rfl rfl rfl (v_true (OpQ.fn (isCount_v _ _) rfl rfl SubRC.sub) (by omega)) ?_ | refine o_g _ rfl rfl rfl rfl (v_false (OpQ.fn (isCount_v _ _) rfl rfl SubRC.sub) (by omega)) ?_ | refine o_gtest rfl rfl rfl rfl (OpQ.fn (isCount_v _ _) rfl rfl SubRC.sub) (fun h77 => ?_) (fun h77 => ?_)
              all_goals
               first | refine o_q _ rfl rfl rfl (v_pick_t rfl rfl rfl) ?_ | refine o_q _ rfl rfl rfl (v_pick_f rfl rfl rfl) ?_
               first | refine o_q _ rfl rfl rfl (OpQ.fn (ask_t _) rfl rfl SubRC.sub) ?_ | refine o_fnx (ask_f _) rfl rfl rfl SubRC.sub ?_
               repeat (first | with_reducible refine r_then_panic ?_ | with_reducible refine r_in_panic ?_ | with_reducible refine r_sc_panic ?_)
               try ((exfalso; first | omega | (obtain ⟨j, hj, hp⟩ := h56; exact hp (hg.2.2.2.2.1 j hj))))
               all_goals
                refine o_nil ?_
                repeat (first | with_reducible refine r_then ?_ | with_reducible refine r_in_normal ?_ | with_reducible refine r_sc_normal ?_)
                refine r_region ?_
                refine o_q _ rfl rfl rfl (v_add rfl rfl rfl (by omega)) ?_
                refine o_q _ rfl rfl rfl (v_move rfl rfl) ?_
                refine o_nil ?_
                repeat (first | with_reducible refine r_then ?_ | with_reducible refine r_in_normal ?_ | with_reducible refine r_sc_normal ?_)
                refine r_next (k + 1) ?_ ?_ ?_
                ·
                 exact r_here (by repeat (first | exact FSub.nil | refine FSub.cons rfl ?_)) SelMC.sel SubRC.sub
                ·
                 omega
                ·
                 omega
           ·
            first
            | (exfalso; revert hc67; decide)
            | (exfalso; omega)
            |
             skip
             refine r_exit ?_
             repeat (first | with_reducible refine r_then_exit ?_ | with_reducible refine r_sc_exit ?_ | with_reducible refine r_in_here ?_ | (with_reducible refine r_in_past (by decide) ?_) | with_reducible refine r_then ?_ | with_reducible refine r_in_normal ?_ | with_reducible refine r_sc_normal ?_)
             refine r_seq ?_
             refine r_region ?_
             refine o_q _ rfl rfl rfl (v_move rfl rfl) ?_
             refine o_q _ rfl rfl rfl (v_move rfl rfl) ?_
             refine o_q _ rfl rfl rfl (OpQ.call (hI b62 b60) rfl [] caps rfl rfl rfl SubRC.sub) ?_
             first | refine o_q _ rfl rfl rfl (OpQ.fn (ask_t _) rfl rfl SubRC.sub) ?_ | refine o_fnx (ask_f _) rfl rfl rfl SubRC.sub ?_
             repeat (first | with_reducible refine r_then_panic ?_ | with_reducible refine r_in_panic ?_ | with_reducible refine r_sc_panic ?_)
             try ((exfalso; first | omega | (obtain ⟨j, hj, hp⟩ := h56; exact hp (hg.2.2.2.2.1 j hj))))
             all_goals
              refine o_nil ?_
              repeat (first | with_reducible refine r_then ?_ | with_reducible refine r_in_normal ?_ | with_reducible refine r_sc_normal ?_)
              refine r_seq ?_
              refine r_region ?_
              refine o_q _ rfl rfl rfl (v_move rfl rfl) ?_
              refine o_q _ rfl rfl rfl (v_assign rfl rfl) ?_
              refine o_nil ?_
              repeat (first | with_reducible refine r_then ?_ | with_reducible refine r_in_normal ?_ | with_reducible refine r_sc_normal ?_)
              refine r_ret ?_
              repeat (first | with_reducible refine r_then_ret ?_ | with_reducible refine r_in_ret ?_ | with_reducible refine r_sc_ret ?_)
              exact r_rete [memo Try.prog 113 (okS B) b60] [boxF b62 110 [.slice po B.spits.length pc, .slice so B.days.length sc, .slice lo B.logs.length lc, .map (some b60)]] (Rd.tmp rfl rfl) ⟨(b62, b60), rfl, trivial, rfl, rfl⟩ SelMC.sel SubRC.sub
set_option maxHeartbeats 4000000 in
theorem Cut_v (d : Nat) (hg : GoodS B) (hcs : canS B) (hd : d < B.days.length) : FnV Try.prog 9 [valS B po pc so sc lo lc, i64 (d : Int)] [rowD po 3 encSp B.spits, rowD so 2 encS B.days, rowD lo 3 encLg B.logs] (.tuple #[vS (cutP B d), i64 0]) := by
 refine FnV.introD Try.call9 Try.func9 rfl Try.ntmps9 rfl ?_
 intro W M Rf
 refine r_seq ?_
 refine r_region ?_
 refine o_boxA rfl rfl rfl rfl rfl (fun b2 => ?_)
 refine o_box1 rfl rfl rfl rfl rfl rfl (fun b3 => ?_)
 refine o_alloc rfl inf42 rfl rfl rfl rfl rfl (fun b4 => ?_)
 refine o_alloc rfl inf43 rfl rfl rfl rfl rfl (fun b5 => ?_)
 refine o_nil ?_
 repeat (first | with_reducible refine r_then ?_ | with_reducible refine r_in_normal ?_ | with_reducible refine r_sc_normal ?_)
 refine r_seq ?_
 refine r_region ?_
 refine o_defer rfl rfl rfl rfl ?_
 refine o_nil ?_
 repeat (first | with_reducible refine r_then ?_ | with_reducible refine r_in_normal ?_ | with_reducible refine r_sc_normal ?_)
 refine r_seq ?_
 refine Imp.sealB b3 ?_
 refine r_parPZ [0, 1, 4, 2, 3, 5, 6, 7, 8] (by kernel_rfl) rfl (fun w => w.heap[b3]? = some (.cells ([i64 (d : Int)] : List Value).toArray 3 (0, 0))) (fun X F w h => h.fact (φ := boxF b3 3 [i64 (d : Int)]) (List.mem_append_right _ InR.mem)) [2] 3 (by kernel_rfl) (by kernel_rfl) (by kernel_rfl) (by kernel_rfl) (by kernel_rfl) mixed (by kernel_rfl) (by rfl) ?_
 first | refine p_q _ rfl rfl rfl (fun _ _ => v_ldW rfl Try.underlying37 rfl inf37 rfl rfl) ?_ | refine p_q _ rfl rfl rfl (fun _ _ => v_lfW rfl Try.underlying37 rfl inf37 rfl rfl) ?_ | refine p_q _ rfl rfl rfl (fun _ _ => v_lfN rfl Try.underlying37 rfl inf37 rfl rfl rfl) ?_ | refine p_q _ rfl rfl rfl (fun _ _ => v_ldN rfl Try.underlying37 rfl inf37 rfl rfl rfl) ?_ | refine p_q _ rfl rfl rfl (fun _ _ => v_loadEN rfl Try.underlying37 rfl inf37 rfl (by omega) rfl rfl rfl) ?_
 refine p_q _ rfl rfl rfl (fun _ _ => v_makeFunc rfl rfl rfl) ?_
 first | refine p_q _ rfl rfl rfl (fun _ _ => v_ld1 rfl Try.underlying3 rfl rfl rfl) ?_ | refine p_q _ rfl rfl rfl (fun _ _ => v_lf1 rfl Try.underlying3 rfl rfl rfl) ?_ | refine p_q _ rfl rfl rfl (fun _ _ => v_loadE1 rfl Try.underlying3 rfl rfl (by omega) rfl rfl) ?_
 refine p_nilF (by simp only [List.nil_append, List.cons_append]; rfl) rfl ⟨⟨_, _, _, rfl, rfl, rfl, rfl, rfl, float_cell (vs := [i64 (d : Int)]) (B := 3) rfl Try.underlying3 rfl rfl rfl (fun _ h => h)⟩, trivial⟩ ?_
 refine f_q rfl ?_
 refine f_q rfl ?_
 refine f_q rfl ?_
 refine f_nil ?_
 refine oz_lift (fun w h => h.fact (φ := boxF b3 3 [i64 (d : Int)]) InR.mem) ?_
 refine o_fnN (open_ok B po so lo pc sc lc 29 [pt b3 0] [boxF b3 3 [i64 (d : Int)]] (fun fb mb => is1_v B po so lo pc sc lc fb mb d b3 hd (by have := hg.2.1; omega)) hg) rfl rfl rfl rfl rfl SubRC.sub (fun x8 _ => ?_)
 refine o_nil ?_
 refine r_then ?_
 refine oz_lift (fun w h => h.fact (φ := boxF b3 3 [i64 (d : Int)]) InR.mem) ?_
 refine o_q _ rfl rfl rfl (OpQ.fnm (told_m B po so lo pc sc lc x8.1 x8.2 hg hcs) rfl [] [] rfl rfl rfl SubRC.sub) ?_
 refine o_nil ?_
 refine r_then ?_
 refine oz_lift (fun w h => h.fact (φ := boxF b3 3 [i64 (d : Int)]) InR.mem) ?_
 refine o_fnX (sods_s B po so lo pc sc lc x8.1 x8.2 d hg hd) rfl rfl rfl rfl rfl SubRC.sub (fun x11 _ => ?_)
 refine o_nil ?_
 refine r_then ?_
 refine oz_lift (fun w h => h.fact (φ := boxF b3 3 [i64 (d : Int)]) InR.mem) ?_
 refine o_q _ rfl rfl rfl (OpQ.fn (hull_v ((goodC B).map (cutSp B d)) x11.1 x11.2 (goodC_pos hcs) (by have := cutTo_len (B := B) hg d (allC B).length; rw [cutTo_all] at this; omega)) rfl rfl SubRC.sub) ?_
 refine o_nil ?_
 refine r_then ?_
 refine oz_lift (fun w h => h.fact (φ := boxF b3 3 [i64 (d : Int)]) InR.mem) ?_
 refine o_st rfl inf42 rfl rfl rfl rfl rfl rfl rfl rfl ?_
 refine o_nil ?_
 refine r_then ?_
 refine oz_lift (fun w h => h.fact (φ := boxF b3 3 [i64 (d : Int)]) InR.mem) ?_
 refine o_st rfl inf43 rfl rfl rfl rfl rfl rfl rfl rfl ?_
 refine o_nil ?_
 refine r_then ?_
 refine oz_nil (fun w h => h.fact (φ := boxF b3 3 [i64 (d : Int)]) InR.mem) ?_
 refine r_nop ?_
 repeat (first | with_reducible refine r_then ?_ | with_reducible refine r_in_normal ?_ | with_reducible refine r_sc_normal ?_)
 refine r_ret ?_
 repeat (first | with_reducible refine r_then_ret ?_ | with_reducible refine r_in_ret ?_ | with_reducible refine r_sc_ret ?_)
 exact d_retv answer_ans (Rd.two rfl (RdI.cellW Try.underlying42 rfl inf42 rfl rfl) (RdI.cell1 Try.underlying43 rfl rfl rfl)) rfl SelMC.sel SubRC.sub
end Go.Proofs.Ytpndeonmmcaikaa.SodW


namespace Go.Proofs.Ytpndeonmmcaikaa.FootW
open Go.G Foot4
set_option maxRecDepth 1000000
attribute [local irreducible] G.ParO G.Fin
set_option maxHeartbeats 4000000 in
theorem isHeap_v (F : Work) (ro ho : Option Addr) (rc hc : Nat) (x : Int) (hr : F.rain.length ≤ 40) (hh : F.heaps.length ≤ 40) : FnV Try.prog 43 [valF F ro rc ho hc, i64 x] [rowD ro 2 encS F.rain, rowD ho 3 encH F.heaps] (.bool (decide (0 ≤ x ∧ x ≤ (F.heaps.length : Int) - 1))) := by
 refine FnV.intro Try.call43 Try.func43 rfl Try.ntmps43 rfl ?_
 intro W M Rf
 refine r_seq ?_
 refine r_region ?_
 refine o_boxA rfl rfl rfl rfl rfl (fun b2 => ?_)
 refine o_q _ rfl rfl rfl (v_assign rfl rfl) ?_
 refine o_nil ?_
 with_reducible refine r_then ?_
 refine r_seq ?_
 refine r_region ?_
 refine o_q _ rfl rfl rfl (v_move rfl rfl) ?_
 refine o_q _ rfl rfl rfl (v_fieldAddr rfl Try.underlying26 inf24 rfl rfl rfl rfl) ?_
 refine o_q _ rfl rfl rfl (v_ld1 rfl Try.underlying24 rfl rfl rfl) ?_
 refine o_q _ rfl rfl rfl (v_len rfl rfl Try.underlying24 rfl) ?_
 refine o_q _ rfl rfl rfl (v_sub rfl rfl rfl (by omega)) ?_
 refine o_q _ rfl rfl rfl (OpQ.fn (within_v _ _ _) rfl rfl SubRC.sub) ?_
 refine o_q _ rfl rfl rfl (v_assign rfl rfl) ?_
 refine o_nil ?_
 with_reducible refine r_then ?_
 refine r_ret ?_
 exact r_retv2 (Rd.tmp rfl rfl) rfl SelMC.sel SubRC.sub
set_option maxHeartbeats 4000000 in
theorem ordered_v (a b c : Int) (k : Nat) (hk : k < 3) : FnV Try.prog 41 [.agg #[i64 a, i64 b, i64 c], i64 k] [] (.bool (decide (Ordered ⟨a, b, c⟩ k))) := by
 have e1 : (((k : Int) - 1).toNat) = k - 1 := by omega
 refine FnV.intro Try.call41 Try.func41 rfl Try.ntmps41 rfl ?_
 intro W M Rf
 refine r_seq ?_
 refine r_region ?_
 refine o_boxA rfl rfl rfl rfl rfl (fun b2 => ?_)
 refine o_q _ rfl rfl rfl (v_assign rfl rfl) ?_
 refine o_nil ?_
 with_reducible refine r_then ?_
 refine r_seq ?_
 refine r_region_q mixed (by kernel_rfl) ?_
 refine q_q _ rfl rfl rfl (v_move rfl rfl) ?_
 refine q_q _ rfl rfl rfl (v_indexAddrAn rfl Try.underlying55 inf3 rfl rfl (by omega)) ?_
 refine q_q _ rfl rfl rfl (v_ld1 rfl Try.underlying3 rfl rfl (t3_atn (by omega))) ?_
 refine q_test rfl rfl rfl (v_lss rfl rfl rfl) (fun h8 => ?_) (fun h8 => ?_)
 all_goals
  refine q_q _ rfl rfl rfl (v_move rfl rfl) ?_
  first | refine q_gn rfl rfl rfl rfl ?_ | refine q_g _ rfl rfl rfl rfl (v_move rfl rfl) ?_
  first | refine q_gn rfl rfl rfl rfl ?_ | refine q_gtest rfl rfl rfl rfl (v_eql rfl rfl rfl) (fun h11 => ?_) (fun h11 => ?_)
  all_goals
   first | refine q_q _ rfl rfl rfl (v_pick_t rfl rfl rfl) ?_ | refine q_q _ rfl rfl rfl (v_pick_f rfl rfl rfl) ?_
   refine q_q _ rfl rfl rfl (v_move rfl rfl) ?_
   first | refine q_gn rfl rfl rfl rfl ?_ | refine q_g _ rfl rfl rfl rfl (v_move rfl rfl) ?_
   first | refine q_gn rfl rfl rfl rfl ?_ | refine q_g _ rfl rfl rfl rfl (v_sub rfl rfl rfl (by omega)) ?_
   first | refine q_gn rfl rfl rfl rfl ?_ | refine q_g _ rfl rfl rfl rfl (v_indexAddrA rfl Try.underlying55 inf3 rfl rfl (by omega)) ?_
   first | refine q_gn rfl rfl rfl rfl ?_ | refine q_g _ rfl rfl rfl rfl (v_ld1 rfl Try.underlying3 rfl rfl (t3_at (by omega) (by omega))) ?_
   first | refine q_gn rfl rfl rfl rfl ?_ | refine q_gtest rfl rfl rfl rfl (v_geq rfl rfl rfl) (fun h18 => ?_) (fun h18 => ?_)
   all_goals
    first | refine q_gn rfl rfl rfl rfl ?_ | refine q_g _ rfl rfl rfl rfl (v_move rfl rfl) ?_
    first | refine q_gn rfl rfl rfl rfl ?_ | refine q_g _ rfl rfl rfl rfl (v_move rfl rfl) ?_
    first | refine q_gn rfl rfl rfl rfl ?_ | refine q_g _ rfl rfl rfl rfl (v_sub rfl rfl rfl (by omega)) ?_
    first | refine q_gn rfl rfl rfl rfl ?_ | refine q_g _ rfl rfl rfl rfl (v_indexAddrA rfl Try.underlying55 inf3 rfl rfl (by omega)) ?_
    first | refine q_gn rfl rfl rfl rfl ?_ | refine q_g _ rfl rfl rfl rfl (v_ld1 rfl Try.underlying3 rfl rfl (t3_at (by omega) (by omega))) ?_
    first | refine q_gn rfl rfl rfl rfl ?_ | refine q_g _ rfl rfl rfl rfl (v_move rfl rfl) ?_
    first | refine q_gn rfl rfl rfl rfl ?_ | refine q_g _ rfl rfl rfl rfl (v_indexAddrAn rfl Try.underlying55 inf3 rfl rfl (by omega)) ?_
    first | refine q_gn rfl rfl rfl rfl ?_ | refine q_g _ rfl rfl rfl rfl (v_ld1 rfl Try.underlying3 rfl rfl (t3_atn (by omega))) ?_
    first | refine q_gn rfl rfl rfl rfl ?_ | refine q_gtest rfl rfl rfl rfl (v_lss rfl rfl rfl) (fun h27 => ?_) (fun h27 => ?_)
    all_goals
     first | refine q_gn rfl rfl rfl rfl ?_ | refine q_g _ rfl rfl rfl rfl (v_pick_t rfl rfl rfl) ?_ | refine q_g _ rfl rfl rfl rfl (v_pick_f rfl rfl rfl) ?_
     first | refine q_q _ rfl rfl rfl (v_pick_t rfl rfl rfl) ?_ | refine q_q _ rfl rfl rfl (v_pick_f rfl rfl rfl) ?_
     refine q_q _ rfl rfl rfl (v_assign rfl rfl) ?_
     refine q_nil ?_
     with_reducible refine r_then ?_
     refine r_ret ?_
     first | exact r_retv2 (Rd.tmp rfl rfl) (congrArg Value.bool (decide_eq_true (by unfold Ordered; (try rw [e1] at *); omega)).symm) SelMC.sel SubRC.sub | exact r_retv2 (Rd.tmp rfl rfl) (congrArg Value.bool (decide_eq_false (by unfold Ordered; (try rw [e1] at *); omega)).symm) SelMC.sel SubRC.sub
set_option maxHeartbeats 4000000 in
theorem isDays1_v (F : Work) (ro ho : Option Addr) (rc hc : Nat) (fb : Nat) (x : Int) (hr : F.rain.length ≤ 40) (hh : F.heaps.length ≤ 40) : FnV Try.prog 68 [i64 x, pt fb 0] [boxF fb 26 (cellsF F ro rc ho hc), rowD ro 2 encS F.rain, rowD ho 3 encH F.heaps] (.bool (decide (¬ (-1 ≤ x ∧ x ≤ (F.rain.length : Int) - 1)))) := by
 refine FnV.intro Try.call68 Try.func68 rfl Try.ntmps68 rfl ?_
 intro W M Rf
 refine r_seq ?_
 refine r_region ?_
 refine o_q _ rfl rfl rfl (v_assign rfl rfl) ?_
 refine o_nil ?_
 with_reducible refine r_then ?_
 refine r_seq ?_
 refine r_region ?_
 refine o_q _ rfl rfl rfl (v_move rfl rfl) ?_
 refine o_q _ rfl rfl rfl (v_fieldAddr rfl Try.underlying26 inf22 rfl rfl rfl rfl) ?_
 refine o_q _ rfl rfl rfl (v_lf1 rfl Try.underlying22 rfl rfl rfl) ?_
 refine o_q _ rfl rfl rfl (v_len rfl rfl Try.underlying22 rfl) ?_
 refine o_q _ rfl rfl rfl (v_sub rfl rfl rfl (by omega)) ?_
 refine o_test rfl rfl rfl (OpQ.fn (within_v _ _ _) rfl rfl SubRC.sub) (fun h9 => ?_) (fun h9 => ?_)
 all_goals
  refine o_q _ rfl rfl rfl (v_not rfl rfl) ?_
  refine o_q _ rfl rfl rfl (v_assign rfl rfl) ?_
  refine o_nil ?_
  with_reducible refine r_then ?_
  refine r_ret ?_
  exact r_retv2 (Rd.tmp rfl rfl) (congrArg Value.bool (by simp [*])) SelMC.sel SubRC.sub
theorem isplan_x {n : Nat} {p : T3} : (Days n p ∧ ∀ j, j < 3 → Ordered p j) ↔ IsPlan n p :=
  ⟨fun h => ⟨h.1, h.2 0 (by omega), h.2 1 (by omega), h.2 2 (by omega)⟩, fun h => ⟨h.1, fun j hj => by
    obtain rfl | rfl | rfl : j = 0 ∨ j = 1 ∨ j = 2 := by omega
    · exact h.2.1
    · exact h.2.2.1
    · exact h.2.2.2⟩⟩
theorem days_x {n : Nat} {a b c : Int} : Days n ⟨a, b, c⟩ ↔ ¬ ∃ k, k < [a, b, c].length ∧ ¬ (-1 ≤ [a, b, c].getD k default ∧ [a, b, c].getD k default ≤ (n : Int) - 1) := by
  constructor
  · rintro h ⟨k, hk, hx⟩
    have hk' : k < 3 := hk
    have := h k hk'
    obtain rfl | rfl | rfl : k = 0 ∨ k = 1 ∨ k = 2 := by omega
    all_goals exact hx this
  · intro h k hk
    obtain rfl | rfl | rfl : k = 0 ∨ k = 1 ∨ k = 2 := by omega
    · exact Classical.not_not.1 fun hx => h ⟨0, by simp, hx⟩
    · exact Classical.not_not.1 fun hx => h ⟨1, by simp, hx⟩
    · exact Classical.not_not.1 fun hx => h ⟨2, by simp, hx⟩
set_option maxHeartbeats 4000000 in
theorem isDays_v (F : Work) (ro ho : Option Addr) (rc hc : Nat) (a b c : Int) (hr : F.rain.length ≤ 40) (hh : F.heaps.length ≤ 40) : FnV Try.prog 40 [valF F ro rc ho hc, .agg #[i64 a, i64 b, i64 c]] [rowD ro 2 encS F.rain, rowD ho 3 encH F.heaps] (.bool (decide (Days F.rain.length ⟨a, b, c⟩))) := by
 refine FnV.intro Try.call40 Try.func40 rfl Try.ntmps40 rfl ?_
 intro W M Rf
 refine r_seq ?_
 refine r_region ?_
 refine o_boxA rfl rfl rfl rfl rfl (fun b2 => ?_)
 refine o_boxA rfl rfl rfl rfl rfl (fun b3 => ?_)
 refine o_q _ rfl rfl rfl (v_assign rfl rfl) ?_
 refine o_nil ?_
 with_reducible refine r_then ?_
 refine r_seq ?_
 refine Imp.sealB b2 ?_
 refine Imp.sealB b3 ?_
 refine Imp.rowB (b := b3) i64 [a, b, c] rfl ?_
 refine r_region ?_
 refine o_q _ rfl rfl rfl (v_sliceA rfl Try.underlying55 inf3 rfl) ?_
 refine o_q _ rfl rfl rfl (v_makeFunc rfl rfl rfl) ?_
 refine o_test rfl rfl rfl (OpQ.fn (ints_c (fun x : Int => ¬ (-1 ≤ x ∧ x ≤ (F.rain.length : Int) - 1)) [a, b, c] (some ⟨b3, 0, none⟩) 3 68 [pt b2 0] [boxF b2 26 (cellsF F ro rc ho hc), rowD ro 2 encS F.rain, rowD ho 3 encH F.heaps] (by simp) (fun k _ => isDays1_v F ro ho rc hc b2 _ hr hh)) rfl rfl SubRC.sub) (fun h7 => ?_) (fun h7 => ?_)
 all_goals
  refine o_q _ rfl rfl rfl (v_not rfl rfl) ?_
  refine o_q _ rfl rfl rfl (v_assign rfl rfl) ?_
  refine o_nil ?_
  with_reducible refine r_then ?_
  refine r_ret ?_
  exact r_retv2 (Rd.tmp rfl rfl) (congrArg Value.bool (by first | exact (decide_eq_true (days_x.2 (by assumption))).symm | exact (decide_eq_false (fun h => days_x.1 h (by assumption))).symm)) SelMC.sel SubRC.sub
set_option maxHeartbeats 4000000 in
theorem isPlan_v (F : Work) (ro ho : Option Addr) (rc hc : Nat) (a b c : Int) (hr : F.rain.length ≤ 40) (hh : F.heaps.length ≤ 40) : FnV Try.prog 44 [valF F ro rc ho hc, .agg #[i64 a, i64 b, i64 c]] [rowD ro 2 encS F.rain, rowD ho 3 encH F.heaps] (.bool (decide (IsPlan F.rain.length ⟨a, b, c⟩))) := by
 refine FnV.intro Try.call44 Try.func44 rfl Try.ntmps44 rfl ?_
 intro W M Rf
 refine r_seq ?_
 refine r_region ?_
 refine o_boxA rfl rfl rfl rfl rfl (fun b2 => ?_)
 refine o_boxA rfl rfl rfl rfl rfl (fun b3 => ?_)
 refine o_q _ rfl rfl rfl (v_assign rfl rfl) ?_
 refine o_nil ?_
 with_reducible refine r_then ?_
 refine r_seq ?_
 refine r_region ?_
 refine o_q _ rfl rfl rfl (v_ldW rfl Try.underlying26 rfl inf26 rfl rfl) ?_
 refine o_q _ rfl rfl rfl (v_ldW rfl Try.underlying55 rfl inf55 rfl rfl) ?_
 refine o_q _ rfl rfl rfl (OpQ.fn (isDays_v F ro ho rc hc _ _ _ hr hh) rfl rfl SubRC.sub) ?_
 refine o_q _ rfl rfl rfl (v_assign rfl rfl) ?_
 refine o_nil ?_
 with_reducible refine r_then ?_
 refine r_seq ?_
 refine r_seq ?_
 refine r_region ?_
 refine o_q _ rfl rfl rfl (v_move rfl rfl) ?_
 refine o_nil ?_
 with_reducible refine r_then ?_
 refine r_block ?_
 refine r_loop (ι := Nat) (fun k => k ≤ 3) (fun k => [(2, pt b2 0), (3, pt b3 0), (5, .bool (decide (Days F.rain.length ⟨a, b, c⟩ ∧ ∀ j, j < k → Ordered ⟨a, b, c⟩ j))), (10, i64 k)]) (fun k => bx b3 55 [i64 a, i64 b, i64 c] :: bx b2 26 (cellsF F ro rc ho hc) :: M) (fun k => [rowD ro 2 encS F.rain, rowD ho 3 encH F.heaps] ++ Rf) (fun k => 3 - k) 0 ?_ ?_ ?_
 ·
  exact r_here (by repeat (first | exact FSub.nil | refine FSub.cons rfl ?_ | refine FSub.cons2 rfl (congrArg Value.bool (by exact decide_eq_decide.2 ⟨fun h => ⟨h, fun j hj => absurd hj (by omega)⟩, fun h => h.1⟩)) ?_)) SelMC.sel SubRC.sub
 ·
  omega
 ·
  rintro k hI0
  refine r_seq ?_
  refine r_region ?_
  refine o_q _ rfl rfl rfl (v_lss rfl rfl rfl) ?_
  refine o_nil ?_
  with_reducible refine r_then ?_
  refine r_seq ?_
  refine r_condd rfl (fun hc11 => ?_) (fun hc11 => ?_)
  ·
   refine r_skip ?_
   with_reducible refine r_then ?_
   refine r_seq ?_
   refine r_block ?_
   refine r_seq ?_
   refine r_region ?_
   refine o_q _ rfl rfl rfl (v_move rfl rfl) ?_
   refine o_q _ rfl rfl rfl (v_assign rfl rfl) ?_
   refine o_nil ?_
   with_reducible refine r_then ?_
   refine r_region ?_
   refine o_q _ rfl rfl rfl (v_move rfl rfl) ?_
   refine o_test rfl rfl rfl (v_move rfl rfl) (fun h14 => ?_) (fun h14 => ?_)
   all_goals
    first | refine o_gn rfl rfl rfl rfl ?_ | refine o_g _ rfl rfl rfl rfl (v_ldW rfl Try.underlying55 rfl inf55 rfl rfl) ?_
    first | refine o_gn rfl rfl rfl rfl ?_ | refine o_g _ rfl rfl rfl rfl (v_move rfl rfl) ?_
    first | refine o_gn rfl rfl rfl rfl ?_ | refine o_g _ rfl rfl rfl rfl (OpQ.fn (ordered_v _ _ _ k (by omega)) rfl rfl SubRC.sub) ?_
    first | refine o_q _ rfl rfl rfl (v_pick_t rfl rfl rfl) ?_ | refine o_q _ rfl rfl rfl (v_pick_f rfl rfl rfl) ?_
    refine o_q _ rfl rfl rfl (v_assign rfl rfl) ?_
    refine o_nil ?_
    with_reducible refine r_in_normal ?_; refine r_then ?_
    refine r_region ?_
    refine o_q _ rfl rfl rfl (v_add rfl rfl rfl (by omega)) ?_
    refine o_q _ rfl rfl rfl (v_move rfl rfl) ?_
    refine o_nil ?_
    with_reducible refine r_then ?_
    refine r_next (k + 1) ?_ ?_ ?_
    ·
     exact r_here (by repeat (first | exact FSub.nil | refine FSub.cons rfl ?_ | refine FSub.cons2 rfl (congrArg Value.bool (by first | exact decide_eq_decide.2 ⟨fun h => ⟨h14.1, Foot4.all_step h14.2 h⟩, fun h => h.2 k (by omega)⟩ | exact (decide_eq_false (fun h => h14 ⟨h.1, fun j hj => h.2 j (by omega)⟩)).symm)) ?_)) SelMC.sel SubRC.sub
    ·
     omega
    ·
     omega
  ·
   refine r_exit ?_
   with_reducible refine r_then_exit ?_; refine r_then_exit ?_; refine r_in_here ?_; refine r_then ?_
   refine r_seq ?_
   refine r_region ?_
   refine o_q _ rfl rfl rfl (v_move rfl rfl) ?_
   refine o_q _ rfl rfl rfl (v_assign rfl rfl) ?_
   refine o_nil ?_
   with_reducible refine r_then ?_
   refine r_ret ?_
   have hk : k = 3 := by omega
   subst hk
   exact r_retv2 (Rd.tmp rfl rfl) (congrArg Value.bool (decide_eq_decide.2 isplan_x)) SelMC.sel SubRC.sub
end Go.Proofs.Ytpndeonmmcaikaa.FootW


namespace Go.Proofs.Ytpndeonmmcaikaa.FootW
open Go.G Foot4
set_option maxRecDepth 1000000
attribute [local irreducible] G.ParO G.Fin
set_option maxHeartbeats 4000000 in
theorem after_v (w r d : Int) (h : -1000000 ≤ w ∧ w ≤ 1000000 ∧ -1000000 ≤ r ∧ r ≤ 1000000 ∧ -1000000 ≤ d ∧ d ≤ 1000000) : FnV Try.prog 76 [i64 w, i64 r, i64 d] [] (i64 (Foot4.step w r d)) := by
 refine FnV.intro Try.call76 Try.func76 rfl Try.ntmps76 rfl ?_
 intro W M Rf
 refine r_seq ?_
 refine r_region ?_
 refine o_q _ rfl rfl rfl (v_assign rfl rfl) ?_
 refine o_nil ?_
 with_reducible refine r_then ?_
 refine r_seq ?_
 refine r_region ?_
 refine o_q _ rfl rfl rfl (v_move rfl rfl) ?_
 refine o_q _ rfl rfl rfl (v_move rfl rfl) ?_
 refine o_q _ rfl rfl rfl (v_add rfl rfl rfl (by omega)) ?_
 refine o_q _ rfl rfl rfl (v_move rfl rfl) ?_
 refine o_q _ rfl rfl rfl (v_sub rfl rfl rfl (by omega)) ?_
 refine o_q _ rfl rfl rfl (v_max2 rfl rfl rfl) ?_
 refine o_q _ rfl rfl rfl (v_assign rfl rfl) ?_
 refine o_nil ?_
 with_reducible refine r_then ?_
 refine r_ret ?_
 exact r_retv2 (Rd.tmp rfl rfl) rfl SelMC.sel SubRC.sub
set_option maxHeartbeats 4000000 in
theorem fits_v (w l : Int) : FnV Try.prog 70 [i64 w, i64 l] [] (.bool (decide (w ≤ l))) := by
 refine FnV.intro Try.call70 Try.func70 rfl Try.ntmps70 rfl ?_
 intro W M Rf
 refine r_seq ?_
 refine r_region ?_
 refine o_q _ rfl rfl rfl (v_assign rfl rfl) ?_
 refine o_nil ?_
 with_reducible refine r_then ?_
 refine r_seq ?_
 refine r_region ?_
 refine o_q _ rfl rfl rfl (v_move rfl rfl) ?_
 refine o_q _ rfl rfl rfl (v_move rfl rfl) ?_
 refine o_q _ rfl rfl rfl (v_leq rfl rfl rfl) ?_
 refine o_q _ rfl rfl rfl (v_assign rfl rfl) ?_
 refine o_nil ?_
 with_reducible refine r_then ?_
 refine r_ret ?_
 exact r_retv2 (Rd.tmp rfl rfl) rfl SelMC.sel SubRC.sub
set_option maxHeartbeats 4000000 in
theorem dry_v (lo hi : Int) : FnV Try.prog 99 [.agg #[], .agg #[i64 lo, i64 hi]] [] (i64 lo) := by
 refine FnV.intro Try.call99 Try.func99 rfl Try.ntmps99 rfl ?_
 intro W M Rf
 refine r_seq ?_
 refine r_region ?_
 refine o_boxA rfl rfl rfl rfl rfl (fun b2 => ?_)
 refine o_boxA rfl rfl rfl rfl rfl (fun b3 => ?_)
 refine o_q _ rfl rfl rfl (v_assign rfl rfl) ?_
 refine o_nil ?_
 with_reducible refine r_then ?_
 refine r_seq ?_
 refine r_region ?_
 refine o_q _ rfl rfl rfl (v_fieldAddr rfl Try.underlying42 inf3 rfl rfl rfl rfl) ?_
 refine o_q _ rfl rfl rfl (v_ld1 rfl Try.underlying3 rfl rfl rfl) ?_
 refine o_q _ rfl rfl rfl (v_assign rfl rfl) ?_
 refine o_nil ?_
 with_reducible refine r_then ?_
 refine r_ret ?_
 exact r_retv2 (Rd.tmp rfl rfl) rfl SelMC.sel SubRC.sub
set_option maxHeartbeats 4000000 in
theorem wet0_v (lo hi : Int) (hl : -1000 ≤ lo ∧ lo ≤ 1000) (hh : -1000 ≤ hi ∧ hi ≤ 1000) : FnV Try.prog 100 [.agg #[], .agg #[i64 lo, i64 hi]] [] (i64 hi) := by
 refine FnV.intro Try.call100 Try.func100 rfl Try.ntmps100 rfl ?_
 intro W M Rf
 refine r_seq ?_
 refine r_region ?_
 refine o_boxA rfl rfl rfl rfl rfl (fun b2 => ?_)
 refine o_boxA rfl rfl rfl rfl rfl (fun b3 => ?_)
 refine o_q _ rfl rfl rfl (v_assign rfl rfl) ?_
 refine o_nil ?_
 with_reducible refine r_then ?_
 refine r_seq ?_
 refine r_region_q mixed (by kernel_rfl) ?_
 refine q_q _ rfl rfl rfl (v_fieldAddr0 rfl Try.underlying97 inf95 rfl rfl rfl rfl rfl (by kernel_rfl) rfl) ?_
 refine q_q _ rfl rfl rfl (v_ldW rfl Try.underlying95 rfl inf95 rfl rfl) ?_
 refine q_q _ rfl rfl rfl (v_ldW rfl Try.underlying42 rfl inf42 rfl rfl) ?_
 refine q_q _ rfl rfl rfl (OpQ.fn (dry_v _ _) rfl rfl SubRC.sub) ?_
 refine q_q _ rfl rfl rfl (v_fieldAddr rfl Try.underlying42 inf3 rfl rfl rfl rfl) ?_
 refine q_q _ rfl rfl rfl (v_ld1 rfl Try.underlying3 rfl rfl rfl) ?_
 refine q_q _ rfl rfl rfl (v_fieldAddr rfl Try.underlying42 inf3 rfl rfl rfl rfl) ?_
 refine q_q _ rfl rfl rfl (v_ld1 rfl Try.underlying3 rfl rfl rfl) ?_
 refine q_q _ rfl rfl rfl (v_sub rfl rfl rfl (by omega)) ?_
 refine q_q _ rfl rfl rfl (v_add rfl rfl rfl (by omega)) ?_
 refine q_q _ rfl rfl rfl (v_assign rfl rfl) ?_
 refine q_nil ?_
 with_reducible refine r_then ?_
 refine r_ret ?_
 exact r_retv2 (Rd.tmp rfl rfl) (congrArg (Value.int .i64) (by omega)) SelMC.sel SubRC.sub
set_option maxHeartbeats 4000000 in
theorem ask_t (e : Int) : FnV Try.prog 56 [.bool true, i64 e] [] (.tuple #[]) := by
 refine FnV.intro Try.call56 Try.func56 rfl Try.ntmps56 rfl ?_
 intro W M Rf
 refine r_seq ?_
 refine r_region ?_
 refine o_q _ rfl rfl rfl (v_move rfl rfl) ?_
 refine o_q _ rfl rfl rfl (v_not rfl rfl) ?_
 refine o_nil ?_
 with_reducible refine r_then ?_
 refine r_cond rfl (fun hc5 => ?_) (fun hc5 => ?_)
 ·
  (exfalso; revert hc5; decide)
 ·
  refine r_skip ?_
  exact r_endv (Rd.none rfl) SelMC.sel SubRC.sub
set_option maxHeartbeats 4000000 in
theorem ask_f (e : Int) : FnX Try.prog 56 [.bool false, i64 e] [] (.iface 123 (i64 e)) := by
 refine FnX.intro Try.call56 Try.func56 rfl Try.ntmps56 rfl ?_
 intro W M Rf
 refine r_seq ?_
 refine r_region ?_
 refine o_q _ rfl rfl rfl (v_move rfl rfl) ?_
 refine o_q _ rfl rfl rfl (v_not rfl rfl) ?_
 refine o_nil ?_
 with_reducible refine r_then ?_
 refine r_cond rfl (fun hc5 => ?_) (fun hc5 => ?_)
 ·
  refine r_region ?_
  refine o_q _ rfl rfl rfl (v_move rfl rfl) ?_
  refine o_q _ rfl rfl rfl (v_makeIface rfl Try.underlying123 rfl rfl) ?_
  refine o_panic rfl rfl rfl ?_
  exact r_retx SelMC.sel SubRC.sub
 ·
  (exfalso; revert hc5; decide)
set_option maxHeartbeats 4000000 in
theorem answer_ans : AnsP Try.prog 33 .i64 123 43 := by
  refine ⟨Try.call33, fun W M R w b hw => ?_, fun W M R w b x y hw => ?_⟩
  · refine ans_intro (args := [pt b 0]) (u' := .returning) (v := .nilIface) Try.func33 rfl Try.ntmps33 rfl rfl rfl rfl rfl rfl rfl rfl rfl (fun c₀ cs h => .inr ⟨rec_ret h, rfl, rfl⟩) hw ?_
    intro c₀ cs
    refine r_seq ?_
    refine r_region ?_
    refine o_q _ rfl rfl rfl (v_move rfl rfl) ?_
    refine o_q _ rfl rfl rfl (v_ifnil rfl Try.underlying20 rfl) ?_
    refine o_nil ?_
    with_reducible refine r_then ?_
    refine r_cond rfl (fun hc7 => ?_) (fun hc7 => ?_)
    ·
      (exfalso; revert hc7; decide)
    ·
      refine r_skip ?_
      exact r_ends (Rd.none rfl) (fun w' h => ⟨⟨_, rfl⟩, rfl, h⟩)
  · refine ans_intro (args := [pt b 0]) (u' := .panicking [{ v := .iface 123 (i64 y), recovered := true }]) (v := .iface 123 (i64 y)) Try.func33 rfl Try.ntmps33 rfl rfl rfl rfl rfl rfl rfl rfl rfl (fun c₀ cs h => .inl (rec_pan h)) hw ?_
    intro c₀ cs
    refine r_seq ?_
    refine r_region ?_
    refine o_q _ rfl rfl rfl (v_move rfl rfl) ?_
    refine o_q _ rfl rfl rfl (v_ifnn rfl Try.underlying20 rfl) ?_
    refine o_nil ?_
    with_reducible refine r_then ?_
    refine r_cond rfl (fun hc7 => ?_) (fun hc7 => ?_)
    ·
      refine r_seq ?_
      refine r_region ?_
      refine o_q _ rfl rfl rfl (v_move rfl rfl) ?_
      refine o_q _ rfl rfl rfl (v_assertOk rfl Try.underlying123 rfl rfl) ?_
      refine o_q _ rfl rfl rfl (v_move rfl rfl) ?_
      refine o_q _ rfl rfl rfl (v_extract rfl rfl rfl) ?_
      refine o_q _ rfl rfl rfl (v_extract rfl rfl rfl) ?_
      refine o_q _ rfl rfl rfl (v_assign rfl rfl) ?_
      refine o_q _ rfl rfl rfl (v_assign rfl rfl) ?_
      refine o_nil ?_
      with_reducible refine r_then ?_
      refine r_seq ?_
      refine r_seq ?_
      refine r_region ?_
      refine o_q _ rfl rfl rfl (v_move rfl rfl) ?_
      refine o_q _ rfl rfl rfl (v_not rfl rfl) ?_
      refine o_nil ?_
      with_reducible refine r_then ?_
      refine r_cond rfl (fun hc14 => ?_) (fun hc14 => ?_)
      ·
        (exfalso; revert hc14; decide)
      ·
        refine r_skip ?_
        with_reducible refine r_then ?_
        refine r_region ?_
        refine o_q _ rfl rfl rfl (v_move rfl rfl) ?_
        refine o_q _ rfl rfl rfl (v_move rfl rfl) ?_
        refine o_q _ rfl rfl rfl (v_nilCheck rfl rfl) ?_
        refine o_st rfl inf43 rfl rfl rfl rfl rfl rfl rfl rfl ?_
        refine o_nil ?_
        exact r_ends (Rd.none rfl) (fun w' h => ⟨⟨_, rfl⟩, rfl, h⟩)
    ·
      (exfalso; revert hc7; decide)
end Go.Proofs.Ytpndeonmmcaikaa.FootW


namespace Go.Proofs.Ytpndeonmmcaikaa.FootW
open Go.G Foot4
set_option maxRecDepth 1000000
attribute [local irreducible] G.ParO G.Fin
theorem chk_1 {F : Work} {v : Bool} (h : ¬ GoodF F) : chk F v = 1 := if_neg h
theorem chk_2 {F : Work} {v : Bool} (hv : ¬ v = true) (h : GoodF F) : chk F v = 2 := by unfold chk; rw [if_pos h, if_neg hv]
theorem chk_0 {F : Work} {v : Bool} (hv : v = true) (h : GoodF F) : chk F v = 0 := by unfold chk; rw [if_pos h, if_pos hv]
theorem goodrain {F : Work} (h : ¬ ∃ k, k < F.rain.length ∧ ¬ SpanOk (F.rain.getD k default) 10) : ∀ k, k < F.rain.length → 0 ≤ (F.rain.getD k default).lo ∧ (F.rain.getD k default).lo ≤ (F.rain.getD k default).hi ∧ (F.rain.getD k default).hi ≤ 10 := by
  intro k hk
  exact Classical.not_not.1 fun hx => h ⟨k, hk, hx⟩
theorem norain {F : Work} (h : ∃ k, k < F.rain.length ∧ ¬ SpanOk (F.rain.getD k default) 10) (g : ∀ k, k < F.rain.length → 0 ≤ (F.rain.getD k default).lo ∧ (F.rain.getD k default).lo ≤ (F.rain.getD k default).hi ∧ (F.rain.getD k default).hi ≤ 10) : False := by
  obtain ⟨k, hk, hx⟩ := h
  exact hx (g k hk)
theorem r_panx {P : Program} {W : World} {n : Nat} {D : List Deferred} {L : Tm} {M : List Res} {R : List Fact} {fn : Func} {Rr : Ending → World → Prop} {c : List PanicEntry} (h : False) : Imp W n D L M R (bodyPost P fn Rr (.panic c)) := h.elim
theorem r_retx2 {P : Program} {W : World} {n : Nat} {L : Tm} {M : List Res} {R : List Fact} {fn : Func} {M0 : List Res} {R0 : List Fact} {t : TypeId} {x y : Int} (he : x = y) (hM : SelM M M0) (hR : SubR R R0) : Imp W n [] L M R (bodyPost P fn (RetX W M0 R0 (.iface t (i64 y))) (.panic [{ v := .iface t (i64 x), recovered := false }])) := by
  subst he; exact r_retx hM hR
set_option maxHeartbeats 4000000 in
theorem open_ok (F : Work) (ro ho : Option Addr) (rc hc : Nat) (hr : F.rain.length ≤ 40) (hh : F.heaps.length ≤ 40) (g : GoodF F) : FnR Try.prog 34 [valF F ro rc ho hc, .bool true] [rowD ro 2 encS F.rain, rowD ho 3 encH F.heaps] (isP) (fun v => [boxF (blk v) 126 (cellsF F ro rc ho hc)]) := by
 refine FnR.intro Try.call34 Try.func34 rfl Try.ntmps34 rfl ?_
 intro W M Rf
 refine r_seq ?_
 refine r_region ?_
 refine o_boxA rfl rfl rfl rfl rfl (fun b2 => ?_)
 refine o_q _ rfl rfl rfl (v_assign rfl rfl) ?_
 refine o_nil ?_
 with_reducible refine r_then ?_
 refine r_seq ?_
 refine r_region ?_
 refine o_q _ rfl rfl rfl (v_fieldAddr rfl Try.underlying26 inf22 rfl rfl rfl rfl) ?_
 refine o_q _ rfl rfl rfl (v_ld1 rfl Try.underlying22 rfl rfl rfl) ?_
 refine o_q _ rfl rfl rfl (v_len rfl rfl Try.underlying22 rfl) ?_
 refine o_test rfl rfl rfl (OpQ.fn (within_v _ _ _) rfl rfl SubRC.sub) (fun h11 => ?_) (fun h11 => ?_)
 all_goals
  refine o_q _ rfl rfl rfl (v_move rfl rfl) ?_
  first | refine o_gn rfl rfl rfl rfl ?_ | refine o_g _ rfl rfl rfl rfl (v_fieldAddr rfl Try.underlying26 inf3 rfl rfl rfl rfl) ?_
  first | refine o_gn rfl rfl rfl rfl ?_ | refine o_g _ rfl rfl rfl rfl (v_ld1 rfl Try.underlying3 rfl rfl rfl) ?_
  first | refine o_gn rfl rfl rfl rfl ?_ | refine o_gtest rfl rfl rfl rfl (OpQ.fn (within_v _ _ _) rfl rfl SubRC.sub) (fun h15 => ?_) (fun h15 => ?_)
  all_goals
   first | refine o_q _ rfl rfl rfl (v_pick_t rfl rfl rfl) ?_ | refine o_q _ rfl rfl rfl (v_pick_f rfl rfl rfl) ?_
   refine o_q _ rfl rfl rfl (v_move rfl rfl) ?_
   first | refine o_gn rfl rfl rfl rfl ?_ | refine o_g _ rfl rfl rfl rfl (v_fieldAddr rfl Try.underlying26 inf24 rfl rfl rfl rfl) ?_
   first | refine o_gn rfl rfl rfl rfl ?_ | refine o_g _ rfl rfl rfl rfl (v_ld1 rfl Try.underlying24 rfl rfl rfl) ?_
   first | refine o_gn rfl rfl rfl rfl ?_ | refine o_g _ rfl rfl rfl rfl (v_len rfl rfl Try.underlying24 rfl) ?_
   first | refine o_gn rfl rfl rfl rfl ?_ | refine o_gtest rfl rfl rfl rfl (v_leq rfl rfl rfl) (fun h21 => ?_) (fun h21 => ?_)
   all_goals
    first | refine o_q _ rfl rfl rfl (v_pick_t rfl rfl rfl) ?_ | refine o_q _ rfl rfl rfl (v_pick_f rfl rfl rfl) ?_
    first | refine o_q _ rfl rfl rfl (OpQ.fn (ask_t _) rfl rfl SubRC.sub) ?_ | refine o_fnx (ask_f _) rfl rfl rfl SubRC.sub ?_
    repeat (first | with_reducible refine r_then_panic ?_)
    try (refine r_panx ?_; (obtain ⟨g1, g2, g3, g4, g5, g6⟩ := g; first | omega | exact absurd rfl (by assumption) | exact norain (by assumption) g4 | (have g9 := g5 k1 (by omega); omega) | (have g9 := g6 k2 (by omega); omega)))
    all_goals
     refine o_nil ?_
     with_reducible refine r_then ?_
     refine r_seq ?_
     refine r_region ?_
     refine o_q _ rfl rfl rfl (v_fieldAddr rfl Try.underlying26 inf22 rfl rfl rfl rfl) ?_
     refine o_q _ rfl rfl rfl (v_ld1 rfl Try.underlying22 rfl rfl rfl) ?_
     refine o_test rfl rfl rfl (OpQ.fn (spans_c (fun s => ¬ SpanOk s 10) F.rain ro rc 58 [] [] (by omega) (fun k _ => open1_v _)) rfl rfl SubRC.sub) (fun h26 => ?_) (fun h26 => ?_)
     all_goals
      refine o_q _ rfl rfl rfl (v_not rfl rfl) ?_
      first | refine o_q _ rfl rfl rfl (OpQ.fn (ask_t _) rfl rfl SubRC.sub) ?_ | refine o_fnx (ask_f _) rfl rfl rfl SubRC.sub ?_
      repeat (first | with_reducible refine r_then_panic ?_)
      try (refine r_panx ?_; (obtain ⟨g1, g2, g3, g4, g5, g6⟩ := g; first | omega | exact absurd rfl (by assumption) | exact norain (by assumption) g4 | (have g9 := g5 k1 (by omega); omega) | (have g9 := g6 k2 (by omega); omega)))
      all_goals
       refine o_nil ?_
       with_reducible refine r_then ?_
       refine r_seq ?_
       refine r_seq ?_
       refine r_region ?_
       refine o_q _ rfl rfl rfl (v_move rfl rfl) ?_
       refine o_nil ?_
       with_reducible refine r_then ?_
       refine r_block ?_
       refine r_loop (ι := Nat) (fun k1 => k1 ≤ 3 ∧ ∀ j, j < k1 → (0 ≤ F.lim.at j ∧ F.lim.at j ≤ 60) ∧ (0 ≤ F.dr.at j ∧ F.dr.at j ≤ 10)) (fun k1 => [(1, .bool true), (2, pt b2 0), (29, i64 k1)]) (fun k1 => bx b2 26 (cellsF F ro rc ho hc) :: M) (fun k1 => [rowD ro 2 encS F.rain, rowD ho 3 encH F.heaps] ++ Rf) (fun k1 => 3 - k1) 0 ?_ ?_ ?_
       ·
        exact r_here (by repeat (first | exact FSub.nil | refine FSub.cons rfl ?_)) SelMC.sel SubRC.sub
       ·
        exact ⟨by omega, fun j hj => absurd hj (by omega)⟩
       ·
        rintro k1 hI0
        refine r_seq ?_
        refine r_region ?_
        refine o_q _ rfl rfl rfl (v_lss rfl rfl rfl) ?_
        refine o_nil ?_
        with_reducible refine r_then ?_
        refine r_seq ?_
        refine r_condd rfl (fun hc30 => ?_) (fun hc30 => ?_)
        ·
         refine r_skip ?_
         with_reducible refine r_then ?_
         refine r_seq ?_
         refine r_block ?_
         refine r_seq ?_
         refine r_region ?_
         refine o_q _ rfl rfl rfl (v_move rfl rfl) ?_
         refine o_q _ rfl rfl rfl (v_assign rfl rfl) ?_
         refine o_nil ?_
         with_reducible refine r_then ?_
         refine r_region ?_
         refine o_q _ rfl rfl rfl (v_move rfl rfl) ?_
         refine o_q _ rfl rfl rfl (v_fieldAddr rfl Try.underlying26 inf23 rfl rfl rfl rfl) ?_
         refine o_q _ rfl rfl rfl (v_indexAddrAn rfl Try.underlying23 inf3 rfl rfl (by omega)) ?_
         refine o_q _ rfl rfl rfl (v_ld1 rfl Try.underlying3 rfl rfl (F_limn (by omega))) ?_
         refine o_test rfl rfl rfl (OpQ.fn (within_v _ _ _) rfl rfl SubRC.sub) (fun h36 => ?_) (fun h36 => ?_)
         all_goals
          refine o_q _ rfl rfl rfl (v_move rfl rfl) ?_
          first | refine o_gn rfl rfl rfl rfl ?_ | refine o_g _ rfl rfl rfl rfl (v_move rfl rfl) ?_
          first | refine o_gn rfl rfl rfl rfl ?_ | refine o_g _ rfl rfl rfl rfl (v_fieldAddr rfl Try.underlying26 inf23 rfl rfl rfl rfl) ?_
          first | refine o_gn rfl rfl rfl rfl ?_ | refine o_g _ rfl rfl rfl rfl (v_indexAddrAn rfl Try.underlying23 inf3 rfl rfl (by omega)) ?_
          first | refine o_gn rfl rfl rfl rfl ?_ | refine o_g _ rfl rfl rfl rfl (v_ld1 rfl Try.underlying3 rfl rfl (F_drn (by omega))) ?_
          first | refine o_gn rfl rfl rfl rfl ?_ | refine o_gtest rfl rfl rfl rfl (OpQ.fn (within_v _ _ _) rfl rfl SubRC.sub) (fun h42 => ?_) (fun h42 => ?_)
          all_goals
           first | refine o_q _ rfl rfl rfl (v_pick_t rfl rfl rfl) ?_ | refine o_q _ rfl rfl rfl (v_pick_f rfl rfl rfl) ?_
           first | refine o_q _ rfl rfl rfl (OpQ.fn (ask_t _) rfl rfl SubRC.sub) ?_ | refine o_fnx (ask_f _) rfl rfl rfl SubRC.sub ?_
           repeat (first | with_reducible refine r_then_panic ?_ | with_reducible refine r_in_panic ?_)
           try (refine r_panx ?_; (obtain ⟨g1, g2, g3, g4, g5, g6⟩ := g; first | omega | exact absurd rfl (by assumption) | exact norain (by assumption) g4 | (have g9 := g5 k1 (by omega); omega) | (have g9 := g6 k2 (by omega); omega)))
           all_goals
            refine o_nil ?_
            with_reducible refine r_in_normal ?_; refine r_then ?_
            refine r_region ?_
            refine o_q _ rfl rfl rfl (v_add rfl rfl rfl (by omega)) ?_
            refine o_q _ rfl rfl rfl (v_move rfl rfl) ?_
            refine o_nil ?_
            with_reducible refine r_then ?_
            refine r_next (k1 + 1) ?_ ?_ ?_
            ·
             exact r_here (by repeat (first | exact FSub.nil | refine FSub.cons rfl ?_)) SelMC.sel SubRC.sub
            ·
             exact ⟨by omega, Foot4.all_step hI0.2 ⟨by assumption, by assumption⟩⟩
            ·
             omega
        ·
         refine r_exit ?_
         with_reducible refine r_then_exit ?_; refine r_then_exit ?_; refine r_in_here ?_; refine r_then ?_
         refine r_seq ?_
         refine r_seq ?_
         refine r_region ?_
         refine o_q _ rfl rfl rfl (v_fieldAddr rfl Try.underlying26 inf24 rfl rfl rfl rfl) ?_
         refine o_q _ rfl rfl rfl (v_ld1 rfl Try.underlying24 rfl rfl rfl) ?_
         refine o_q _ rfl rfl rfl (v_len rfl rfl Try.underlying24 rfl) ?_
         refine o_q _ rfl rfl rfl (v_move rfl rfl) ?_
         refine o_nil ?_
         with_reducible refine r_then ?_
         refine r_block ?_
         refine r_loop (ι := Nat) (fun k2 => k2 ≤ F.heaps.length ∧ ∀ j, j < k2 → (0 ≤ (F.heaps.getD j default).lo ∧ (F.heaps.getD j default).lo ≤ (F.heaps.getD j default).hi ∧ (F.heaps.getD j default).hi ≤ 60) ∧ (0 ≤ (F.heaps.getD j default).sods ∧ (F.heaps.getD j default).sods ≤ 500)) (fun k2 => [(1, .bool true), (2, pt b2 0), (47, .slice ho F.heaps.length hc), (48, i64 F.heaps.length), (49, i64 k2)]) (fun k2 => bx b2 26 (cellsF F ro rc ho hc) :: M) (fun k2 => [rowD ro 2 encS F.rain, rowD ho 3 encH F.heaps] ++ Rf) (fun k2 => F.heaps.length - k2) 0 ?_ ?_ ?_
         ·
          exact r_here (by repeat (first | exact FSub.nil | refine FSub.cons rfl ?_)) SelMC.sel SubRC.sub
         ·
          exact ⟨by omega, fun j hj => absurd hj (by omega)⟩
         ·
          rintro k2 hI1
          refine r_seq ?_
          refine r_region ?_
          refine o_q _ rfl rfl rfl (v_lss rfl rfl rfl) ?_
          refine o_nil ?_
          with_reducible refine r_then ?_
          refine r_seq ?_
          refine r_condd rfl (fun hc50 => ?_) (fun hc50 => ?_)
          ·
           refine r_skip ?_
           with_reducible refine r_then ?_
           refine r_seq ?_
           refine r_block ?_
           refine r_seq ?_
           refine r_region ?_
           refine o_q _ rfl rfl rfl (v_indexAddrSn rfl Try.underlying24 inf47 rfl rfl rfl (by omega) rfl) ?_
           refine o_q _ rfl rfl rfl (v_loadEN rfl Try.underlying47 rfl inf47 rfl (by omega) rfl rfl rfl) ?_
           refine o_alloc rfl inf47 rfl rfl rfl rfl rfl (fun b7 => ?_)
           refine o_st rfl inf47 rfl rfl rfl rfl rfl rfl rfl rfl ?_
           refine o_nil ?_
           with_reducible refine r_then ?_
           refine r_region ?_
           refine o_q _ rfl rfl rfl (v_fieldAddr rfl Try.underlying47 inf42 rfl rfl rfl rfl) ?_
           refine o_q _ rfl rfl rfl (v_ldN rfl Try.underlying42 rfl inf42 rfl rfl rfl) ?_
           refine o_test rfl rfl rfl (OpQ.fn (isSpan_v _ _ _ _) rfl rfl SubRC.sub) (fun h55 => ?_) (fun h55 => ?_)
           all_goals
            refine o_q _ rfl rfl rfl (v_move rfl rfl) ?_
            first | refine o_gn rfl rfl rfl rfl ?_ | refine o_g _ rfl rfl rfl rfl (v_fieldAddr rfl Try.underlying47 inf3 rfl rfl rfl rfl) ?_
            first | refine o_gn rfl rfl rfl rfl ?_ | refine o_g _ rfl rfl rfl rfl (v_ld1 rfl Try.underlying3 rfl rfl rfl) ?_
            first | refine o_gn rfl rfl rfl rfl ?_ | refine o_gtest rfl rfl rfl rfl (OpQ.fn (within_v _ _ _) rfl rfl SubRC.sub) (fun h59 => ?_) (fun h59 => ?_)
            all_goals
             first | refine o_q _ rfl rfl rfl (v_pick_t rfl rfl rfl) ?_ | refine o_q _ rfl rfl rfl (v_pick_f rfl rfl rfl) ?_
             first | refine o_q _ rfl rfl rfl (OpQ.fn (ask_t _) rfl rfl SubRC.sub) ?_ | refine o_fnx (ask_f _) rfl rfl rfl SubRC.sub ?_
             repeat (first | with_reducible refine r_then_panic ?_ | with_reducible refine r_in_panic ?_)
             try (refine r_panx ?_; (obtain ⟨g1, g2, g3, g4, g5, g6⟩ := g; first | omega | exact absurd rfl (by assumption) | exact norain (by assumption) g4 | (have g9 := g5 k1 (by omega); omega) | (have g9 := g6 k2 (by omega); omega)))
             all_goals
              refine o_nil ?_
              with_reducible refine r_in_normal ?_; refine r_then ?_
              refine r_region ?_
              refine o_q _ rfl rfl rfl (v_add rfl rfl rfl (by omega)) ?_
              refine o_q _ rfl rfl rfl (v_move rfl rfl) ?_
              refine o_nil ?_
              with_reducible refine r_then ?_
              refine r_next (k2 + 1) ?_ ?_ ?_
              ·
               exact r_here (by repeat (first | exact FSub.nil | refine FSub.cons rfl ?_)) SelMC.sel SubRC.sub
              ·
               exact ⟨by omega, Foot4.all_step hI1.2 ⟨by assumption, by assumption⟩⟩
              ·
               omega
          ·
           refine r_exit ?_
           with_reducible refine r_then_exit ?_; refine r_then_exit ?_; refine r_in_here ?_; refine r_then ?_
           refine r_seq ?_
           refine r_region ?_
           refine o_test rfl rfl rfl (OpQ.asTest (v_move rfl rfl)) (fun h63 => ?_) (fun h63 => ?_)
           all_goals
            first | refine o_q _ rfl rfl rfl (OpQ.fn (ask_t _) rfl rfl SubRC.sub) ?_ | refine o_fnx (ask_f _) rfl rfl rfl SubRC.sub ?_
            repeat (first | with_reducible refine r_then_panic ?_)
            try (refine r_panx ?_; (obtain ⟨g1, g2, g3, g4, g5, g6⟩ := g; first | omega | exact absurd rfl (by assumption) | exact norain (by assumption) g4 | (have g9 := g5 k1 (by omega); omega) | (have g9 := g6 k2 (by omega); omega)))
            all_goals
             refine o_nil ?_
             with_reducible refine r_then ?_
             refine r_seq ?_
             refine r_region ?_
             refine o_q _ rfl rfl rfl (v_ldW rfl Try.underlying26 rfl inf26 rfl rfl) ?_
             refine o_q _ rfl rfl rfl (v_bS rfl Try.underlying126 inf126 plt126 rfl rfl rfl (by repeat (first | exact trivial | refine ⟨rfl, ?_⟩)) (by rfl)) ?_
             refine o_boxA rfl rfl rfl rfl rfl (fun b67 => ?_)
             refine o_q _ rfl rfl rfl (v_assign rfl rfl) ?_
             refine o_nil ?_
             with_reducible refine r_then ?_
             refine r_ret ?_
             refine Imp.sealB b67 ?_
             exact r_retr (Rd.tmp rfl rfl) (isP_pt b67) SelMC.sel (fun _ h => h)
set_option maxHeartbeats 4000000 in
theorem open_x (F : Work) (ro ho : Option Addr) (rc hc : Nat) (v : Bool) (hr : F.rain.length ≤ 40) (hh : F.heaps.length ≤ 40) (hx : chk F v ≠ 0) : FnX Try.prog 34 [valF F ro rc ho hc, .bool v] [rowD ro 2 encS F.rain, rowD ho 3 encH F.heaps] (.iface 123 (i64 (chk F v))) := by
 refine FnX.intro Try.call34 Try.func34 rfl Try.ntmps34 rfl ?_
 intro W M Rf
 refine r_seq ?_
 refine r_region ?_
 refine o_boxA rfl rfl rfl rfl rfl (fun b2 => ?_)
 refine o_q _ rfl rfl rfl (v_assign rfl rfl) ?_
 refine o_nil ?_
 with_reducible refine r_then ?_
 refine r_seq ?_
 refine r_region ?_
 refine o_q _ rfl rfl rfl (v_fieldAddr rfl Try.underlying26 inf22 rfl rfl rfl rfl) ?_
 refine o_q _ rfl rfl rfl (v_ld1 rfl Try.underlying22 rfl rfl rfl) ?_
 refine o_q _ rfl rfl rfl (v_len rfl rfl Try.underlying22 rfl) ?_
 refine o_test rfl rfl rfl (OpQ.fn (within_v _ _ _) rfl rfl SubRC.sub) (fun h11 => ?_) (fun h11 => ?_)
 all_goals
  refine o_q _ rfl rfl rfl (v_move rfl rfl) ?_
  first | refine o_gn rfl rfl rfl rfl ?_ | refine o_g _ rfl rfl rfl rfl (v_fieldAddr rfl Try.underlying26 inf3 rfl rfl rfl rfl) ?_
  first | refine o_gn rfl rfl rfl rfl ?_ | refine o_g _ rfl rfl rfl rfl (v_ld1 rfl Try.underlying3 rfl rfl rfl) ?_
  first | refine o_gn rfl rfl rfl rfl ?_ | refine o_gtest rfl rfl rfl rfl (OpQ.fn (within_v _ _ _) rfl rfl SubRC.sub) (fun h15 => ?_) (fun h15 => ?_)
  all_goals
   first | refine o_q _ rfl rfl rfl (v_pick_t rfl rfl rfl) ?_ | refine o_q _ rfl rfl rfl (v_pick_f rfl rfl rfl) ?_
   refine o_q _ rfl rfl rfl (v_move rfl rfl) ?_
   first | refine o_gn rfl rfl rfl rfl ?_ | refine o_g _ rfl rfl rfl rfl (v_fieldAddr rfl Try.underlying26 inf24 rfl rfl rfl rfl) ?_
   first | refine o_gn rfl rfl rfl rfl ?_ | refine o_g _ rfl rfl rfl rfl (v_ld1 rfl Try.underlying24 rfl rfl rfl) ?_
   first | refine o_gn rfl rfl rfl rfl ?_ | refine o_g _ rfl rfl rfl rfl (v_len rfl rfl Try.underlying24 rfl) ?_
   first | refine o_gn rfl rfl rfl rfl ?_ | refine o_gtest rfl rfl rfl rfl (v_leq rfl rfl rfl) (fun h21 => ?_) (fun h21 => ?_)
   all_goals
    first | refine o_q _ rfl rfl rfl (v_pick_t rfl rfl rfl) ?_ | refine o_q _ rfl rfl rfl (v_pick_f rfl rfl rfl) ?_
    first | refine o_q _ rfl rfl rfl (OpQ.fn (ask_t _) rfl rfl SubRC.sub) ?_ | refine o_fnx (ask_f _) rfl rfl rfl SubRC.sub ?_
    repeat (first | with_reducible refine r_then_panic ?_)
    try (first | exact r_retx2 (chk_2 (by assumption) ⟨by omega, by omega, by omega, goodrain (by assumption), fun j hj => hI0.2 j (by omega), fun j hj => hI1.2 j (by omega)⟩).symm SelMC.sel SubRC.sub | exact r_retx2 (chk_1 (fun g => by obtain ⟨g1, g2, g3, g4, g5, g6⟩ := g; first | omega | exact absurd rfl (by assumption) | exact norain (by assumption) g4 | (have g9 := g5 k1 (by omega); omega) | (have g9 := g6 k2 (by omega); omega))).symm SelMC.sel SubRC.sub)
    all_goals
     refine o_nil ?_
     with_reducible refine r_then ?_
     refine r_seq ?_
     refine r_region ?_
     refine o_q _ rfl rfl rfl (v_fieldAddr rfl Try.underlying26 inf22 rfl rfl rfl rfl) ?_
     refine o_q _ rfl rfl rfl (v_ld1 rfl Try.underlying22 rfl rfl rfl) ?_
     refine o_test rfl rfl rfl (OpQ.fn (spans_c (fun s => ¬ SpanOk s 10) F.rain ro rc 58 [] [] (by omega) (fun k _ => open1_v _)) rfl rfl SubRC.sub) (fun h26 => ?_) (fun h26 => ?_)
     all_goals
      refine o_q _ rfl rfl rfl (v_not rfl rfl) ?_
      first | refine o_q _ rfl rfl rfl (OpQ.fn (ask_t _) rfl rfl SubRC.sub) ?_ | refine o_fnx (ask_f _) rfl rfl rfl SubRC.sub ?_
      repeat (first | with_reducible refine r_then_panic ?_)
      try (first | exact r_retx2 (chk_2 (by assumption) ⟨by omega, by omega, by omega, goodrain (by assumption), fun j hj => hI0.2 j (by omega), fun j hj => hI1.2 j (by omega)⟩).symm SelMC.sel SubRC.sub | exact r_retx2 (chk_1 (fun g => by obtain ⟨g1, g2, g3, g4, g5, g6⟩ := g; first | omega | exact absurd rfl (by assumption) | exact norain (by assumption) g4 | (have g9 := g5 k1 (by omega); omega) | (have g9 := g6 k2 (by omega); omega))).symm SelMC.sel SubRC.sub)
      all_goals
       refine o_nil ?_
       with_reducible refine r_then ?_
       refine r_seq ?_
       refine r_seq ?_
       refine r_region ?_
       refine o_q _ rfl rfl rfl (v_move rfl rfl) ?_
       refine o_nil ?_
       with_reducible refine r_then ?_
       refine r_block ?_
       refine r_loop (ι := Nat) (fun k1 => k1 ≤ 3 ∧ ∀ j, j < k1 → (0 ≤ F.lim.at j ∧ F.lim.at j ≤ 60) ∧ (0 ≤ F.dr.at j ∧ F.dr.at j ≤ 10)) (fun k1 => [(1, .bool v), (2, pt b2 0), (29, i64 k1)]) (fun k1 => bx b2 26 (cellsF F ro rc ho hc) :: M) (fun k1 => [rowD ro 2 encS F.rain, rowD ho 3 encH F.heaps] ++ Rf) (fun k1 => 3 - k1) 0 ?_ ?_ ?_
       ·
        exact r_here (by repeat (first | exact FSub.nil | refine FSub.cons rfl ?_)) SelMC.sel SubRC.sub
       ·
        exact ⟨by omega, fun j hj => absurd hj (by omega)⟩
       ·
        rintro k1 hI0
        refine r_seq ?_
        refine r_region ?_
        refine o_q _ rfl rfl rfl (v_lss rfl rfl rfl) ?_
        refine o_nil ?_
        with_reducible refine r_then ?_
        refine r_seq ?_
        refine r_condd rfl (fun hc30 => ?_) (fun hc30 => ?_)
        ·
         refine r_skip ?_
         with_reducible refine r_then ?_
         refine r_seq ?_
         refine r_block ?_
         refine r_seq ?_
         refine r_region ?_
         refine o_q _ rfl rfl rfl (v_move rfl rfl) ?_
         refine o_q _ rfl rfl rfl (v_assign rfl rfl) ?_
         refine o_nil ?_
         with_reducible refine r_then ?_
         refine r_region ?_
         refine o_q _ rfl rfl rfl (v_move rfl rfl) ?_
         refine o_q _ rfl rfl rfl (v_fieldAddr rfl Try.underlying26 inf23 rfl rfl rfl rfl) ?_
         refine o_q _ rfl rfl rfl (v_indexAddrAn rfl Try.underlying23 inf3 rfl rfl (by omega)) ?_
         refine o_q _ rfl rfl rfl (v_ld1 rfl Try.underlying3 rfl rfl (F_limn (by omega))) ?_
         refine o_test rfl rfl rfl (OpQ.fn (within_v _ _ _) rfl rfl SubRC.sub) (fun h36 => ?_) (fun h36 => ?_)
         all_goals
          refine o_q _ rfl rfl rfl (v_move rfl rfl) ?_
          first | refine o_gn rfl rfl rfl rfl ?_ | refine o_g _ rfl rfl rfl rfl (v_move rfl rfl) ?_
          first | refine o_gn rfl rfl rfl rfl ?_ | refine o_g _ rfl rfl rfl rfl (v_fieldAddr rfl Try.underlying26 inf23 rfl rfl rfl rfl) ?_
          first | refine o_gn rfl rfl rfl rfl ?_ | refine o_g _ rfl rfl rfl rfl (v_indexAddrAn rfl Try.underlying23 inf3 rfl rfl (by omega)) ?_
          first | refine o_gn rfl rfl rfl rfl ?_ | refine o_g _ rfl rfl rfl rfl (v_ld1 rfl Try.underlying3 rfl rfl (F_drn (by omega))) ?_
          first | refine o_gn rfl rfl rfl rfl ?_ | refine o_gtest rfl rfl rfl rfl (OpQ.fn (within_v _ _ _) rfl rfl SubRC.sub) (fun h42 => ?_) (fun h42 => ?_)
          all_goals
           first | refine o_q _ rfl rfl rfl (v_pick_t rfl rfl rfl) ?_ | refine o_q _ rfl rfl rfl (v_pick_f rfl rfl rfl) ?_
           first | refine o_q _ rfl rfl rfl (OpQ.fn (ask_t _) rfl rfl SubRC.sub) ?_ | refine o_fnx (ask_f _) rfl rfl rfl SubRC.sub ?_
           repeat (first | with_reducible refine r_then_panic ?_ | with_reducible refine r_in_panic ?_)
           try (first | exact r_retx2 (chk_2 (by assumption) ⟨by omega, by omega, by omega, goodrain (by assumption), fun j hj => hI0.2 j (by omega), fun j hj => hI1.2 j (by omega)⟩).symm SelMC.sel SubRC.sub | exact r_retx2 (chk_1 (fun g => by obtain ⟨g1, g2, g3, g4, g5, g6⟩ := g; first | omega | exact absurd rfl (by assumption) | exact norain (by assumption) g4 | (have g9 := g5 k1 (by omega); omega) | (have g9 := g6 k2 (by omega); omega))).symm SelMC.sel SubRC.sub)
           all_goals
            refine o_nil ?_
            with_reducible refine r_in_normal ?_; refine r_then ?_
            refine r_region ?_
            refine o_q _ rfl rfl rfl (v_add rfl rfl rfl (by omega)) ?_
            refine o_q _ rfl rfl rfl (v_move rfl rfl) ?_
            refine o_nil ?_
            with_reducible refine r_then ?_
            refine r_next (k1 + 1) ?_ ?_ ?_
            ·
             exact r_here (by repeat (first | exact FSub.nil | refine FSub.cons rfl ?_)) SelMC.sel SubRC.sub
            ·
             exact ⟨by omega, Foot4.all_step hI0.2 ⟨by assumption, by assumption⟩⟩
            ·
             omega
        ·
         refine r_exit ?_
         with_reducible refine r_then_exit ?_; refine r_then_exit ?_; refine r_in_here ?_; refine r_then ?_
         refine r_seq ?_
         refine r_seq ?_
         refine r_region ?_
         refine o_q _ rfl rfl rfl (v_fieldAddr rfl Try.underlying26 inf24 rfl rfl rfl rfl) ?_
         refine o_q _ rfl rfl rfl (v_ld1 rfl Try.underlying24 rfl rfl rfl) ?_
         refine o_q _ rfl rfl rfl (v_len rfl rfl Try.underlying24 rfl) ?_
         refine o_q _ rfl rfl rfl (v_move rfl rfl) ?_
         refine o_nil ?_
         with_reducible refine r_then ?_
         refine r_block ?_
         refine r_loop (ι := Nat) (fun k2 => k2 ≤ F.heaps.length ∧ ∀ j, j < k2 → (0 ≤ (F.heaps.getD j default).lo ∧ (F.heaps.getD j default).lo ≤ (F.heaps.getD j default).hi ∧ (F.heaps.getD j default).hi ≤ 60) ∧ (0 ≤ (F.heaps.getD j default).sods ∧ (F.heaps.getD j default).sods ≤ 500)) (fun k2 => [(1, .bool v), (2, pt b2 0), (47, .slice ho F.heaps.length hc), (48, i64 F.heaps.length), (49, i64 k2)]) (fun k2 => bx b2 26 (cellsF F ro rc ho hc) :: M) (fun k2 => [rowD ro 2 encS F.rain, rowD ho 3 encH F.heaps] ++ Rf) (fun k2 => F.heaps.length - k2) 0 ?_ ?_ ?_
         ·
          exact r_here (by repeat (first | exact FSub.nil | refine FSub.cons rfl ?_)) SelMC.sel SubRC.sub
         ·
          exact ⟨by omega, fun j hj => absurd hj (by omega)⟩
         ·
          rintro k2 hI1
          refine r_seq ?_
          refine r_region ?_
          refine o_q _ rfl rfl rfl (v_lss rfl rfl rfl) ?_
          refine o_nil ?_
          with_reducible refine r_then ?_
          refine r_seq ?_
          refine r_condd rfl (fun hc50 => ?_) (fun hc50 => ?_)
          ·
           refine r_skip ?_
           with_reducible refine r_then ?_
           refine r_seq ?_
           refine r_block ?_
           refine r_seq ?_
           refine r_region ?_
           refine o_q _ rfl rfl rfl (v_indexAddrSn rfl Try.underlying24 inf47 rfl rfl rfl (by omega) rfl) ?_
           refine o_q _ rfl rfl rfl (v_loadEN rfl Try.underlying47 rfl inf47 rfl (by omega) rfl rfl rfl) ?_
           refine o_alloc rfl inf47 rfl rfl rfl rfl rfl (fun b7 => ?_)
           refine o_st rfl inf47 rfl rfl rfl rfl rfl rfl rfl rfl ?_
           refine o_nil ?_
           with_reducible refine r_then ?_
           refine r_region ?_
           refine o_q _ rfl rfl rfl (v_fieldAddr rfl Try.underlying47 inf42 rfl rfl rfl rfl) ?_
           refine o_q _ rfl rfl rfl (v_ldN rfl Try.underlying42 rfl inf42 rfl rfl rfl) ?_
           refine o_test rfl rfl rfl (OpQ.fn (isSpan_v _ _ _ _) rfl rfl SubRC.sub) (fun h55 => ?_) (fun h55 => ?_)
           all_goals
            refine o_q _ rfl rfl rfl (v_move rfl rfl) ?_
            first | refine o_gn rfl rfl rfl rfl ?_ | refine o_g _ rfl rfl rfl rfl (v_fieldAddr rfl Try.underlying47 inf3 rfl rfl rfl rfl) ?_
            first | refine o_gn rfl rfl rfl rfl ?_ | refine o_g _ rfl rfl rfl rfl (v_ld1 rfl Try.underlying3 rfl rfl rfl) ?_
            first | refine o_gn rfl rfl rfl rfl ?_ | refine o_gtest rfl rfl rfl rfl (OpQ.fn (within_v _ _ _) rfl rfl SubRC.sub) (fun h59 => ?_) (fun h59 => ?_)
            all_goals
             first | refine o_q _ rfl rfl rfl (v_pick_t rfl rfl rfl) ?_ | refine o_q _ rfl rfl rfl (v_pick_f rfl rfl rfl) ?_
             first | refine o_q _ rfl rfl rfl (OpQ.fn (ask_t _) rfl rfl SubRC.sub) ?_ | refine o_fnx (ask_f _) rfl rfl rfl SubRC.sub ?_
             repeat (first | with_reducible refine r_then_panic ?_ | with_reducible refine r_in_panic ?_)
             try (first | exact r_retx2 (chk_2 (by assumption) ⟨by omega, by omega, by omega, goodrain (by assumption), fun j hj => hI0.2 j (by omega), fun j hj => hI1.2 j (by omega)⟩).symm SelMC.sel SubRC.sub | exact r_retx2 (chk_1 (fun g => by obtain ⟨g1, g2, g3, g4, g5, g6⟩ := g; first | omega | exact absurd rfl (by assumption) | exact norain (by assumption) g4 | (have g9 := g5 k1 (by omega); omega) | (have g9 := g6 k2 (by omega); omega))).symm SelMC.sel SubRC.sub)
             all_goals
              refine o_nil ?_
              with_reducible refine r_in_normal ?_; refine r_then ?_
              refine r_region ?_
              refine o_q _ rfl rfl rfl (v_add rfl rfl rfl (by omega)) ?_
              refine o_q _ rfl rfl rfl (v_move rfl rfl) ?_
              refine o_nil ?_
              with_reducible refine r_then ?_
              refine r_next (k2 + 1) ?_ ?_ ?_
              ·
               exact r_here (by repeat (first | exact FSub.nil | refine FSub.cons rfl ?_)) SelMC.sel SubRC.sub
              ·
               exact ⟨by omega, Foot4.all_step hI1.2 ⟨by assumption, by assumption⟩⟩
              ·
               omega
          ·
           refine r_exit ?_
           with_reducible refine r_then_exit ?_; refine r_then_exit ?_; refine r_in_here ?_; refine r_then ?_
           refine r_seq ?_
           refine r_region ?_
           refine o_test rfl rfl rfl (OpQ.asTest (v_move rfl rfl)) (fun h63 => ?_) (fun h63 => ?_)
           all_goals
            first | refine o_q _ rfl rfl rfl (OpQ.fn (ask_t _) rfl rfl SubRC.sub) ?_ | refine o_fnx (ask_f _) rfl rfl rfl SubRC.sub ?_
            repeat (first | with_reducible refine r_then_panic ?_)
            try (first | exact r_retx2 (chk_2 (by assumption) ⟨by omega, by omega, by omega, goodrain (by assumption), fun j hj => hI0.2 j (by omega), fun j hj => hI1.2 j (by omega)⟩).symm SelMC.sel SubRC.sub | exact r_retx2 (chk_1 (fun g => by obtain ⟨g1, g2, g3, g4, g5, g6⟩ := g; first | omega | exact absurd rfl (by assumption) | exact norain (by assumption) g4 | (have g9 := g5 k1 (by omega); omega) | (have g9 := g6 k2 (by omega); omega))).symm SelMC.sel SubRC.sub)
            all_goals
             refine o_nil ?_
             with_reducible refine r_then ?_
             refine r_seq ?_
             refine r_region ?_
             refine o_q _ rfl rfl rfl (v_ldW rfl Try.underlying26 rfl inf26 rfl rfl) ?_
             refine o_q _ rfl rfl rfl (v_bS rfl Try.underlying126 inf126 plt126 rfl rfl rfl (by repeat (first | exact trivial | refine ⟨rfl, ?_⟩)) (by rfl)) ?_
             refine o_boxA rfl rfl rfl rfl rfl (fun b67 => ?_)
             refine o_q _ rfl rfl rfl (v_assign rfl rfl) ?_
             refine o_nil ?_
             with_reducible refine r_then ?_
             refine r_ret ?_
             exfalso
             apply hx
             exact chk_0 (by assumption) ⟨by omega, by omega, by omega, goodrain (by assumption), fun j hj => hI0.2 j (by omega), fun j hj => hI1.2 j (by omega)⟩
end Go.Proofs.Ytpndeonmmcaikaa.FootW


namespace Go.Proofs.Ytpndeonmmcaikaa.FootW
open Go.G Foot4
set_option maxRecDepth 1000000
attribute [local irreducible] G.ParO G.Fin
theorem canF_iff {sel : Int → Int → Int} {F : Work} {heap : Nat} {p : T3} {k : Nat} (h : ¬ p.at k < 0) : wetF sel F heap p (p.at k).toNat ≤ F.lim.at k ↔ canF sel F heap p k := ⟨Or.inr, fun x => x.resolve_left h⟩
theorem keptF_not {sel : Int → Int → Int} {F : Work} {heap : Nat} {p : T3} {k : Nat} (h : ¬ canF sel F heap p k) (hk : k < 3) : ¬ keptF sel F heap p := by
  rintro ⟨x, y, z⟩
  obtain rfl | rfl | rfl : k = 0 ∨ k = 1 ∨ k = 2 := by omega
  · exact h x
  · exact h y
  · exact h z
set_option maxHeartbeats 4000000 in
theorem wet_v (t : Tr Try.prog "bogworks/foot.of") (F : Work) (ro ho : Option Addr) (rc hc : Nat) (fb : Nat) (heap : Int) (a b c : Int) (y : Int) (h0 : 0 ≤ heap) (h1 : heap < F.heaps.length) (hb : Bnd F) (hy : 0 ≤ y ∧ y ≤ (F.rain.length : Int)) : FnV Try.prog 69 [pt fb 0, i64 heap, .agg #[i64 a, i64 b, i64 c], i64 y, t.i] [boxF fb 126 (cellsF F ro rc ho hc), rowD ro 2 encS F.rain, rowD ho 3 encH F.heaps] (i64 (wetF t.sel F heap.toNat ⟨a, b, c⟩ y.toNat)) := by
 have hlen := hb.len
 refine FnV.intro Try.call69 Try.func69 rfl Try.ntmps69 rfl ?_
 intro W M Rf
 refine r_seq ?_
 refine r_region ?_
 refine o_boxA rfl rfl rfl rfl rfl (fun b7 => ?_)
 refine o_q _ rfl rfl rfl (v_assign rfl rfl) ?_
 refine o_nil ?_
 with_reducible refine r_then ?_
 refine r_seq ?_
 refine r_region_q mixed (by kernel_rfl) ?_
 refine q_q _ rfl rfl rfl (v_move rfl rfl) ?_
 refine q_q _ rfl rfl rfl (v_move rfl rfl) ?_
 refine q_q _ rfl rfl rfl (v_nilCheck rfl rfl) ?_
 refine q_q _ rfl rfl rfl (v_fieldAddr rfl Try.underlying126 inf26 rfl rfl rfl rfl) ?_
 refine q_q _ rfl rfl rfl (v_fieldAddr rfl Try.underlying26 inf24 rfl rfl rfl rfl) ?_
 refine q_q _ rfl rfl rfl (v_lf1 rfl Try.underlying24 rfl rfl rfl) ?_
 refine q_q _ rfl rfl rfl (v_move rfl rfl) ?_
 refine q_q _ rfl rfl rfl (v_indexAddrS rfl Try.underlying24 inf47 rfl rfl rfl (by omega) (by omega) rfl) ?_
 refine q_q _ rfl rfl rfl (v_fieldAddr rfl Try.underlying47 inf42 rfl rfl rfl rfl) ?_
 refine q_q _ rfl rfl rfl (v_loadEN rfl Try.underlying42 rfl inf42 rfl (by omega) rfl rfl rfl) ?_
 refine q_q _ rfl rfl rfl (v_makeFunc rfl rfl rfl) ?_
 refine q_q _ rfl rfl rfl (v_nilCheckM (t.hm) rfl rfl) ?_
 refine q_q _ rfl rfl rfl (v_move rfl rfl) ?_
 refine q_q _ rfl rfl rfl (OpQ.invoke (t.hv _ _ (by have := hb.heap heap.toNat; omega) (by have := hb.heap heap.toNat; omega) (by have := hb.heap heap.toNat; omega) (by have := hb.heap heap.toNat; omega)) t.hm rfl rfl rfl rfl SubRC.sub) ?_
 refine q_q _ rfl rfl rfl (v_assign rfl rfl) ?_
 refine q_q _ rfl rfl rfl (v_assign rfl rfl) ?_
 refine q_nil ?_
 with_reducible refine r_then ?_
 refine r_seq ?_
 refine r_region ?_
 refine o_q _ rfl rfl rfl (v_assign rfl rfl) ?_
 refine o_nil ?_
 with_reducible refine r_then ?_
 refine r_seq ?_
 refine r_seq ?_
 refine r_region ?_
 refine o_q _ rfl rfl rfl (v_move rfl rfl) ?_
 refine o_q _ rfl rfl rfl (v_move rfl rfl) ?_
 refine o_nil ?_
 with_reducible refine r_then ?_
 refine r_block ?_
 refine r_loop (ι := Nat) (fun d => d ≤ y.toNat ∧ (wetS t.sel F heap.toNat ⟨a, b, c⟩ d).2 ≠ 3) (fun d => [(0, pt fb 0), (4, t.i), (7, pt b7 0), (13, .func (.func 76) #[] #[]), (29, i64 y), (11, i64 (wetF t.sel F heap.toNat ⟨a, b, c⟩ d)), (12, i64 (wetS t.sel F heap.toNat ⟨a, b, c⟩ d).2), (30, i64 d)]) (fun d => bx b7 55 [i64 a, i64 b, i64 c] :: M) (fun d => [boxF fb 126 (cellsF F ro rc ho hc), rowD ro 2 encS F.rain, rowD ho 3 encH F.heaps] ++ Rf) (fun d => y.toNat - d) 0 ?_ ?_ ?_
 ·
  exact r_here (by repeat (first | exact FSub.nil | refine FSub.cons rfl ?_)) SelMC.sel SubRC.sub
 ·
  exact ⟨Nat.zero_le _, by simp [wetS]⟩
 ·
  rintro d hI0
  refine r_seq ?_
  refine r_region ?_
  refine o_q _ rfl rfl rfl (v_lss rfl rfl rfl) ?_
  refine o_nil ?_
  with_reducible refine r_then ?_
  refine r_seq ?_
  refine r_condd rfl (fun hc31 => ?_) (fun hc31 => ?_)
  ·
   refine r_skip ?_
   with_reducible refine r_then ?_
   refine r_seq ?_
   refine r_block ?_
   refine r_seq ?_
   refine r_region ?_
   refine o_q _ rfl rfl rfl (v_move rfl rfl) ?_
   refine o_q _ rfl rfl rfl (v_assign rfl rfl) ?_
   refine o_nil ?_
   with_reducible refine r_then ?_
   refine r_seq ?_
   refine r_block ?_
   refine r_loop (ι := Nat) (fun j => j ≤ 3 ∧ adv ⟨a, b, c⟩ d (wetS t.sel F heap.toNat ⟨a, b, c⟩ d).2 = adv ⟨a, b, c⟩ d j) (fun j => [(0, pt fb 0), (4, t.i), (7, pt b7 0), (13, .func (.func 76) #[] #[]), (29, i64 y), (11, i64 (wetF t.sel F heap.toNat ⟨a, b, c⟩ d)), (12, i64 j), (30, i64 d), (14, i64 d)]) (fun j => bx b7 55 [i64 a, i64 b, i64 c] :: M) (fun j => [boxF fb 126 (cellsF F ro rc ho hc), rowD ro 2 encS F.rain, rowD ho 3 encH F.heaps] ++ Rf) (fun j => 3 - j) (wetS t.sel F heap.toNat ⟨a, b, c⟩ d).2 ?_ ?_ ?_
   ·
    exact r_here (by repeat (first | exact FSub.nil | refine FSub.cons rfl ?_)) SelMC.sel SubRC.sub
   ·
    exact ⟨wetS_le _ _ _ _ _, rfl⟩
   ·
    rintro j hI1
    refine r_seq ?_
    refine r_seq ?_
    refine r_region ?_
    refine o_q _ rfl rfl rfl (v_move rfl rfl) ?_
    refine o_test rfl rfl rfl (v_lss rfl rfl rfl) (fun h34 => ?_) (fun h34 => ?_)
    all_goals
     refine o_q _ rfl rfl rfl (v_move rfl rfl) ?_
     first | refine o_gn rfl rfl rfl rfl ?_ | refine o_g _ rfl rfl rfl rfl (v_move rfl rfl) ?_
     first | refine o_gn rfl rfl rfl rfl ?_ | refine o_g _ rfl rfl rfl rfl (v_indexAddrAn rfl Try.underlying55 inf3 rfl rfl (by omega)) ?_
     first | refine o_gn rfl rfl rfl rfl ?_ | refine o_g _ rfl rfl rfl rfl (v_ld1 rfl Try.underlying3 rfl rfl (t3_atn (by omega))) ?_
     first | refine o_gn rfl rfl rfl rfl ?_ | refine o_gtest rfl rfl rfl rfl (v_geq rfl rfl rfl) (fun h39 => ?_) (fun h39 => ?_)
     all_goals
      first | refine o_q _ rfl rfl rfl (v_pick_t rfl rfl rfl) ?_ | refine o_q _ rfl rfl rfl (v_pick_f rfl rfl rfl) ?_
      refine o_q _ rfl rfl rfl (v_move rfl rfl) ?_
      first | refine o_gn rfl rfl rfl rfl ?_ | refine o_g _ rfl rfl rfl rfl (v_move rfl rfl) ?_
      first | refine o_gn rfl rfl rfl rfl ?_ | refine o_g _ rfl rfl rfl rfl (v_indexAddrAn rfl Try.underlying55 inf3 rfl rfl (by omega)) ?_
      first | refine o_gn rfl rfl rfl rfl ?_ | refine o_g _ rfl rfl rfl rfl (v_ld1 rfl Try.underlying3 rfl rfl (t3_atn (by omega))) ?_
      first | refine o_gn rfl rfl rfl rfl ?_ | refine o_g _ rfl rfl rfl rfl (v_move rfl rfl) ?_
      first | refine o_gn rfl rfl rfl rfl ?_ | refine o_gtest rfl rfl rfl rfl (v_leq rfl rfl rfl) (fun h46 => ?_) (fun h46 => ?_)
      all_goals
       first | refine o_q _ rfl rfl rfl (v_pick_t rfl rfl rfl) ?_ | refine o_q _ rfl rfl rfl (v_pick_f rfl rfl rfl) ?_
       refine o_nil ?_
       with_reducible refine r_then ?_
       refine r_cond rfl (fun hc47 => ?_) (fun hc47 => ?_)
       ·
        first
        | (exfalso; revert hc47; decide)
        |
         skip
         refine r_skip ?_
         with_reducible refine r_then ?_
         refine r_block ?_
         refine r_region ?_
         refine o_q _ rfl rfl rfl (v_move rfl rfl) ?_
         refine o_q _ rfl rfl rfl (v_add rfl rfl rfl (by omega)) ?_
         refine o_q _ rfl rfl rfl (v_assign rfl rfl) ?_
         refine o_nil ?_
         with_reducible refine r_in_normal ?_; refine r_then ?_
         refine r_next (j + 1) ?_ ?_ ?_
         ·
          exact r_here (by repeat (first | exact FSub.nil | refine FSub.cons rfl ?_)) SelMC.sel SubRC.sub
         ·
          exact ⟨by omega, hI1.2.trans (adv_go (by omega))⟩
         ·
          omega
       ·
        first
        | (exfalso; revert hc47; decide)
        |
         skip
         refine r_exit ?_
         with_reducible refine r_then_exit ?_; refine r_then_exit ?_; refine r_in_here ?_; refine r_then ?_
         refine r_seq ?_
         refine r_seq ?_
         have hk : adv ⟨a, b, c⟩ d (wetS t.sel F heap.toNat ⟨a, b, c⟩ d).2 = j := hI1.2.trans (adv_stop (by omega))
         refine r_region ?_
         refine o_q _ rfl rfl rfl (v_move rfl rfl) ?_
         refine o_q _ rfl rfl rfl (v_eql rfl rfl rfl) ?_
         refine o_nil ?_
         with_reducible refine r_then ?_
         refine r_condd rfl (fun hc51 => ?_) (fun hc51 => ?_)
         ·
          first
          | (exfalso; omega)
          |
           skip
           refine r_seq ?_
           refine r_region ?_
           refine o_q _ rfl rfl rfl (v_move rfl rfl) ?_
           refine o_q _ rfl rfl rfl (v_assign rfl rfl) ?_
           refine o_nil ?_
           with_reducible refine r_then ?_
           refine r_ret ?_
           with_reducible refine r_then_ret ?_; refine r_in_ret ?_; refine r_then_ret ?_; refine r_then_ret ?_; refine r_in_ret ?_; refine r_then_ret ?_
           exact r_retv2 (Rd.tmp rfl rfl) (congrArg (Value.int .i64) (wetS_end (hk.trans (by omega)) _ (by omega)).symm) SelMC.sel SubRC.sub
         ·
          first
          | (exfalso; omega)
          |
           skip
           refine r_skip ?_
           with_reducible refine r_then ?_
           refine r_region_q mixed (by kernel_rfl) ?_
           refine q_q _ rfl rfl rfl (v_move rfl rfl) ?_
           refine q_q _ rfl rfl rfl (v_move rfl rfl) ?_
           refine q_q _ rfl rfl rfl (v_move rfl rfl) ?_
           refine q_q _ rfl rfl rfl (v_move rfl rfl) ?_
           refine q_q _ rfl rfl rfl (v_nilCheck rfl rfl) ?_
           refine q_q _ rfl rfl rfl (v_fieldAddr rfl Try.underlying126 inf26 rfl rfl rfl rfl) ?_
           refine q_q _ rfl rfl rfl (v_fieldAddr rfl Try.underlying26 inf22 rfl rfl rfl rfl) ?_
           refine q_q _ rfl rfl rfl (v_lf1 rfl Try.underlying22 rfl rfl rfl) ?_
           refine q_q _ rfl rfl rfl (v_move rfl rfl) ?_
           refine q_q _ rfl rfl rfl (v_indexAddrSn rfl Try.underlying22 inf42 rfl rfl rfl (by omega) rfl) ?_
           refine q_q _ rfl rfl rfl (v_loadEN rfl Try.underlying42 rfl inf42 rfl (by omega) rfl rfl rfl) ?_
           refine q_q _ rfl rfl rfl (v_makeFunc rfl rfl rfl) ?_
           refine q_q _ rfl rfl rfl (v_nilCheckM (t.hm) rfl rfl) ?_
           refine q_q _ rfl rfl rfl (v_move rfl rfl) ?_
           refine q_q _ rfl rfl rfl (OpQ.invoke (t.hv _ _ (by have := hb.rain d; omega) (by have := hb.rain d; omega) (by have := hb.rain d; omega) (by have := hb.rain d; omega)) t.hm rfl rfl rfl rfl SubRC.sub) ?_
           refine q_q _ rfl rfl rfl (v_move rfl rfl) ?_
           refine q_q _ rfl rfl rfl (v_move rfl rfl) ?_
           refine q_q _ rfl rfl rfl (v_nilCheck rfl rfl) ?_
           refine q_q _ rfl rfl rfl (v_fieldAddr rfl Try.underlying126 inf26 rfl rfl rfl rfl) ?_
           refine q_q _ rfl rfl rfl (v_fieldAddr rfl Try.underlying26 inf23 rfl rfl rfl rfl) ?_
           refine q_q _ rfl rfl rfl (v_indexAddrAn rfl Try.underlying23 inf3 rfl rfl (by omega)) ?_
           refine q_q _ rfl rfl rfl (v_lf1 rfl Try.underlying3 rfl rfl (F_drn (by omega))) ?_
           refine q_q _ rfl rfl rfl (OpQ.call (after_v _ _ _ (by have := wetS_bd t hb heap.toNat ⟨a, b, c⟩ d; have := hb.rain d; have := hb.dr j; have := hb.len; rcases t.hs (F.rain.getD d default).lo (F.rain.getD d default).hi with e | e <;> rw [e] <;> omega)) rfl [] [] rfl rfl rfl SubRC.sub) ?_
           refine q_q _ rfl rfl rfl (v_assign rfl rfl) ?_
           refine q_nil ?_
           with_reducible refine r_in_normal ?_; refine r_then ?_
           refine r_region ?_
           refine o_q _ rfl rfl rfl (v_add rfl rfl rfl (by omega)) ?_
           refine o_q _ rfl rfl rfl (v_move rfl rfl) ?_
           refine o_nil ?_
           with_reducible refine r_then ?_
           refine r_next (d + 1) ?_ ?_ ?_
           ·
            exact r_here (by repeat (first | exact FSub.nil | refine FSub.cons rfl ?_ | refine FSub.cons2 rfl (congrArg (Value.int .i64) (by first | omega | (unfold wetF; rw [wetS_next hk (by omega)]; rfl) | (rw [wetS_next hk (by omega)]))) ?_)) SelMC.sel SubRC.sub
           ·
            exact ⟨by omega, by rw [wetS_next hk (by omega)]; show j ≠ 3; omega⟩
           ·
            omega
  ·
   refine r_exit ?_
   with_reducible refine r_then_exit ?_; refine r_then_exit ?_; refine r_in_here ?_; refine r_then ?_
   refine r_seq ?_
   refine r_region ?_
   refine o_q _ rfl rfl rfl (v_move rfl rfl) ?_
   refine o_q _ rfl rfl rfl (v_assign rfl rfl) ?_
   refine o_nil ?_
   with_reducible refine r_then ?_
   refine r_ret ?_
   exact r_retv2 (Rd.tmp rfl rfl) (congrArg (fun z => Value.int .i64 (wetF t.sel F heap.toNat ⟨a, b, c⟩ z)) (by omega : d = y.toNat)) SelMC.sel SubRC.sub
set_option maxHeartbeats 4000000 in
theorem can_v (t : Tr Try.prog "bogworks/foot.of") (F : Work) (ro ho : Option Addr) (rc hc : Nat) (fb : Nat) (heap : Int) (a b c : Int) (k : Nat) (hk : k < 3) (h0 : 0 ≤ heap) (h1 : heap < F.heaps.length) (hb : Bnd F) (hd : (⟨a, b, c⟩ : T3).at k ≤ (F.rain.length : Int) - 1) : FnV Try.prog 42 [pt fb 0, i64 heap, .agg #[i64 a, i64 b, i64 c], i64 k, t.i] [boxF fb 126 (cellsF F ro rc ho hc), rowD ro 2 encS F.rain, rowD ho 3 encH F.heaps] (.bool (decide (canF t.sel F heap.toNat ⟨a, b, c⟩ k))) := by
 refine FnV.intro Try.call42 Try.func42 rfl Try.ntmps42 rfl ?_
 intro W M Rf
 refine r_seq ?_
 refine r_region ?_
 refine o_boxA rfl rfl rfl rfl rfl (fun b7 => ?_)
 refine o_q _ rfl rfl rfl (v_assign rfl rfl) ?_
 refine o_nil ?_
 with_reducible refine r_then ?_
 refine r_seq ?_
 refine r_seq ?_
 refine r_region ?_
 refine o_q _ rfl rfl rfl (v_move rfl rfl) ?_
 refine o_q _ rfl rfl rfl (v_indexAddrAn rfl Try.underlying55 inf3 rfl rfl (by omega)) ?_
 refine o_q _ rfl rfl rfl (v_ld1 rfl Try.underlying3 rfl rfl (t3_atn (by omega))) ?_
 refine o_q _ rfl rfl rfl (v_lss rfl rfl rfl) ?_
 refine o_nil ?_
 with_reducible refine r_then ?_
 refine r_condd rfl (fun hc15 => ?_) (fun hc15 => ?_)
 ·
  refine r_seq ?_
  refine r_region ?_
  refine o_q _ rfl rfl rfl (v_assign rfl rfl) ?_
  refine o_nil ?_
  with_reducible refine r_then ?_
  refine r_ret ?_
  with_reducible refine r_then_ret ?_
  exact r_retv2 (Rd.tmp rfl rfl) (congrArg Value.bool (decide_eq_true (Or.inl (by assumption))).symm) SelMC.sel SubRC.sub
 ·
  refine r_skip ?_
  with_reducible refine r_then ?_
  refine r_seq ?_
  refine r_region_q mixed (by kernel_rfl) ?_
  refine q_q _ rfl rfl rfl (v_move rfl rfl) ?_
  refine q_q _ rfl rfl rfl (v_move rfl rfl) ?_
  refine q_q _ rfl rfl rfl (v_ldW rfl Try.underlying55 rfl inf55 rfl rfl) ?_
  refine q_q _ rfl rfl rfl (v_move rfl rfl) ?_
  refine q_q _ rfl rfl rfl (v_indexAddrAn rfl Try.underlying55 inf3 rfl rfl (by omega)) ?_
  refine q_q _ rfl rfl rfl (v_ld1 rfl Try.underlying3 rfl rfl (t3_atn (by omega))) ?_
  refine q_q _ rfl rfl rfl (v_move rfl rfl) ?_
  refine q_q _ rfl rfl rfl (OpQ.fn (wet_v t F ro ho rc hc fb _ _ _ _ _ h0 h1 hb (by omega)) rfl rfl SubRC.sub) ?_
  refine q_q _ rfl rfl rfl (v_makeFunc rfl rfl rfl) ?_
  refine q_q _ rfl rfl rfl (v_assign rfl rfl) ?_
  refine q_nil ?_
  with_reducible refine r_then ?_
  refine r_seq ?_
  refine r_region ?_
  refine o_q _ rfl rfl rfl (v_move rfl rfl) ?_
  refine o_q _ rfl rfl rfl (v_move rfl rfl) ?_
  refine o_q _ rfl rfl rfl (v_move rfl rfl) ?_
  refine o_q _ rfl rfl rfl (v_nilCheck rfl rfl) ?_
  refine o_q _ rfl rfl rfl (v_fieldAddr rfl Try.underlying126 inf26 rfl rfl rfl rfl) ?_
  refine o_q _ rfl rfl rfl (v_fieldAddr rfl Try.underlying26 inf23 rfl rfl rfl rfl) ?_
  refine o_q _ rfl rfl rfl (v_indexAddrAn rfl Try.underlying23 inf3 rfl rfl (by omega)) ?_
  refine o_q _ rfl rfl rfl (v_lf1 rfl Try.underlying3 rfl rfl (F_limn (by omega))) ?_
  refine o_q _ rfl rfl rfl (OpQ.call (fits_v _ _) rfl [i64 (wetF t.sel F heap.toNat ⟨a, b, c⟩ ((⟨a, b, c⟩ : T3).at k).toNat)] [] rfl rfl rfl SubRC.sub) ?_
  refine o_q _ rfl rfl rfl (v_assign rfl rfl) ?_
  refine o_nil ?_
  with_reducible refine r_then ?_
  refine r_ret ?_
  exact r_retv2 (Rd.tmp rfl rfl) (congrArg Value.bool (decide_eq_decide.2 (canF_iff (by assumption)))) SelMC.sel SubRC.sub
set_option maxHeartbeats 4000000 in
theorem kept_fv (t : Tr Try.prog "bogworks/foot.of") (F : Work) (ro ho : Option Addr) (rc hc : Nat) (fb : Nat) (heap : Int) (a b c : Int) (h0 : 0 ≤ heap) (h1 : heap < F.heaps.length) (hb : Bnd F) (hd : ∀ k, k < 3 → (⟨a, b, c⟩ : T3).at k ≤ (F.rain.length : Int) - 1) : FnV Try.prog 45 [pt fb 0, i64 heap, .agg #[i64 a, i64 b, i64 c], t.i] [boxF fb 126 (cellsF F ro rc ho hc), rowD ro 2 encS F.rain, rowD ho 3 encH F.heaps] (.bool (decide (keptF t.sel F heap.toNat ⟨a, b, c⟩))) := by
 refine FnV.intro Try.call45 Try.func45 rfl Try.ntmps45 rfl ?_
 intro W M Rf
 refine r_seq ?_
 refine r_region ?_
 refine o_boxA rfl rfl rfl rfl rfl (fun b6 => ?_)
 refine o_q _ rfl rfl rfl (v_assign rfl rfl) ?_
 refine o_nil ?_
 with_reducible refine r_then ?_
 refine r_seq ?_
 refine r_seq ?_
 refine r_region ?_
 refine o_q _ rfl rfl rfl (v_move rfl rfl) ?_
 refine o_nil ?_
 with_reducible refine r_then ?_
 refine r_block ?_
 refine r_loop (ι := Nat) (fun k => k ≤ 3 ∧ ∀ j, j < k → canF t.sel F heap.toNat ⟨a, b, c⟩ j) (fun k => [(0, pt fb 0), (1, i64 heap), (3, t.i), (6, pt b6 0), (10, i64 k)]) (fun k => bx b6 55 [i64 a, i64 b, i64 c] :: M) (fun k => [boxF fb 126 (cellsF F ro rc ho hc), rowD ro 2 encS F.rain, rowD ho 3 encH F.heaps] ++ Rf) (fun k => 3 - k) 0 ?_ ?_ ?_
 ·
  exact r_here (by repeat (first | exact FSub.nil | refine FSub.cons rfl ?_)) SelMC.sel SubRC.sub
 ·
  exact ⟨by omega, fun j hj => absurd hj (by omega)⟩
 ·
  rintro k hI0
  refine r_seq ?_
  refine r_region ?_
  refine o_q _ rfl rfl rfl (v_lss rfl rfl rfl) ?_
  refine o_nil ?_
  with_reducible refine r_then ?_
  refine r_seq ?_
  refine r_condd rfl (fun hc11 => ?_) (fun hc11 => ?_)
  ·
   refine r_skip ?_
   with_reducible refine r_then ?_
   refine r_seq ?_
   refine r_block ?_
   refine r_seq ?_
   refine r_region ?_
   refine o_q _ rfl rfl rfl (v_move rfl rfl) ?_
   refine o_q _ rfl rfl rfl (v_assign rfl rfl) ?_
   refine o_nil ?_
   with_reducible refine r_then ?_
   refine r_seq ?_
   refine r_region ?_
   refine o_q _ rfl rfl rfl (v_move rfl rfl) ?_
   refine o_q _ rfl rfl rfl (v_move rfl rfl) ?_
   refine o_q _ rfl rfl rfl (v_ldW rfl Try.underlying55 rfl inf55 rfl rfl) ?_
   refine o_q _ rfl rfl rfl (v_move rfl rfl) ?_
   refine o_q _ rfl rfl rfl (v_move rfl rfl) ?_
   refine o_test rfl rfl rfl (OpQ.fn (can_v t F ro ho rc hc fb _ _ _ _ k (by omega) h0 h1 hb (hd k (by omega))) rfl rfl SubRC.sub) (fun h18 => ?_) (fun h18 => ?_)
   all_goals
    refine o_q _ rfl rfl rfl (v_not rfl rfl) ?_
    refine o_nil ?_
    with_reducible refine r_then ?_
    refine r_cond rfl (fun hc19 => ?_) (fun hc19 => ?_)
    ·
     first
     | (exfalso; revert hc19; decide)
     |
      skip
      refine r_seq ?_
      refine r_region ?_
      refine o_q _ rfl rfl rfl (v_assign rfl rfl) ?_
      refine o_nil ?_
      with_reducible refine r_then ?_
      refine r_ret ?_
      with_reducible refine r_in_ret ?_; refine r_then_ret ?_; refine r_then_ret ?_; refine r_in_ret ?_; refine r_then_ret ?_
      exact r_retv2 (Rd.tmp rfl rfl) (congrArg Value.bool (decide_eq_false (fun h => keptF_not (by assumption) (by omega) h)).symm) SelMC.sel SubRC.sub
    ·
     first
     | (exfalso; revert hc19; decide)
     |
      skip
      refine r_skip ?_
      with_reducible refine r_in_normal ?_; refine r_then ?_
      refine r_region ?_
      refine o_q _ rfl rfl rfl (v_add rfl rfl rfl (by omega)) ?_
      refine o_q _ rfl rfl rfl (v_move rfl rfl) ?_
      refine o_nil ?_
      with_reducible refine r_then ?_
      refine r_next (k + 1) ?_ ?_ ?_
      ·
       exact r_here (by repeat (first | exact FSub.nil | refine FSub.cons rfl ?_)) SelMC.sel SubRC.sub
      ·
       exact ⟨by omega, Foot4.all_step hI0.2 (by assumption)⟩
      ·
       omega
  ·
   refine r_exit ?_
   with_reducible refine r_then_exit ?_; refine r_then_exit ?_; refine r_in_here ?_; refine r_then ?_
   refine r_seq ?_
   refine r_region ?_
   refine o_q _ rfl rfl rfl (v_assign rfl rfl) ?_
   refine o_nil ?_
   with_reducible refine r_then ?_
   refine r_ret ?_
   exact r_retv2 (Rd.tmp rfl rfl) (congrArg Value.bool (decide_eq_true ⟨hI0.2 0 (by omega), hI0.2 1 (by omega), hI0.2 2 (by omega)⟩).symm) SelMC.sel SubRC.sub
end Go.Proofs.Ytpndeonmmcaikaa.FootW


namespace Go.Proofs.Ytpndeonmmcaikaa.FootW
open Go.G Foot4
set_option maxRecDepth 1000000
attribute [local irreducible] G.ParO G.Fin
set_option maxHeartbeats 4000000 in
theorem whole_fr (F : Work) (ro ho : Option Addr) (rc hc : Nat) (fb : Nat) : FnR Try.prog 66 [pt fb 0] [boxF fb 126 (cellsF F ro rc ho hc), rowD ro 2 encS F.rain, rowD ho 3 encH F.heaps] (fun v => v = .func (.func 75) #[] #[pt (capB v) 0]) (fun v => [boxF (capB v) 3 [i64 F.rain.length]]) := by
 refine FnR.intro Try.call66 Try.func66 rfl Try.ntmps66 rfl ?_
 intro W M Rf
 refine r_seq ?_
 refine r_region ?_
 refine o_q _ rfl rfl rfl (v_assign rfl rfl) ?_
 refine o_nil ?_
 with_reducible refine r_then ?_
 refine r_seq ?_
 refine r_region ?_
 refine o_q _ rfl rfl rfl (v_move rfl rfl) ?_
 refine o_q _ rfl rfl rfl (v_nilCheck rfl rfl) ?_
 refine o_q _ rfl rfl rfl (v_fieldAddr rfl Try.underlying126 inf26 rfl rfl rfl rfl) ?_
 refine o_q _ rfl rfl rfl (v_fieldAddr rfl Try.underlying26 inf22 rfl rfl rfl rfl) ?_
 refine o_q _ rfl rfl rfl (v_lf1 rfl Try.underlying22 rfl rfl rfl) ?_
 refine o_q _ rfl rfl rfl (v_len rfl rfl Try.underlying22 rfl) ?_
 refine o_alloc rfl inf3 rfl rfl rfl rfl rfl (fun b3 => ?_)
 refine o_st rfl inf3 rfl rfl rfl rfl rfl rfl rfl rfl ?_
 refine o_nil ?_
 with_reducible refine r_then ?_
 refine r_seq ?_
 refine r_region ?_
 refine o_q _ rfl rfl rfl (v_makeFunc rfl rfl rfl) ?_
 refine o_q _ rfl rfl rfl (v_assign rfl rfl) ?_
 refine o_nil ?_
 with_reducible refine r_then ?_
 refine r_ret ?_
 refine Imp.sealB b3 ?_
 exact r_retr (Rd.tmp rfl rfl) rfl SelMC.sel (fun _ h => h)
set_option maxHeartbeats 4000000 in
theorem whole1_s (n cb : Nat) (hn : n ≤ 8) : IsSeq Try.prog 75 [pt cb 0] [boxF cb 3 [i64 n]] encP (whole n) := by
 refine IsSeq.intro Try.call75 Try.func75 rfl Try.ntmps75 rfl ?_
 intro l J Jx W Rf hY
 refine r_scope ?_
 refine r_seq ?_
 refine r_label ?_
 with_reducible refine r_then ?_
 refine r_seq ?_
 refine r_region ?_
 refine o_q _ rfl rfl rfl (v_lf1 rfl Try.underlying3 rfl rfl rfl) ?_
 refine o_q _ rfl rfl rfl (v_move rfl rfl) ?_
 refine o_nil ?_
 with_reducible refine r_then ?_
 refine r_block ?_
 refine r_loop (ι := Nat) (fun k1 => k1 ≤ n) (fun k1 => [(0, .func (.yield l) #[] #[]), (1, pt cb 0), (6, i64 n), (7, i64 k1)]) (fun k1 => [J (wholeA n k1).length]) (fun k1 => [boxF cb 3 [i64 n]] ++ Rf) (fun k1 => n - k1) 0 ?_ ?_ ?_
 ·
  show Imp _ _ _ _ [J (wholeA n 0).length] _ _
  exact r_here (by repeat (first | exact FSub.nil | refine FSub.cons rfl ?_)) SelMC.sel SubRC.sub
 ·
  omega
 ·
  rintro k1 hI0
  refine r_seq ?_
  refine r_region ?_
  refine o_q _ rfl rfl rfl (v_lss rfl rfl rfl) ?_
  refine o_nil ?_
  with_reducible refine r_then ?_
  refine r_seq ?_
  refine r_condd rfl (fun hc8 => ?_) (fun hc8 => ?_)
  ·
   refine r_skip ?_
   with_reducible refine r_then ?_
   refine r_seq ?_
   refine r_block ?_
   refine r_seq ?_
   refine r_region ?_
   refine o_q _ rfl rfl rfl (v_move rfl rfl) ?_
   refine o_q _ rfl rfl rfl (v_assign rfl rfl) ?_
   refine o_nil ?_
   with_reducible refine r_then ?_
   refine r_seq ?_
   refine r_region ?_
   refine o_q _ rfl rfl rfl (v_move rfl rfl) ?_
   refine o_q _ rfl rfl rfl (v_add rfl rfl rfl (by omega)) ?_
   refine o_q _ rfl rfl rfl (v_assign rfl rfl) ?_
   refine o_nil ?_
   with_reducible refine r_then ?_
   refine r_block ?_
   refine r_loop (ι := Nat) (fun k2 => k1 < k2 ∧ k2 ≤ max n (k1 + 1)) (fun k2 => [(0, .func (.yield l) #[] #[]), (1, pt cb 0), (6, i64 n), (7, i64 k1), (3, i64 k1), (4, i64 k2)]) (fun k2 => [J (wholeB n k1 k2).length]) (fun k2 => [boxF cb 3 [i64 n]] ++ Rf) (fun k2 => n - k2) (k1 + 1) ?_ ?_ ?_
   ·
    rw [wholeB_0]
    exact r_here (by repeat (first | exact FSub.nil | refine FSub.cons rfl ?_)) SelMC.sel SubRC.sub
   ·
    omega
   ·
    rintro k2 hI1
    refine r_seq ?_
    refine r_seq ?_
    refine r_region ?_
    refine o_q _ rfl rfl rfl (v_move rfl rfl) ?_
    refine o_q _ rfl rfl rfl (v_lf1 rfl Try.underlying3 rfl rfl rfl) ?_
    refine o_q _ rfl rfl rfl (v_lss rfl rfl rfl) ?_
    refine o_nil ?_
    with_reducible refine r_then ?_
    refine r_condd rfl (fun hc14 => ?_) (fun hc14 => ?_)
    ·
     refine r_skip ?_
     with_reducible refine r_then ?_
     refine r_seq ?_
     refine r_block ?_
     refine r_seq ?_
     refine r_region ?_
     refine o_q _ rfl rfl rfl (v_move rfl rfl) ?_
     refine o_q _ rfl rfl rfl (v_add rfl rfl rfl (by omega)) ?_
     refine o_q _ rfl rfl rfl (v_assign rfl rfl) ?_
     refine o_nil ?_
     with_reducible refine r_then ?_
     refine r_block ?_
     refine r_loop (ι := Nat) (fun k3 => k2 < k3 ∧ k3 ≤ max n (k2 + 1)) (fun k3 => [(0, .func (.yield l) #[] #[]), (1, pt cb 0), (6, i64 n), (7, i64 k1), (3, i64 k1), (4, i64 k2), (5, i64 k3)]) (fun k3 => [J (wholeC n k1 k2 k3).length]) (fun k3 => [boxF cb 3 [i64 n]] ++ Rf) (fun k3 => n - k3) (k2 + 1) ?_ ?_ ?_
     ·
      rw [wholeC_0]
      exact r_here (by repeat (first | exact FSub.nil | refine FSub.cons rfl ?_)) SelMC.sel SubRC.sub
     ·
      omega
     ·
      rintro k3 hI2
      refine r_seq ?_
      refine r_seq ?_
      refine r_region ?_
      refine o_q _ rfl rfl rfl (v_move rfl rfl) ?_
      refine o_q _ rfl rfl rfl (v_lf1 rfl Try.underlying3 rfl rfl rfl) ?_
      refine o_q _ rfl rfl rfl (v_lss rfl rfl rfl) ?_
      refine o_nil ?_
      with_reducible refine r_then ?_
      refine r_condd rfl (fun hc21 => ?_) (fun hc21 => ?_)
      ·
       refine r_skip ?_
       with_reducible refine r_then ?_
       refine r_seq ?_
       refine r_block ?_
       refine r_seq ?_
       have hat := whole_at (n := n) (a := k1) (b := k2) (c := k3) (by omega) (by omega) (by omega)
       have hlt := whole_lt (n := n) (a := k1) (b := k2) (c := k3) (by omega) (by omega) (by omega)
       refine r_region_in ?_
       refine oi_lift wideF rfl (fun _ _ h => by obtain ⟨⟨v, hv⟩, _⟩ := h; cases hv) ?_
       refine o_q _ rfl rfl rfl (v_move rfl rfl) ?_
       refine o_nil ?_
       refine r_then ?_
       refine oi_lift wideF rfl (fun _ _ h => by obtain ⟨⟨v, hv⟩, _⟩ := h; cases hv) ?_
       refine o_q _ rfl rfl rfl (v_move rfl rfl) ?_
       refine o_nil ?_
       refine r_then ?_
       refine oi_lift wideF rfl (fun _ _ h => by obtain ⟨⟨v, hv⟩, _⟩ := h; cases hv) ?_
       refine o_q _ rfl rfl rfl (v_move rfl rfl) ?_
       refine o_nil ?_
       refine r_then ?_
       refine oi_lift wideF rfl (fun _ _ h => by obtain ⟨⟨v, hv⟩, _⟩ := h; cases hv) ?_
       refine o_q _ rfl rfl rfl (v_move rfl rfl) ?_
       refine o_nil ?_
       refine r_then ?_
       refine oi_lift wideF rfl (fun _ _ h => by obtain ⟨⟨v, hv⟩, _⟩ := h; cases hv) ?_
       refine o_q _ rfl rfl rfl (v_bA rfl Try.underlying55 inf55 inf3 rfl rfl rfl (by repeat (first | exact trivial | refine ⟨rfl, ?_⟩)) (by rfl)) ?_
       refine o_nil ?_
       refine r_then ?_
       refine oi_yields (Ri := [boxF cb 3 [i64 n]]) hY hat rfl rfl rfl rfl rfl rfl rfl ?_ ?_
       all_goals
        refine oi_lift wideF rfl (fun _ _ h => by obtain ⟨⟨v, hv⟩, _⟩ := h; cases hv) ?_
        refine o_q _ rfl rfl rfl (v_not rfl rfl) ?_
        refine o_nil ?_
        refine r_then ?_
        refine oi_nil ?_
        with_reducible refine r_then ?_
        refine r_cond rfl (fun hc30 => ?_) (fun hc30 => ?_)
        ·
         first
         | (exfalso; revert hc30; decide)
         |
          skip
          refine r_exit ?_
          with_reducible (refine r_in_past (by decide) ?_); refine r_then_exit ?_; refine r_then_exit ?_; (refine r_in_past (by decide) ?_); (refine r_in_past (by decide) ?_); refine r_then_exit ?_; refine r_then_exit ?_; (refine r_in_past (by decide) ?_); (refine r_in_past (by decide) ?_); refine r_then_exit ?_; refine r_then_exit ?_; refine r_in_here ?_; refine r_sc_normal ?_
          exact r_retseqx (Rd.none rfl) ⟨hlt, by omega⟩ SelMC.sel SubRC.sub
        ·
         first
         | (exfalso; revert hc30; decide)
         |
          skip
          refine r_skip ?_
          with_reducible refine r_in_normal ?_; refine r_then ?_
          refine r_region ?_
          refine o_q _ rfl rfl rfl (v_move rfl rfl) ?_
          refine o_q _ rfl rfl rfl (v_add rfl rfl rfl (by omega)) ?_
          refine o_q _ rfl rfl rfl (v_assign rfl rfl) ?_
          refine o_nil ?_
          with_reducible refine r_then ?_
          refine r_next (k3 + 1) ?_ ?_ ?_
          ·
           rw [wholeC_len1 (by omega)]
           exact r_here (by repeat (first | exact FSub.nil | refine FSub.cons rfl ?_)) SelMC.sel SubRC.sub
          ·
           omega
          ·
           omega
      ·
       refine r_exit ?_
       with_reducible refine r_then_exit ?_; refine r_then_exit ?_; refine r_in_here ?_; refine r_in_normal ?_; refine r_then ?_
       refine r_region ?_
       refine o_q _ rfl rfl rfl (v_move rfl rfl) ?_
       refine o_q _ rfl rfl rfl (v_add rfl rfl rfl (by omega)) ?_
       refine o_q _ rfl rfl rfl (v_assign rfl rfl) ?_
       refine o_nil ?_
       with_reducible refine r_then ?_
       refine r_next (k2 + 1) ?_ ?_ ?_
       ·
        have hk3 : k3 = max n (k2 + 1) := by omega
        subst hk3
        rw [wholeB_step (by omega)]
        exact r_here (by repeat (first | exact FSub.nil | refine FSub.cons rfl ?_)) SelMC.sel SubRC.sub
       ·
        omega
       ·
        omega
    ·
     refine r_exit ?_
     with_reducible refine r_then_exit ?_; refine r_then_exit ?_; refine r_in_here ?_; refine r_in_normal ?_; refine r_then ?_
     refine r_region ?_
     refine o_q _ rfl rfl rfl (v_add rfl rfl rfl (by omega)) ?_
     refine o_q _ rfl rfl rfl (v_move rfl rfl) ?_
     refine o_nil ?_
     with_reducible refine r_then ?_
     refine r_next (k1 + 1) ?_ ?_ ?_
     ·
      have hk2 : k2 = max n (k1 + 1) := by omega
      subst hk2
      rw [wholeA_step]
      exact r_here (by repeat (first | exact FSub.nil | refine FSub.cons rfl ?_)) SelMC.sel SubRC.sub
     ·
      omega
     ·
      omega
  ·
   refine r_exit ?_
   with_reducible refine r_then_exit ?_; refine r_then_exit ?_; refine r_in_here ?_; refine r_sc_normal ?_
   exact r_retseq2 (wholeA n k1).length (by rw [show k1 = n from by omega]; rfl) (Rd.none rfl) SelMC.sel SubRC.sub
set_option maxHeartbeats 4000000 in
theorem sure_fr (t : Tr Try.prog "bogworks/foot.of") (F : Work) (ro ho : Option Addr) (rc hc : Nat) (fb : Nat) (heap : Int) (h0 : 0 ≤ heap) (h1 : heap < F.heaps.length) (hb : Bnd F) : FnR Try.prog 37 [pt fb 0, i64 heap, t.i] [boxF fb 126 (cellsF F ro rc ho hc), rowD ro 2 encS F.rain, rowD ho 3 encH F.heaps] (isSl (sureF t.sel F heap.toNat).length) (fun v => [rowD (adr v) 3 encT (sureF t.sel F heap.toNat)]) := by
 refine FnR.introM Try.call37 Try.func37 rfl Try.ntmps37 rfl ?_
 intro W M Rf
 refine r_seq ?_
 refine r_region ?_
 refine o_box1 rfl rfl rfl rfl rfl rfl (fun b3 => ?_)
 refine o_box1 rfl rfl rfl rfl rfl rfl (fun b4 => ?_)
 refine o_box1 rfl rfl rfl rfl rfl rfl (fun b5 => ?_)
 refine o_alloc rfl inf48 rfl rfl rfl rfl rfl (fun b6 => ?_)
 refine o_nil ?_
 with_reducible refine r_then ?_
 refine r_seq ?_
 refine r_seq ?_
 refine Imp.sealB b3 ?_
 refine Imp.sealB b4 ?_
 refine Imp.sealB b5 ?_
 refine Imp.nilL 55 3 encT ?_
 refine r_region ?_
 refine o_q _ rfl rfl rfl (v_lf1 rfl Try.underlying82 rfl rfl rfl) ?_
 refine o_fn (whole_fr F ro ho rc hc fb) rfl rfl rfl rfl rfl SubRC.sub (fun v9 hv9 => ?_)
 (obtain ⟨cb, hcb⟩ : ∃ cb, capB v9 = cb := ⟨_, rfl⟩); rw [hcb] at hv9 ⊢; clear hcb; subst hv9
 all_goals
  refine o_nil ?_
  with_reducible refine r_then ?_
  refine r_block ?_
  refine r_range (whole1_s F.rain.length cb hb.len) rfl SubRC.sub (fun _ => rfl) rfl (fun i => exR fun v => [bx b6 48 [v], ownL v 55 3 encT (sureT t.sel F heap.toNat (i))]) (fun _ _ => noR) (M0 := M) (M1 := bx b6 48 (Value.slice none 0 0).cells.toList :: ownL (.slice none 0 0) 55 3 encT ([] : List T3) :: M) SelMC.sel (fun w h => St.pk (.slice none 0 0) h) ?_ ?_ ?_
  ·
   intro l i x hx Mi Ri rdy bsy hbg
   refine Imp.unpk2 (fun v => ?_)
   refine Imp.own_is v (fun hs => ?_)
   obtain ⟨oav, cpv, rfl⟩ := hs
   refine ri_region ?_
   refine oi_lift wideR rfl (fun _ _ h => h) ?_
   refine o_alloc rfl inf55 rfl rfl rfl rfl rfl (fun b7 => ?_)
   refine o_nil ?_
   refine r_then ?_
   refine oi_lift wideR rfl (fun _ _ h => h) ?_
   refine o_st rfl inf55 rfl rfl rfl rfl rfl rfl rfl rfl ?_
   refine o_nil ?_
   refine r_then ?_
   refine oi_nil ?_
   with_reducible refine r_then ?_
   refine r_begin hbg ?_
   refine ri_block ?_
   refine ri_seq ?_
   have hle := sureT_le (sel := t.sel) (F := F) (heap := heap.toNat) (i := i) hb.len
   refine ri_region ?_
   refine oi_lift wideR rfl (fun _ _ h => h) ?_
   refine o_q _ rfl rfl rfl (v_lf1 rfl Try.underlying82 rfl rfl rfl) ?_
   refine o_nil ?_
   refine r_then ?_
   refine oi_lift wideR rfl (fun _ _ h => h) ?_
   refine o_q _ rfl rfl rfl (v_lf1 rfl Try.underlying3 rfl rfl rfl) ?_
   refine o_nil ?_
   refine r_then ?_
   refine oi_lift wideR rfl (fun _ _ h => h) ?_
   refine o_q _ rfl rfl rfl (v_ldW rfl Try.underlying55 rfl inf55 rfl rfl) ?_
   refine o_nil ?_
   refine r_then ?_
   refine oi_lift wideR rfl (fun _ _ h => h) ?_
   refine o_q _ rfl rfl rfl (v_lf1 rfl Try.underlying138 rfl rfl rfl) ?_
   refine o_nil ?_
   refine r_then ?_
   refine oi_lift wideR rfl (fun _ _ h => h) ?_
   refine o_q _ rfl rfl rfl (OpQ.fn (kept_fv t F ro ho rc hc fb _ _ _ _ h0 h1 hb (fun k hk => (whole_days (List.mem_of_getElem? hx) k hk).2)) rfl rfl SubRC.sub) ?_
   refine o_nil ?_
   refine r_then ?_
   refine oi_nil ?_
   with_reducible refine r_then ?_
   refine ri_condd rfl (fun hc15 => ?_) (fun hc15 => ?_)
   ·
    refine ri_region ?_
    refine oi_lift wideR rfl (fun _ _ h => h) ?_
    refine o_q _ rfl rfl rfl (v_ld1 rfl Try.underlying48 rfl rfl rfl) ?_
    refine o_nil ?_
    refine r_then ?_
    refine oi_lift wideR rfl (fun _ _ h => h) ?_
    refine o_q _ rfl rfl rfl (v_ldW rfl Try.underlying55 rfl inf55 rfl rfl) ?_
    refine o_nil ?_
    refine r_then ?_
    refine oi_lift wideR rfl (fun _ _ h => h) ?_
    refine o_lit rfl Try.underlying48 inf55 rfl rfl rfl rfl rfl rfl rfl rfl (by repeat (first | exact trivial | refine ⟨rfl, ?_⟩)) (by rfl) (fun b18 => ?_)
    refine o_nil ?_
    refine r_then ?_
    refine oi_lift wideR rfl (fun _ _ h => h) ?_
    refine o_app1 (x) rfl Try.underlying48 inf55 rfl (by rfl) (by rfl) rfl rfl rfl rfl rfl (by rfl) (by rfl) (by rfl) (by first | omega | (constructor <;> first | omega | decide)) (fun v19 => ?_)
    refine o_nil ?_
    refine r_then ?_
    refine Imp.own_is v19 (fun hs => ?_)
    obtain ⟨oa19, cp19, rfl⟩ := hs
    refine oi_lift wideR rfl (fun _ _ h => h) ?_
    refine o_st rfl inf48 rfl rfl rfl rfl rfl rfl rfl rfl ?_
    refine o_nil ?_
    refine r_then ?_
    refine oi_nil ?_
    with_reducible refine r_in_normal ?_
    (refine Imp.own_to (.slice oa19 (sureT t.sel F heap.toNat (i) ++ [x]).length cp19) (sureT t.sel F heap.toNat (i + 1)) (sureT_yes hx (by assumption)) ?_; refine Imp.box_to b6 [.slice oa19 (sureT t.sel F heap.toNat (i) ++ [x]).length cp19] rfl ?_; exact r_round2 (.slice oa19 (sureT t.sel F heap.toNat (i) ++ [x]).length cp19) SelMC.sel SubRC.sub)
   ·
    refine ri_skip ?_
    with_reducible refine r_in_normal ?_
    (refine Imp.own_to (.slice oav (sureT t.sel F heap.toNat (i)).length cpv) (sureT t.sel F heap.toNat (i + 1)) (sureT_no hx (by assumption)) ?_; exact r_round2 (.slice oav (sureT t.sel F heap.toNat (i)).length cpv) SelMC.sel SubRC.sub)
  ·
   intro db
   refine Imp.unpk2 (fun v => ?_)
   refine Imp.own_is v (fun hs => ?_)
   obtain ⟨oav, cpv, rfl⟩ := hs
   with_reducible refine r_in_normal ?_; refine r_then ?_
   refine r_seq ?_
   refine r_region ?_
   refine o_q _ rfl rfl rfl (v_ld1 rfl Try.underlying48 rfl rfl rfl) ?_
   refine o_st rfl inf48 rfl rfl rfl rfl rfl rfl rfl rfl ?_
   refine o_nil ?_
   with_reducible refine r_then ?_
   refine r_ret ?_
   refine Imp.own_to (.slice oav (sureT t.sel F heap.toNat ((whole F.rain.length).length)).length cpv) (sureF t.sel F heap.toNat) sureT_all ?_
   refine Imp.settleL (.slice oav (sureT t.sel F heap.toNat ((whole F.rain.length).length)).length cpv) encT_len (fun hsl => ?_)
   exact m_retr (Rd.one rfl (RdI.cell1 Try.underlying48 rfl rfl rfl)) hsl SelMC.sel SubRC.sub
  ·
   intro db i c _
   exact Imp.noR
end Go.Proofs.Ytpndeonmmcaikaa.FootW


namespace Go.Proofs.Ytpndeonmmcaikaa.FootW
open Go.G Foot4
set_option maxRecDepth 1000000
attribute [local irreducible] G.ParO G.Fin
theorem hm88 : HasM Try.prog 95 "bogworks/foot.of" 99 := HasM.mk' inf95 (by kernel_rfl) Try.underlying95 rfl
theorem hm90 : HasM Try.prog 97 "bogworks/foot.of" 100 := HasM.mk' inf97 (by kernel_rfl) Try.underlying97 rfl
abbrev dryT : Tr Try.prog "bogworks/foot.of" := ⟨95, .agg #[], 99, selD, hm88, fun lo hi _ _ _ _ => dry_v lo hi, fun _ _ => .inl rfl⟩
abbrev wetT : Tr Try.prog "bogworks/foot.of" := ⟨97, .agg #[], 100, selW, hm90, fun lo hi h1 h2 h3 h4 => wet0_v lo hi ⟨h1, h2⟩ ⟨h3, h4⟩, fun _ _ => .inr rfl⟩
end Go.Proofs.Ytpndeonmmcaikaa.FootW


namespace Go.Proofs.Ytpndeonmmcaikaa.FootW
open Go.G Foot4
set_option maxRecDepth 1000000
attribute [local irreducible] G.ParO G.Fin
set_option maxHeartbeats 4000000 in
theorem CanP_v (F : Work) (ro ho : Option Addr) (rc hc : Nat) (x : Int) (a b c : Int) (hr : F.rain.length ≤ 40) (hh : F.heaps.length ≤ 40) : FnV Try.prog 13 [valF F ro rc ho hc, i64 x, .agg #[i64 a, i64 b, i64 c]] [rowD ro 2 encS F.rain, rowD ho 3 encH F.heaps] (.tuple #[i64 (canP F x ⟨a, b, c⟩).1, i64 (canP F x ⟨a, b, c⟩).2]) := by
 refine FnV.introD Try.call13 Try.func13 rfl Try.ntmps13 rfl ?_
 intro W M Rf
 refine r_seq ?_
 refine r_region ?_
 refine o_boxA rfl rfl rfl rfl rfl (fun b3 => ?_)
 refine o_boxA rfl rfl rfl rfl rfl (fun b5 => ?_)
 refine o_q _ rfl rfl rfl (v_assign rfl rfl) ?_
 refine o_alloc rfl inf43 rfl rfl rfl rfl rfl (fun b7 => ?_)
 refine o_nil ?_
 with_reducible refine r_then ?_
 refine r_seq ?_
 refine r_region ?_
 refine o_defer rfl rfl rfl rfl ?_
 refine o_nil ?_
 with_reducible refine r_then ?_
 refine r_seq ?_
 refine r_par' 9 mixed (by kernel_rfl) (by rfl) ?_
 refine p_q _ rfl rfl rfl (fun _ _ => v_ldW rfl Try.underlying26 rfl inf26 rfl rfl) ?_
 refine p_q _ rfl rfl rfl (fun _ _ => v_ldW rfl Try.underlying26 rfl inf26 rfl rfl) ?_
 refine p_q _ rfl rfl rfl (fun _ _ => v_move rfl rfl) ?_
 refine p_test rfl rfl rfl (fun _ _ => OpQ.fn (isHeap_v F ro ho rc hc _ hr hh) rfl rfl SubRC.sub) (fun h12 => ?_) (fun h12 => ?_)
 all_goals
  refine p_q _ rfl rfl rfl (fun _ _ => v_move rfl rfl) ?_
  first | refine p_gn rfl rfl rfl rfl ?_ | refine p_g _ rfl rfl rfl rfl (fun _ _ => v_ldW rfl Try.underlying26 rfl inf26 rfl rfl) ?_
  first | refine p_gn rfl rfl rfl rfl ?_ | refine p_g _ rfl rfl rfl rfl (fun _ _ => v_ldW rfl Try.underlying55 rfl inf55 rfl rfl) ?_
  first | refine p_gn rfl rfl rfl rfl ?_ | refine p_gtest rfl rfl rfl rfl (fun _ _ => OpQ.fn (isPlan_v F ro ho rc hc _ _ _ hr hh) rfl rfl SubRC.sub) (fun h16 => ?_) (fun h16 => ?_)
  all_goals
   first | refine p_q _ rfl rfl rfl (fun _ _ => v_pick_t rfl rfl rfl) ?_ | refine p_q _ rfl rfl rfl (fun _ _ => v_pick_f rfl rfl rfl) ?_
   refine p_nil2 (by simp only [List.nil_append, List.cons_append]; rfl) rfl ?_
   refine f_q rfl ?_
   refine f_q rfl ?_
   refine f_q rfl ?_
   refine f_q rfl ?_
   refine f_q rfl ?_
   refine f_q rfl ?_
   refine f_q rfl ?_
   refine f_q rfl ?_
   refine f_q rfl ?_
   refine f_nil ?_
   by_cases hg : GoodF F
   all_goals
    first | refine o_fnp (open_ok F ro ho rc hc hr hh hg) rfl rfl rfl rfl rfl SubRC.sub (fun fb => ?_) | refine o_fnx (open_x F ro ho rc hc _ hr hh (by first | exact chk_false F | exact chk_ne hg)) rfl rfl rfl SubRC.sub ?_
    all_goals
     repeat (first | with_reducible refine r_then_panic ?_)
     try (first | (rw [canP_ok hg (by simp [*])]; exact d_panv answer_ans (Rd.two rfl (RdI.tmp rfl) (RdI.cell1 Try.underlying43 rfl rfl rfl)) rfl SelMC.sel SubRC.sub) | (rw [canP_of true (by simp [*]) (chk_ne hg)]; exact d_panv answer_ans (Rd.two rfl (RdI.tmp rfl) (RdI.cell1 Try.underlying43 rfl rfl rfl)) rfl SelMC.sel SubRC.sub) | (rw [canP_of false (by simp [*]) (chk_false F)]; exact d_panv answer_ans (Rd.two rfl (RdI.tmp rfl) (RdI.cell1 Try.underlying43 rfl rfl rfl)) rfl SelMC.sel SubRC.sub))
     all_goals
      refine o_q _ rfl rfl rfl (v_assign rfl rfl) ?_
      refine o_nil ?_
      with_reducible refine r_then ?_
      refine r_seq ?_
      refine r_block ?_
      refine r_seq ?_
      have hb := hg.bnd
      have hpl : IsPlan F.rain.length ⟨a, b, c⟩ := by assumption
      refine r_region ?_
      refine o_q _ rfl rfl rfl (v_move rfl rfl) ?_
      refine o_q _ rfl rfl rfl (v_move rfl rfl) ?_
      refine o_q _ rfl rfl rfl (v_ldW rfl Try.underlying55 rfl inf55 rfl rfl) ?_
      refine o_q _ rfl rfl rfl (v_bS0 rfl Try.underlying97 inf97 plt97 rfl rfl) ?_
      refine o_q _ rfl rfl rfl (v_makeIface rfl Try.underlying97 rfl rfl) ?_
      refine o_test rfl rfl rfl (OpQ.fn (kept_fv wetT F ro ho rc hc fb _ _ _ _ (by omega) (by omega) hb (fun k hk => (hpl.1 k hk).2)) rfl rfl SubRC.sub) (fun h25 => ?_) (fun h25 => ?_)
      all_goals
       refine o_q _ rfl rfl rfl (v_assign rfl rfl) ?_
       refine o_nil ?_
       with_reducible refine r_then ?_
       refine r_cond rfl (fun hc19 => ?_) (fun hc19 => ?_)
       ·
        first
        | (exfalso; revert hc19; decide)
        |
         skip
         refine r_seq ?_
         refine r_region ?_
         refine o_q _ rfl rfl rfl (v_assign rfl rfl) ?_
         refine o_st rfl inf43 rfl rfl rfl rfl rfl rfl rfl rfl ?_
         refine o_nil ?_
         with_reducible refine r_then ?_
         refine r_ret ?_
         with_reducible refine r_in_ret ?_; refine r_then_ret ?_
         (rw [canP_ok hg (by simp [*])]; unfold keptP; rw [if_pos (by assumption)]; exact d_retv answer_ans (Rd.two rfl (RdI.tmp rfl) (RdI.cell1 Try.underlying43 rfl rfl rfl)) rfl SelMC.sel SubRC.sub)
       ·
        first
        | (exfalso; revert hc19; decide)
        |
         skip
         refine r_seq ?_
         refine r_region ?_
         refine o_q _ rfl rfl rfl (v_move rfl rfl) ?_
         refine o_q _ rfl rfl rfl (v_move rfl rfl) ?_
         refine o_q _ rfl rfl rfl (v_ldW rfl Try.underlying55 rfl inf55 rfl rfl) ?_
         refine o_q _ rfl rfl rfl (v_bS0 rfl Try.underlying95 inf95 plt95 rfl rfl) ?_
         refine o_q _ rfl rfl rfl (v_makeIface rfl Try.underlying95 rfl rfl) ?_
         refine o_test rfl rfl rfl (OpQ.fn (kept_fv dryT F ro ho rc hc fb _ _ _ _ (by omega) (by omega) hb (fun k hk => (hpl.1 k hk).2)) rfl rfl SubRC.sub) (fun h32 => ?_) (fun h32 => ?_)
         all_goals
          refine o_q _ rfl rfl rfl (v_assign rfl rfl) ?_
          refine o_nil ?_
          with_reducible refine r_then ?_
          refine r_cond rfl (fun hc26 => ?_) (fun hc26 => ?_)
          ·
           first
           | (exfalso; revert hc26; decide)
           |
            skip
            refine r_seq ?_
            refine r_region ?_
            refine o_q _ rfl rfl rfl (v_assign rfl rfl) ?_
            refine o_st rfl inf43 rfl rfl rfl rfl rfl rfl rfl rfl ?_
            refine o_nil ?_
            with_reducible refine r_then ?_
            refine r_ret ?_
            with_reducible refine r_in_ret ?_; refine r_then_ret ?_
            (rw [canP_ok hg (by simp [*])]; unfold keptP; rw [if_neg (by assumption), if_pos (by assumption)]; exact d_retv answer_ans (Rd.two rfl (RdI.tmp rfl) (RdI.cell1 Try.underlying43 rfl rfl rfl)) rfl SelMC.sel SubRC.sub)
          ·
           first
           | (exfalso; revert hc26; decide)
           |
            skip
            refine r_skip ?_
            with_reducible refine r_in_normal ?_; refine r_then ?_
            refine r_seq ?_
            refine r_region ?_
            refine o_q _ rfl rfl rfl (v_assign rfl rfl) ?_
            refine o_st rfl inf43 rfl rfl rfl rfl rfl rfl rfl rfl ?_
            refine o_nil ?_
            with_reducible refine r_then ?_
            refine r_ret ?_
            (rw [canP_ok hg (by simp [*])]; unfold keptP; rw [if_neg (by assumption), if_neg (by assumption)]; exact d_retv answer_ans (Rd.two rfl (RdI.tmp rfl) (RdI.cell1 Try.underlying43 rfl rfl rfl)) rfl SelMC.sel SubRC.sub)
end Go.Proofs.Ytpndeonmmcaikaa.FootW


namespace Foot4
open Go Go.G
/-! ### how many steps there are on each day -/
def iv (z : Int) : Value := .int .i64 z
def withTo (B : List Int) (p : T3) : Nat → List Int
  | 0 => B
  | k + 1 => if 0 ≤ p.at k then (withTo B p k).set (p.at k).toNat ((withTo B p k).getD (p.at k).toNat 0 + 1) else withTo B p k
def with_ (B : List Int) (p : T3) : List Int := withTo B p 3
theorem withTo_len (B : List Int) (p : T3) : ∀ k, (withTo B p k).length = B.length
  | 0 => rfl
  | k + 1 => by
    simp only [withTo]
    split
    · simp [withTo_len B p k]
    · exact withTo_len B p k
theorem with_len (B : List Int) (p : T3) : (with_ B p).length = B.length := withTo_len B p 3
def Small (B : List Int) (m : Int) : Prop := ∀ i, 0 ≤ B.getD i 0 ∧ B.getD i 0 ≤ m
theorem withTo_small {B : List Int} {m : Int} (hm : 0 ≤ m) (h : Small B m) (p : T3) : ∀ k, Small (withTo B p k) (m + k)
  | 0 => by simpa [withTo] using h
  | k + 1 => by
    have ih := withTo_small hm h p k
    intro i
    simp only [withTo]
    split
    · have h1 := ih i
      have h2 := ih (p.at k).toNat
      by_cases e : (p.at k).toNat = i
      · subst e
        by_cases hl : (p.at k).toNat < (withTo B p k).length
        · simp only [List.getD_eq_getElem?_getD, List.getElem?_set_self hl, Option.getD_some] at h2 ⊢
          omega
        · rw [List.set_eq_of_length_le (by omega)]
          omega
      · have e3 : ((withTo B p k).set (p.at k).toNat ((withTo B p k).getD (p.at k).toNat 0 + 1)).getD i 0 = (withTo B p k).getD i 0 := by
          simp only [List.getD_eq_getElem?_getD]; rw [List.getElem?_set_ne e]
        rw [e3]; omega
    · have := ih i; omega
theorem with_small {B : List Int} {m : Int} (hm : 0 ≤ m) (h : Small B m) (p : T3) : Small (with_ B p) (m + 3) := withTo_small hm h p 3
theorem map_at {B : List Int} {m : Nat} (h : m < B.length) : (B.map iv)[0 + m * 1]? = some (i64 (B.getD m 0)) := by
  rw [Nat.zero_add, Nat.mul_one, List.getElem?_map, List.getD_eq_getElem?_getD, List.getElem?_eq_getElem h]
  rfl
theorem withTo_yes {B : List Int} {p : T3} {k : Nat} (h : 0 ≤ p.at k) : splice ((withTo B p k).map iv) (0 + (p.at k).toNat * 1) [i64 ((withTo B p k).getD (p.at k).toNat 0 + 1)] = (withTo B p (k + 1)).map iv := by
  rw [Nat.zero_add, Nat.mul_one]
  simp only [withTo, if_pos h]
  exact splice_map
theorem withTo_no {B : List Int} {p : T3} {k : Nat} (h : ¬ 0 ≤ p.at k) : (withTo B p k).map iv = (withTo B p (k + 1)).map iv := by
  simp only [withTo, if_neg h]
/-! ### which heaps can be clamped -/
def clampB (q : Nat → Bool) : Nat → Nat
  | 0 => 0
  | k + 1 => clampB q k ||| (if q k then 2 ^ k else 0)
theorem clampB_lt (q : Nat → Bool) : ∀ k, clampB q k < 2 ^ k
  | 0 => by simp [clampB]
  | k + 1 => by
    have h1 : clampB q k < 2 ^ (k + 1) := Nat.lt_of_lt_of_le (clampB_lt q k) (Nat.pow_le_pow_right (by omega) (by omega))
    refine Nat.or_lt_two_pow h1 ?_
    split
    · exact Nat.pow_lt_pow_right (by omega) (by omega)
    · exact Nat.two_pow_pos _
theorem clampB_sm (q : Nat → Bool) {k : Nat} (h : k ≤ 3) : clampB q k < 8 := Nat.lt_of_lt_of_le (clampB_lt q k) (Nat.pow_le_pow_right (n := 2) (by omega) h)
theorem clampB_yes {q : Nat → Bool} {k : Nat} (h : q k = true) : clampB q k ||| 2 ^ k = clampB q (k + 1) := by simp [clampB, h]
theorem clampB_no {q : Nat → Bool} {k : Nat} (h : ¬ q k = true) : clampB q k = clampB q (k + 1) := by simp [clampB, h]
def sureQ (sel : Int → Int → Int) (F : Work) (h : Nat) : Bool := decide (0 < ((sureF sel F h).length : Int))
def clampP (F : Work) : Int × Int × Int := if chk F true = 0 then ((clampB (sureQ selW F) F.heaps.length : Nat), (clampB (sureQ selD F) F.heaps.length : Nat), 0) else (0, 0, chk F true)
theorem clampP_ok {F : Work} (hg : GoodF F) : clampP F = (((clampB (sureQ selW F) F.heaps.length : Nat) : Int), ((clampB (sureQ selD F) F.heaps.length : Nat) : Int), 0) := by unfold clampP; rw [if_pos (by simp [chk, hg])]
theorem clampP_bad {F : Work} (hg : ¬ GoodF F) : clampP F = (0, 0, chk F true) := by unfold clampP; rw [if_neg (chk_ne hg)]
end Foot4


namespace Go.Proofs.Ytpndeonmmcaikaa.FootW
open Go.G Foot4
set_option maxRecDepth 1000000
attribute [local irreducible] G.ParO G.Fin
end Go.Proofs.Ytpndeonmmcaikaa.FootW


namespace Go.Proofs.Ytpndeonmmcaikaa.FootW
open Go.G Foot4
set_option maxRecDepth 1000000
attribute [local irreducible] G.ParO G.Fin
set_option maxHeartbeats 4000000 in
theorem ClampP_v (F : Work) (ro ho : Option Addr) (rc hc : Nat) (hr : F.rain.length ≤ 40) (hh : F.heaps.length ≤ 40) : FnV Try.prog 11 [valF F ro rc ho hc] [rowD ro 2 encS F.rain, rowD ho 3 encH F.heaps] (.tuple #[i64 (clampP F).1, i64 (clampP F).2.1, i64 (clampP F).2.2]) := by
 refine FnV.introD Try.call11 Try.func11 rfl Try.ntmps11 rfl ?_
 intro W M Rf
 refine r_seq ?_
 refine r_region ?_
 refine o_boxA rfl rfl rfl rfl rfl (fun b1 => ?_)
 refine o_q _ rfl rfl rfl (v_assign rfl rfl) ?_
 refine o_q _ rfl rfl rfl (v_assign rfl rfl) ?_
 refine o_alloc rfl inf43 rfl rfl rfl rfl rfl (fun b4 => ?_)
 refine o_nil ?_
 with_reducible refine r_then ?_
 refine r_seq ?_
 refine r_region ?_
 refine o_defer rfl rfl rfl rfl ?_
 refine o_nil ?_
 with_reducible refine r_then ?_
 refine r_seq ?_
 refine r_region ?_
 refine o_q _ rfl rfl rfl (v_ldW rfl Try.underlying26 rfl inf26 rfl rfl) ?_
 by_cases hg : GoodF F
 all_goals
  first | refine o_fnp (open_ok F ro ho rc hc hr hh hg) rfl rfl rfl rfl rfl SubRC.sub (fun fb => ?_) | refine o_fnx (open_x F ro ho rc hc _ hr hh (by first | exact chk_false F | exact chk_ne hg)) rfl rfl rfl SubRC.sub ?_
  all_goals
   repeat (first | with_reducible refine r_then_panic ?_)
   try (rw [clampP_bad hg]; exact d_panv answer_ans (Rd.three rfl (RdI.tmp rfl) (RdI.tmp rfl) (RdI.cell1 Try.underlying43 rfl rfl rfl)) rfl SelMC.sel SubRC.sub)
   all_goals
    refine o_q _ rfl rfl rfl (v_assign rfl rfl) ?_
    refine o_nil ?_
    with_reducible refine r_then ?_
    refine r_seq ?_
    have hb := hg.bnd
    have hl3 := hg.2.2.1
    refine r_region ?_
    refine o_q _ rfl rfl rfl (v_assign rfl rfl) ?_
    refine o_q _ rfl rfl rfl (v_assign rfl rfl) ?_
    refine o_nil ?_
    with_reducible refine r_then ?_
    refine r_seq ?_
    refine r_seq ?_
    refine r_region ?_
    refine o_q _ rfl rfl rfl (v_fieldAddr rfl Try.underlying26 inf24 rfl rfl rfl rfl) ?_
    refine o_q _ rfl rfl rfl (v_ld1 rfl Try.underlying24 rfl rfl rfl) ?_
    refine o_q _ rfl rfl rfl (v_len rfl rfl Try.underlying24 rfl) ?_
    refine o_q _ rfl rfl rfl (v_move rfl rfl) ?_
    refine o_nil ?_
    with_reducible refine r_then ?_
    refine r_block ?_
    refine r_loop (ι := Nat) (fun k => k ≤ F.heaps.length) (fun k => [(1, pt b1 0), (4, pt b4 0), (5, pt fb 0), (6, i64 (clampB (sureQ selW F) k : Nat)), (7, i64 (clampB (sureQ selD F) k : Nat)), (13, i64 F.heaps.length), (14, i64 k)]) (fun k => bx b4 43 [i64 0] :: bx b1 26 (cellsF F ro rc ho hc) :: M) (fun k => boxF fb 126 (cellsF F ro rc ho hc) :: ([rowD ro 2 encS F.rain, rowD ho 3 encH F.heaps] ++ Rf)) (fun k => F.heaps.length - k) 0 ?_ ?_ ?_
    ·
     refine Imp.box_to b4 [i64 0] rfl ?_
     exact r_here (by repeat (first | exact FSub.nil | refine FSub.cons rfl ?_)) SelMC.sel SubRC.sub
    ·
     omega
    ·
     rintro k hI0
     refine r_seq ?_
     refine r_region ?_
     refine o_q _ rfl rfl rfl (v_lss rfl rfl rfl) ?_
     refine o_nil ?_
     with_reducible refine r_then ?_
     refine r_seq ?_
     refine r_condd rfl (fun hc15 => ?_) (fun hc15 => ?_)
     ·
      refine r_skip ?_
      with_reducible refine r_then ?_
      refine r_seq ?_
      refine r_block ?_
      refine r_seq ?_
      refine r_region ?_
      refine o_q _ rfl rfl rfl (v_move rfl rfl) ?_
      refine o_q _ rfl rfl rfl (v_assign rfl rfl) ?_
      refine o_nil ?_
      with_reducible refine r_then ?_
      refine r_seq ?_
      refine r_seq ?_
      refine r_region ?_
      refine o_q _ rfl rfl rfl (v_move rfl rfl) ?_
      refine o_q _ rfl rfl rfl (v_move rfl rfl) ?_
      refine o_q _ rfl rfl rfl (v_bS0 rfl Try.underlying97 inf97 plt97 rfl rfl) ?_
      refine o_q _ rfl rfl rfl (v_makeIface rfl Try.underlying97 rfl rfl) ?_
      refine o_fns (sure_fr wetT F ro ho rc hc fb _ (by omega) (by omega) hb) rfl rfl rfl rfl rfl SubRC.sub (fun oa21 cp21 => ?_)
      refine o_q _ rfl rfl rfl (v_len rfl rfl Try.underlying48 rfl) ?_
      refine o_q _ rfl rfl rfl (v_gtr rfl rfl rfl) ?_
      refine o_nil ?_
      with_reducible refine r_then ?_
      refine r_condd rfl (fun hc23 => ?_) (fun hc23 => ?_)
      ·
       refine r_region ?_
       refine o_q _ rfl rfl rfl (v_move rfl rfl) ?_
       refine o_q _ rfl rfl rfl (v_move rfl rfl) ?_
       refine o_q _ rfl rfl rfl (v_shl1 rfl rfl rfl (by omega) rfl) ?_
       refine o_q _ rfl rfl rfl (v_orn rfl rfl rfl (by have := clampB_sm (sureQ selW F) (k := k) (by omega); omega) (by have : 2 ^ k ≤ 2 ^ 3 := Nat.pow_le_pow_right (by omega) (by omega); omega)) ?_
       refine o_q _ rfl rfl rfl (v_assign rfl rfl) ?_
       refine o_nil ?_
       with_reducible refine r_then ?_
       refine r_seq ?_
       refine r_region ?_
       refine o_q _ rfl rfl rfl (v_move rfl rfl) ?_
       refine o_q _ rfl rfl rfl (v_move rfl rfl) ?_
       refine o_q _ rfl rfl rfl (v_bS0 rfl Try.underlying95 inf95 plt95 rfl rfl) ?_
       refine o_q _ rfl rfl rfl (v_makeIface rfl Try.underlying95 rfl rfl) ?_
       refine o_fns (sure_fr dryT F ro ho rc hc fb _ (by omega) (by omega) hb) rfl rfl rfl rfl rfl SubRC.sub (fun oa32 cp32 => ?_)
       refine o_q _ rfl rfl rfl (v_len rfl rfl Try.underlying48 rfl) ?_
       refine o_q _ rfl rfl rfl (v_gtr rfl rfl rfl) ?_
       refine o_nil ?_
       with_reducible refine r_then ?_
       refine r_condd rfl (fun hc34 => ?_) (fun hc34 => ?_)
       ·
        refine r_region ?_
        refine o_q _ rfl rfl rfl (v_move rfl rfl) ?_
        refine o_q _ rfl rfl rfl (v_move rfl rfl) ?_
        refine o_q _ rfl rfl rfl (v_shl1 rfl rfl rfl (by omega) rfl) ?_
        refine o_q _ rfl rfl rfl (v_orn rfl rfl rfl (by have := clampB_sm (sureQ selD F) (k := k) (by omega); omega) (by have : 2 ^ k ≤ 2 ^ 3 := Nat.pow_le_pow_right (by omega) (by omega); omega)) ?_
        refine o_q _ rfl rfl rfl (v_assign rfl rfl) ?_
        refine o_nil ?_
        with_reducible refine r_in_normal ?_; refine r_then ?_
        refine r_region ?_
        refine o_q _ rfl rfl rfl (v_add rfl rfl rfl (by omega)) ?_
        refine o_q _ rfl rfl rfl (v_move rfl rfl) ?_
        refine o_nil ?_
        with_reducible refine r_then ?_
        refine r_next (k + 1) ?_ ?_ ?_
        ·
         exact r_here (by repeat (first | exact FSub.nil | refine FSub.cons rfl ?_ | refine FSub.cons2 rfl (congrArg (fun z : Nat => Value.int .i64 (z : Int)) (by first | exact clampB_yes (decide_eq_true (by assumption)) | exact clampB_no (fun hh => absurd (of_decide_eq_true hh) (by assumption)))) ?_ | refine FSub.cons2 rfl (congrArg (Value.int .i64) (by omega)) ?_)) SelMC.sel SubRC.sub
        ·
         omega
        ·
         omega
       ·
        refine r_skip ?_
        with_reducible refine r_in_normal ?_; refine r_then ?_
        refine r_region ?_
        refine o_q _ rfl rfl rfl (v_add rfl rfl rfl (by omega)) ?_
        refine o_q _ rfl rfl rfl (v_move rfl rfl) ?_
        refine o_nil ?_
        with_reducible refine r_then ?_
        refine r_next (k + 1) ?_ ?_ ?_
        ·
         exact r_here (by repeat (first | exact FSub.nil | refine FSub.cons rfl ?_ | refine FSub.cons2 rfl (congrArg (fun z : Nat => Value.int .i64 (z : Int)) (by first | exact clampB_yes (decide_eq_true (by assumption)) | exact clampB_no (fun hh => absurd (of_decide_eq_true hh) (by assumption)))) ?_ | refine FSub.cons2 rfl (congrArg (Value.int .i64) (by omega)) ?_)) SelMC.sel SubRC.sub
        ·
         omega
        ·
         omega
      ·
       refine r_skip ?_
       with_reducible refine r_then ?_
       refine r_seq ?_
       refine r_region ?_
       refine o_q _ rfl rfl rfl (v_move rfl rfl) ?_
       refine o_q _ rfl rfl rfl (v_move rfl rfl) ?_
       refine o_q _ rfl rfl rfl (v_bS0 rfl Try.underlying95 inf95 plt95 rfl rfl) ?_
       refine o_q _ rfl rfl rfl (v_makeIface rfl Try.underlying95 rfl rfl) ?_
       refine o_fns (sure_fr dryT F ro ho rc hc fb _ (by omega) (by omega) hb) rfl rfl rfl rfl rfl SubRC.sub (fun oa32 cp32 => ?_)
       refine o_q _ rfl rfl rfl (v_len rfl rfl Try.underlying48 rfl) ?_
       refine o_q _ rfl rfl rfl (v_gtr rfl rfl rfl) ?_
       refine o_nil ?_
       with_reducible refine r_then ?_
       refine r_condd rfl (fun hc34 => ?_) (fun hc34 => ?_)
       ·
        refine r_region ?_
        refine o_q _ rfl rfl rfl (v_move rfl rfl) ?_
        refine o_q _ rfl rfl rfl (v_move rfl rfl) ?_
        refine o_q _ rfl rfl rfl (v_shl1 rfl rfl rfl (by omega) rfl) ?_
        refine o_q _ rfl rfl rfl (v_orn rfl rfl rfl (by have := clampB_sm (sureQ selD F) (k := k) (by omega); omega) (by have : 2 ^ k ≤ 2 ^ 3 := Nat.pow_le_pow_right (by omega) (by omega); omega)) ?_
        refine o_q _ rfl rfl rfl (v_assign rfl rfl) ?_
        refine o_nil ?_
        with_reducible refine r_in_normal ?_; refine r_then ?_
        refine r_region ?_
        refine o_q _ rfl rfl rfl (v_add rfl rfl rfl (by omega)) ?_
        refine o_q _ rfl rfl rfl (v_move rfl rfl) ?_
        refine o_nil ?_
        with_reducible refine r_then ?_
        refine r_next (k + 1) ?_ ?_ ?_
        ·
         exact r_here (by repeat (first | exact FSub.nil | refine FSub.cons rfl ?_ | refine FSub.cons2 rfl (congrArg (fun z : Nat => Value.int .i64 (z : Int)) (by first | exact clampB_yes (decide_eq_true (by assumption)) | exact clampB_no (fun hh => absurd (of_decide_eq_true hh) (by assumption)))) ?_ | refine FSub.cons2 rfl (congrArg (Value.int .i64) (by omega)) ?_)) SelMC.sel SubRC.sub
        ·
         omega
        ·
         omega
       ·
        refine r_skip ?_
        with_reducible refine r_in_normal ?_; refine r_then ?_
        refine r_region ?_
        refine o_q _ rfl rfl rfl (v_add rfl rfl rfl (by omega)) ?_
        refine o_q _ rfl rfl rfl (v_move rfl rfl) ?_
        refine o_nil ?_
        with_reducible refine r_then ?_
        refine r_next (k + 1) ?_ ?_ ?_
        ·
         exact r_here (by repeat (first | exact FSub.nil | refine FSub.cons rfl ?_ | refine FSub.cons2 rfl (congrArg (fun z : Nat => Value.int .i64 (z : Int)) (by first | exact clampB_yes (decide_eq_true (by assumption)) | exact clampB_no (fun hh => absurd (of_decide_eq_true hh) (by assumption)))) ?_ | refine FSub.cons2 rfl (congrArg (Value.int .i64) (by omega)) ?_)) SelMC.sel SubRC.sub
        ·
         omega
        ·
         omega
     ·
      refine r_exit ?_
      with_reducible refine r_then_exit ?_; refine r_then_exit ?_; refine r_in_here ?_; refine r_then ?_
      refine r_seq ?_
      refine r_region ?_
      refine o_q _ rfl rfl rfl (v_move rfl rfl) ?_
      refine o_q _ rfl rfl rfl (v_move rfl rfl) ?_
      refine o_q _ rfl rfl rfl (v_assign rfl rfl) ?_
      refine o_q _ rfl rfl rfl (v_assign rfl rfl) ?_
      refine o_st rfl inf43 rfl rfl rfl rfl rfl rfl rfl rfl ?_
      refine o_nil ?_
      with_reducible refine r_then ?_
      refine r_ret ?_
      have hk : k = F.heaps.length := by omega
      rw [clampP_ok hg, ← hk]
      exact d_retv answer_ans (Rd.three rfl (RdI.tmp rfl) (RdI.tmp rfl) (RdI.cell1 Try.underlying43 rfl rfl rfl)) rfl SelMC.sel SubRC.sub
end Go.Proofs.Ytpndeonmmcaikaa.FootW


namespace Go.Proofs.Ytpndeonmmcaikaa.FootW
open Go.G Foot4
set_option maxRecDepth 1000000
attribute [local irreducible] G.ParO G.Fin
theorem t3_atv {a b c : Int} {k : Nat} (h1 : k < 3) : [i64 a, i64 b, i64 c][k * 1]? = some (i64 (T3.at ⟨a, b, c⟩ k)) := by
  obtain rfl | rfl | rfl : k = 0 ∨ k = 1 ∨ k = 2 := by omega
  all_goals rfl
theorem ble1 {xs : List Value} {m : Nat} (h : m < xs.length) : Nat.ble (0 + m * 1 + 1) xs.length = true := Nat.ble_eq_true_of_le (by omega)
set_option maxHeartbeats 4000000 in
theorem with_v (B : List Int) (a b c : Int) (hB : B.length = 8) (hs : Small B 1000) (hd : ∀ k, k < 3 → (⟨a, b, c⟩ : T3).at k ≤ 7) : FnV Try.prog 36 [.agg ((B).map iv).toArray, .agg #[i64 a, i64 b, i64 c]] [] (.agg ((with_ B ⟨a, b, c⟩).map iv).toArray) := by
 refine FnV.intro Try.call36 Try.func36 rfl Try.ntmps36 rfl ?_
 intro W M Rf
 refine r_seq ?_
 refine r_region ?_
 refine o_boxA rfl rfl rfl rfl rfl (fun b2 => ?_)
 refine o_boxA rfl rfl rfl rfl rfl (fun b3 => ?_)
 refine o_alloc rfl inf87 rfl rfl rfl rfl rfl (fun b4 => ?_)
 refine o_nil ?_
 with_reducible refine r_then ?_
 refine r_seq ?_
 refine r_seq ?_
 refine r_region ?_
 refine o_q _ rfl rfl rfl (v_ldW rfl Try.underlying55 rfl inf55 rfl rfl) ?_
 refine o_q _ rfl rfl rfl (v_move rfl rfl) ?_
 refine o_nil ?_
 with_reducible refine r_then ?_
 refine r_block ?_
 refine r_loop (ι := Nat) (fun k => k ≤ 3) (fun k => [(2, pt b2 0), (4, pt b4 0), (7, .agg #[i64 a, i64 b, i64 c]), (8, i64 k)]) (fun k => bx b2 87 ((withTo B ⟨a, b, c⟩ k).map iv) :: bx b4 87 [iv 0, iv 0, iv 0, iv 0, iv 0, iv 0, iv 0, iv 0] :: M) (fun k => [] ++ Rf) (fun k => 3 - k) 0 ?_ ?_ ?_
 ·
  refine Imp.box_to b4 [iv 0, iv 0, iv 0, iv 0, iv 0, iv 0, iv 0, iv 0] rfl ?_
  refine Imp.box_to b2 ((withTo B ⟨a, b, c⟩ 0).map iv) rfl ?_
  exact r_here (by repeat (first | exact FSub.nil | refine FSub.cons rfl ?_)) SelMC.sel SubRC.sub
 ·
  omega
 ·
  rintro k hI0
  refine r_seq ?_
  refine r_region ?_
  refine o_q _ rfl rfl rfl (v_lss rfl rfl rfl) ?_
  refine o_nil ?_
  with_reducible refine r_then ?_
  refine r_seq ?_
  refine r_condd rfl (fun hc9 => ?_) (fun hc9 => ?_)
  ·
   refine r_skip ?_
   with_reducible refine r_then ?_
   refine r_seq ?_
   refine r_block ?_
   refine r_seq ?_
   refine r_region ?_
   refine o_q _ rfl rfl rfl (v_indexV rfl Try.underlying55 inf3 Try.underlying3 rfl rfl rfl (by omega) (by first | rfl | exact t3_atv (by omega))) ?_
   refine o_q _ rfl rfl rfl (v_assign rfl rfl) ?_
   refine o_nil ?_
   with_reducible refine r_then ?_
   refine r_seq ?_
   refine r_region ?_
   refine o_q _ rfl rfl rfl (v_move rfl rfl) ?_
   refine o_q _ rfl rfl rfl (v_geq rfl rfl rfl) ?_
   refine o_nil ?_
   with_reducible refine r_then ?_
   refine r_condd rfl (fun hc12 => ?_) (fun hc12 => ?_)
   ·
    refine r_region ?_
    refine o_q _ rfl rfl rfl (v_move rfl rfl) ?_
    refine o_q _ rfl rfl rfl (v_indexAddrA rfl Try.underlying87 inf3 rfl rfl ⟨by assumption, by have := hd k (by omega); omega⟩) ?_
    refine o_q _ rfl rfl rfl (v_ld1 rfl Try.underlying3 rfl rfl (map_at (by rw [withTo_len, hB]; have := hd k (by omega); omega))) ?_
    refine o_q _ rfl rfl rfl (v_add rfl rfl rfl (by have := withTo_small (by omega) hs ⟨a, b, c⟩ k ((⟨a, b, c⟩ : T3).at k).toNat; omega)) ?_
    refine o_q _ rfl rfl rfl (v_indexAddrA rfl Try.underlying87 inf3 rfl rfl ⟨by assumption, by have := hd k (by omega); omega⟩) ?_
    refine o_st (B := 87) (vs := ((withTo B ⟨a, b, c⟩ k).map iv)) rfl inf3 rfl rfl rfl rfl rfl rfl rfl (ble1 (by rw [List.length_map, withTo_len, hB]; have := hd k (by omega); omega)) ?_
    refine o_nil ?_
    with_reducible refine r_in_normal ?_; refine r_then ?_
    refine r_region ?_
    refine o_q _ rfl rfl rfl (v_add rfl rfl rfl (by omega)) ?_
    refine o_q _ rfl rfl rfl (v_move rfl rfl) ?_
    refine o_nil ?_
    with_reducible refine r_then ?_
    refine r_next (k + 1) ?_ ?_ ?_
    ·
     (refine Imp.box_to b2 ((withTo B ⟨a, b, c⟩ (k + 1)).map iv) (withTo_yes (by assumption)) ?_; exact r_here (by repeat (first | exact FSub.nil | refine FSub.cons rfl ?_)) SelMC.sel SubRC.sub)
    ·
     omega
    ·
     omega
   ·
    refine r_skip ?_
    with_reducible refine r_in_normal ?_; refine r_then ?_
    refine r_region ?_
    refine o_q _ rfl rfl rfl (v_add rfl rfl rfl (by omega)) ?_
    refine o_q _ rfl rfl rfl (v_move rfl rfl) ?_
    refine o_nil ?_
    with_reducible refine r_then ?_
    refine r_next (k + 1) ?_ ?_ ?_
    ·
     (refine Imp.box_to b2 ((withTo B ⟨a, b, c⟩ (k + 1)).map iv) (withTo_no (by assumption)) ?_; exact r_here (by repeat (first | exact FSub.nil | refine FSub.cons rfl ?_)) SelMC.sel SubRC.sub)
    ·
     omega
    ·
     omega
  ·
   refine r_exit ?_
   with_reducible refine r_then_exit ?_; refine r_then_exit ?_; refine r_in_here ?_; refine r_then ?_
   refine r_seq ?_
   have hk : k = 3 := by omega
   subst hk
   refine r_region ?_
   refine o_q _ rfl rfl rfl (v_ldW rfl Try.underlying87 rfl inf87 rfl (by rw [List.length_map, withTo_len, hB]; rfl)) ?_
   refine o_st (us := ((withTo B ⟨a, b, c⟩ 3).map iv)) rfl inf87 rfl rfl rfl rfl rfl (by rw [List.length_map, withTo_len, hB]; rfl) (oneCells_map _) (by rw [List.length_map, withTo_len, hB]; rfl) ?_
   refine o_nil ?_
   with_reducible refine r_then ?_
   refine r_ret ?_
   refine Imp.box_to b4 ((withTo B ⟨a, b, c⟩ 3).map iv) (splice_all (by rw [List.length_map, withTo_len, hB]; rfl)) ?_
   exact r_retv2 (Rd.one rfl (RdI.cellW Try.underlying87 rfl inf87 rfl (by rw [List.length_map, withTo_len, hB]; rfl))) rfl SelMC.sel SubRC.sub
end Go.Proofs.Ytpndeonmmcaikaa.FootW


namespace Foot4
open Go Go.G
def busyTo (l : List T3) : Nat → List Int
  | 0 => [0, 0, 0, 0, 0, 0, 0, 0]
  | h + 1 => with_ (busyTo l h) (l.getD h default)
theorem busyTo_len (l : List T3) : ∀ h, (busyTo l h).length = 8
  | 0 => rfl
  | h + 1 => by simp only [busyTo, with_len, busyTo_len l h]
theorem busyTo_small (l : List T3) : ∀ h, Small (busyTo l h) (3 * h)
  | 0 => by
    intro i
    have : (busyTo l 0).getD i 0 = 0 := by
      simp only [busyTo]
      match i with
      | 0 | 1 | 2 | 3 | 4 | 5 | 6 | 7 => rfl
      | n + 8 => rfl
    rw [this]; omega
  | h + 1 => by
    have := with_small (by omega) (busyTo_small l h) (l.getD h default)
    intro i
    have := this i
    simp only [busyTo]
    omega
def ruleP (F : Work) (l : List T3) (h i : Nat) : Int :=
  if (l.getD h default).at i < 0 then 0 else if ¬ Ordered (l.getD h default) i then 1 else if ¬ canF selW F h (l.getD h default) i then 2
  else if F.men ≤ (busyTo l h).getD ((l.getD h default).at i).toNat 0 then 3 else 0
section
variable {F : Work} {l : List T3} {h i : Nat} {p : T3}
theorem rule_n (hp : l.getD h default = p) (h0 : p.at i < 0) : ruleP F l h i = 0 := by unfold ruleP; rw [hp, if_pos h0]
theorem rule_1 (hp : l.getD h default = p) (h0 : ¬ p.at i < 0) (h1 : ¬ Ordered p i) : ruleP F l h i = 1 := by unfold ruleP; rw [hp, if_neg h0, if_pos h1]
theorem rule_2 (hp : l.getD h default = p) (h0 : ¬ p.at i < 0) (h1 : Ordered p i) (h2 : ¬ canF selW F h p i) : ruleP F l h i = 2 := by unfold ruleP; rw [hp, if_neg h0, if_neg (fun x => x h1), if_pos h2]
theorem rule_3 (hp : l.getD h default = p) (h0 : ¬ p.at i < 0) (h1 : Ordered p i) (h2 : canF selW F h p i) (h3 : F.men ≤ (busyTo l h).getD (p.at i).toNat 0) : ruleP F l h i = 3 := by unfold ruleP; rw [hp, if_neg h0, if_neg (fun x => x h1), if_neg (fun x => x h2), if_pos h3]
theorem rule_0 (hp : l.getD h default = p) (h0 : ¬ p.at i < 0) (h1 : Ordered p i) (h2 : canF selW F h p i) (h3 : ¬ F.men ≤ (busyTo l h).getD (p.at i).toNat 0) : ruleP F l h i = 0 := by unfold ruleP; rw [hp, if_neg h0, if_neg (fun x => x h1), if_neg (fun x => x h2), if_neg h3]
end
/-- The first step that breaks a rule. -/
def First (r : Nat → Nat → Int) (n : Nat) (x : Int × Int × Int × Int) : Prop :=
  (∃ h i : Nat, h < n ∧ i < 3 ∧ r h i ≠ 0 ∧ (∀ h', h' < h → ∀ i', i' < 3 → r h' i' = 0) ∧ (∀ i', i' < i → r h i' = 0) ∧ x = ((h : Int), (i : Int), r h i, 0)) ∨ ((∀ h, h < n → ∀ i, i < 3 → r h i = 0) ∧ x = (0, 0, 0, 4))
def ListOk (F : Work) (l : List T3) : Prop := (l.length : Int) = (F.heaps.length : Int) ∧ ∀ k, k < l.length → Days F.rain.length (l.getD k default)
instance (F : Work) (l : List T3) : Decidable (ListOk F l) := by unfold ListOk; infer_instance
def BrokeP (F : Work) (l : List T3) (x : Int × Int × Int × Int) : Prop := if chk F (decide (ListOk F l)) = 0 then First (ruleP F l) l.length x else x = (0, 0, 0, chk F (decide (ListOk F l)))
theorem BrokeP_of {F : Work} {l : List T3} (v : Bool) (hv : decide (ListOk F l) = v) (h : chk F v ≠ 0) : BrokeP F l (0, 0, 0, chk F v) := by unfold BrokeP; rw [hv, if_neg h]
theorem BrokeP_ok {F : Work} {l : List T3} {x : Int × Int × Int × Int} (hg : GoodF F) (hv : ListOk F l) (h : First (ruleP F l) l.length x) : BrokeP F l x := by unfold BrokeP; rw [if_pos (by simp [chk, hg, hv])]; exact h
theorem BrokeP_at {F : Work} {l : List T3} (hg : GoodF F) (hv : ListOk F l) {h i : Nat} {r : Int} (hr : ruleP F l h i = r) (h0 : r ≠ 0) (h1 : h < l.length) (h2 : i < 3) (h3 : ∀ h', h' < h → ∀ i', i' < 3 → ruleP F l h' i' = 0) (h4 : ∀ i', i' < i → ruleP F l h i' = 0) : BrokeP F l ((h : Int), (i : Int), r, 0) :=
  BrokeP_ok hg hv (.inl ⟨h, i, h1, h2, by rw [hr]; exact h0, h3, h4, by rw [hr]⟩)
theorem BrokeP_none {F : Work} {l : List T3} (hg : GoodF F) (hv : ListOk F l) (h3 : ∀ h', h' < l.length → ∀ i', i' < 3 → ruleP F l h' i' = 0) : BrokeP F l (0, 0, 0, 4) :=
  BrokeP_ok hg hv (.inr ⟨h3, rfl⟩)
end Foot4


namespace Go.Proofs.Ytpndeonmmcaikaa.FootW
open Go.G Foot4
set_option maxRecDepth 1000000
attribute [local irreducible] G.ParO G.Fin
set_option maxHeartbeats 4000000 in
theorem plans_r (p : T3 → Prop) [DecidablePred p] (xs : List T3) (oa : Option Addr) (c : Nat) (fv : FuncId) (caps : List Value) (Rs : List Fact) (hl : xs.length ≤ 1000) (hf : ∀ k, k < xs.length → FnV Try.prog fv (.agg #[i64 (xs.getD k default).a, i64 (xs.getD k default).b, i64 (xs.getD k default).c] :: caps) Rs (.bool (decide (p (xs.getD k default))))) : FnR Try.prog 67 [.slice oa xs.length c, .func (.func fv) #[] caps.toArray] (rowD oa 3 (encT) xs :: Rs) (fun v => (v = i64 (-1) ∧ ∀ j, j < xs.length → ¬ p (xs.getD j default)) ∨ ∃ k : Nat, v = i64 k ∧ k < xs.length ∧ p (xs.getD k default)) (fun _ => []) := by
 refine FnR.intro Try.call67 Try.func67 rfl Try.ntmps67 rfl ?_
 intro W M Rf
 refine r_seq ?_
 refine r_region ?_
 refine o_q _ rfl rfl rfl (v_assign rfl rfl) ?_
 refine o_nil ?_
 with_reducible refine r_then ?_
 refine r_seq ?_
 refine r_seq ?_
 refine r_region ?_
 refine o_q _ rfl rfl rfl (v_move rfl rfl) ?_
 refine o_q _ rfl rfl rfl (v_len rfl rfl Try.underlying48 rfl) ?_
 refine o_q _ rfl rfl rfl (v_move rfl rfl) ?_
 refine o_nil ?_
 with_reducible refine r_then ?_
 refine r_block ?_
 refine r_loop (ι := Nat) (fun k => k ≤ xs.length ∧ ∀ j, j < k → ¬ p (xs.getD j default)) (fun k => [(0, .slice oa xs.length c), (1, .func (.func fv) #[] caps.toArray), (7, i64 xs.length), (8, i64 k)]) (fun k => M) (fun k => (rowD oa 3 (encT) xs :: Rs) ++ Rf) (fun k => xs.length - k) 0 ?_ ?_ ?_
 ·
  exact r_here (by repeat (first | exact FSub.nil | refine FSub.cons rfl ?_)) SelMC.sel SubRC.sub
 ·
  exact ⟨by omega, fun j hj => absurd hj (by omega)⟩
 ·
  rintro k hI0
  refine r_seq ?_
  refine r_region ?_
  refine o_q _ rfl rfl rfl (v_lss rfl rfl rfl) ?_
  refine o_nil ?_
  with_reducible refine r_then ?_
  refine r_seq ?_
  refine r_condd rfl (fun hc9 => ?_) (fun hc9 => ?_)
  ·
   refine r_skip ?_
   with_reducible refine r_then ?_
   refine r_seq ?_
   refine r_block ?_
   refine r_seq ?_
   refine r_region ?_
   refine o_q _ rfl rfl rfl (v_move rfl rfl) ?_
   refine o_q _ rfl rfl rfl (v_assign rfl rfl) ?_
   refine o_nil ?_
   with_reducible refine r_then ?_
   refine r_seq ?_
   refine r_region ?_
   refine o_q _ rfl rfl rfl (v_move rfl rfl) ?_
   refine o_q _ rfl rfl rfl (v_move rfl rfl) ?_
   refine o_q _ rfl rfl rfl (v_move rfl rfl) ?_
   refine o_q _ rfl rfl rfl (v_indexAddrSn rfl Try.underlying48 inf55 rfl rfl rfl (by omega) rfl) ?_
   refine o_q _ rfl rfl rfl (v_loadEN rfl Try.underlying55 rfl inf55 rfl (by omega) rfl rfl rfl) ?_
   refine o_test rfl rfl rfl (OpQ.call (hf k (by omega)) rfl [] caps rfl rfl rfl SubRC.sub) (fun h16 => ?_) (fun h16 => ?_)
   all_goals
    refine o_nil ?_
    with_reducible refine r_then ?_
    refine r_cond rfl (fun hc16 => ?_) (fun hc16 => ?_)
    ·
     first
     | (exfalso; revert hc16; decide)
     |
      skip
      refine r_seq ?_
      refine r_region ?_
      refine o_q _ rfl rfl rfl (v_move rfl rfl) ?_
      refine o_q _ rfl rfl rfl (v_assign rfl rfl) ?_
      refine o_nil ?_
      with_reducible refine r_then ?_
      refine r_ret ?_
      with_reducible refine r_in_ret ?_; refine r_then_ret ?_; refine r_then_ret ?_; refine r_in_ret ?_; refine r_then_ret ?_
      exact r_retr (Rd.tmp rfl rfl) (Or.inr ⟨k, rfl, by omega, by assumption⟩) SelMC.sel SubRC.sub
    ·
     first
     | (exfalso; revert hc16; decide)
     |
      skip
      refine r_skip ?_
      with_reducible refine r_in_normal ?_; refine r_then ?_
      refine r_region ?_
      refine o_q _ rfl rfl rfl (v_add rfl rfl rfl (by omega)) ?_
      refine o_q _ rfl rfl rfl (v_move rfl rfl) ?_
      refine o_nil ?_
      with_reducible refine r_then ?_
      refine r_next (k + 1) ?_ ?_ ?_
      ·
       exact r_here (by repeat (first | exact FSub.nil | refine FSub.cons rfl ?_)) SelMC.sel SubRC.sub
      ·
       exact ⟨by omega, Foot4.all_step hI0.2 (by assumption)⟩
      ·
       omega
  ·
   refine r_exit ?_
   with_reducible refine r_then_exit ?_; refine r_then_exit ?_; refine r_in_here ?_; refine r_then ?_
   refine r_seq ?_
   refine r_region ?_
   refine o_q _ rfl rfl rfl (v_assign rfl rfl) ?_
   refine o_nil ?_
   with_reducible refine r_then ?_
   refine r_ret ?_
   exact r_retr (Rd.tmp rfl rfl) (Or.inl ⟨rfl, fun j hj => hI0.2 j (by omega)⟩) SelMC.sel SubRC.sub
set_option maxHeartbeats 4000000 in
theorem plans_c (p : T3 → Prop) [DecidablePred p] (xs : List T3) (oa : Option Addr) (c : Nat) (fv : FuncId) (caps : List Value) (Rs : List Fact) (hl : xs.length ≤ 1000) (hf : ∀ k, k < xs.length → FnV Try.prog fv (.agg #[i64 (xs.getD k default).a, i64 (xs.getD k default).b, i64 (xs.getD k default).c] :: caps) Rs (.bool (decide (p (xs.getD k default))))) : FnV Try.prog 38 [.slice oa xs.length c, .func (.func fv) #[] caps.toArray] (rowD oa 3 (encT) xs :: Rs) (.bool (decide (∃ k, k < xs.length ∧ p (xs.getD k default)))) := by
 refine FnV.intro Try.call38 Try.func38 rfl Try.ntmps38 rfl ?_
 intro W M Rf
 refine r_seq ?_
 refine r_region ?_
 refine o_q _ rfl rfl rfl (v_assign rfl rfl) ?_
 refine o_nil ?_
 with_reducible refine r_then ?_
 refine r_seq ?_
 refine r_region ?_
 refine o_q _ rfl rfl rfl (v_move rfl rfl) ?_
 refine o_q _ rfl rfl rfl (v_move rfl rfl) ?_
 refine o_fn (plans_r p xs oa c fv caps Rs hl hf) rfl rfl rfl rfl rfl SubRC.sub (fun v7 hv7 => ?_)
 obtain ⟨rfl, hn⟩ | ⟨k, rfl, hk, hp⟩ := hv7
 all_goals
  refine o_q _ rfl rfl rfl (v_geq rfl rfl rfl) ?_
  refine o_q _ rfl rfl rfl (v_assign rfl rfl) ?_
  refine o_nil ?_
  with_reducible refine r_then ?_
  refine r_ret ?_
  first
  | exact r_retv2 (Rd.tmp rfl rfl) (congrArg Value.bool ((decide_eq_false (by omega)).trans (decide_eq_false (fun ⟨k, hk, hp⟩ => hn k hk hp)).symm)) SelMC.sel SubRC.sub
  | exact r_retv2 (Rd.tmp rfl rfl) (congrArg Value.bool ((decide_eq_true (by omega)).trans (decide_eq_true ⟨k, hk, hp⟩).symm)) SelMC.sel SubRC.sub
set_option maxHeartbeats 4000000 in
theorem broken1_v (F : Work) (ro ho : Option Addr) (rc hc : Nat) (fb : Nat) (a b c : Int) (hr : F.rain.length ≤ 40) (hh : F.heaps.length ≤ 40) : FnV Try.prog 39 [.agg #[i64 a, i64 b, i64 c], pt fb 0] [boxF fb 26 (cellsF F ro rc ho hc), rowD ro 2 encS F.rain, rowD ho 3 encH F.heaps] (.bool (decide (¬ Days F.rain.length ⟨a, b, c⟩))) := by
 refine FnV.intro Try.call39 Try.func39 rfl Try.ntmps39 rfl ?_
 intro W M Rf
 refine r_seq ?_
 refine r_region ?_
 refine o_boxA rfl rfl rfl rfl rfl (fun b2 => ?_)
 refine o_q _ rfl rfl rfl (v_assign rfl rfl) ?_
 refine o_nil ?_
 with_reducible refine r_then ?_
 refine r_seq ?_
 refine r_region ?_
 refine o_q _ rfl rfl rfl (v_lfW rfl Try.underlying26 rfl inf26 rfl rfl) ?_
 refine o_q _ rfl rfl rfl (v_ldW rfl Try.underlying55 rfl inf55 rfl rfl) ?_
 refine o_test rfl rfl rfl (OpQ.fn (isDays_v F ro ho rc hc _ _ _ hr hh) rfl rfl SubRC.sub) (fun h6 => ?_) (fun h6 => ?_)
 all_goals
  refine o_q _ rfl rfl rfl (v_not rfl rfl) ?_
  refine o_q _ rfl rfl rfl (v_assign rfl rfl) ?_
  refine o_nil ?_
  with_reducible refine r_then ?_
  refine r_ret ?_
  exact r_retv2 (Rd.tmp rfl rfl) (congrArg Value.bool (by simp [*])) SelMC.sel SubRC.sub
theorem listok_of {F : Work} {l : List T3} (h1 : (l.length : Int) = (F.heaps.length : Int)) (h2 : ¬ ∃ k, k < l.length ∧ ¬ Days F.rain.length (l.getD k default)) : ListOk F l :=
  ⟨h1, fun k hk => Classical.not_not.1 fun x => h2 ⟨k, hk, x⟩⟩
theorem listok_n1 {F : Work} {l : List T3} (h1 : ¬ (l.length : Int) = (F.heaps.length : Int)) : ¬ ListOk F l := fun x => h1 x.1
theorem listok_n2 {F : Work} {l : List T3} (h2 : ∃ k, k < l.length ∧ ¬ Days F.rain.length (l.getD k default)) : ¬ ListOk F l := fun x => by
  obtain ⟨k, hk, h⟩ := h2
  exact h (x.2 k hk)
set_option maxHeartbeats 4000000 in
theorem BrokenP_r (F : Work) (ro ho : Option Addr) (rc hc : Nat) (hr : F.rain.length ≤ 40) (hh : F.heaps.length ≤ 40) (l : List T3) (lo : Option Addr) (lc : Nat) (hl : l.length ≤ 40) : FnR Try.prog 12 [valF F ro rc ho hc, .slice lo l.length lc] [rowD lo 3 encT l, rowD ro 2 encS F.rain, rowD ho 3 encH F.heaps] (fun v => ∃ x : Int × Int × Int × Int, v = .tuple #[i64 x.1, i64 x.2.1, i64 x.2.2.1, i64 x.2.2.2] ∧ BrokeP F l x) (fun _ => []) := by
 refine FnR.introD Try.call12 Try.func12 rfl Try.ntmps12 rfl ?_
 intro W M Rf
 refine r_seq ?_
 refine r_region ?_
 refine o_boxA rfl rfl rfl rfl rfl (fun b2 => ?_)
 refine o_q _ rfl rfl rfl (v_assign rfl rfl) ?_
 refine o_q _ rfl rfl rfl (v_assign rfl rfl) ?_
 refine o_q _ rfl rfl rfl (v_assign rfl rfl) ?_
 refine o_alloc rfl inf43 rfl rfl rfl rfl rfl (fun b7 => ?_)
 refine o_nil ?_
 with_reducible refine r_then ?_
 refine r_seq ?_
 refine r_region ?_
 refine o_defer rfl rfl rfl rfl ?_
 refine o_nil ?_
 with_reducible refine r_then ?_
 refine r_seq ?_
 refine Imp.sealB b2 ?_
 refine r_par' 13 mixed (by kernel_rfl) (by rfl) ?_
 refine p_q _ rfl rfl rfl (fun _ _ => v_lfW rfl Try.underlying26 rfl inf26 rfl rfl) ?_
 refine p_q _ rfl rfl rfl (fun _ _ => v_move rfl rfl) ?_
 refine p_q _ rfl rfl rfl (fun _ _ => v_len rfl rfl Try.underlying48 rfl) ?_
 refine p_q _ rfl rfl rfl (fun _ _ => v_fieldAddr rfl Try.underlying26 inf24 rfl rfl rfl rfl) ?_
 refine p_q _ rfl rfl rfl (fun _ _ => v_lf1 rfl Try.underlying24 rfl rfl rfl) ?_
 refine p_q _ rfl rfl rfl (fun _ _ => v_len rfl rfl Try.underlying24 rfl) ?_
 refine p_test rfl rfl rfl (fun _ _ => v_eql rfl rfl rfl) (fun h20 => ?_) (fun h20 => ?_)
 all_goals
  refine p_q _ rfl rfl rfl (fun _ _ => v_move rfl rfl) ?_
  first | refine p_gn rfl rfl rfl rfl ?_ | refine p_g _ rfl rfl rfl rfl (fun _ _ => v_move rfl rfl) ?_
  first | refine p_gn rfl rfl rfl rfl ?_ | refine p_g _ rfl rfl rfl rfl (fun _ _ => v_makeFunc rfl rfl rfl) ?_
  first | refine p_gn rfl rfl rfl rfl ?_ | refine p_gtest rfl rfl rfl rfl (fun _ _ => OpQ.fn (plans_c (fun p => ¬ Days F.rain.length p) l lo lc 39 [pt b2 0] [boxF b2 26 (cellsF F ro rc ho hc), rowD ro 2 encS F.rain, rowD ho 3 encH F.heaps] (by omega) (fun k _ => broken1_v F ro ho rc hc b2 _ _ _ hr hh)) rfl rfl SubRC.sub) (fun h24 => ?_) (fun h24 => ?_)
  all_goals
   first | refine p_gn rfl rfl rfl rfl ?_ | refine p_g _ rfl rfl rfl rfl (fun _ _ => v_not rfl rfl) ?_
   first | refine p_q _ rfl rfl rfl (fun _ _ => v_pick_t rfl rfl rfl) ?_ | refine p_q _ rfl rfl rfl (fun _ _ => v_pick_f rfl rfl rfl) ?_
   refine p_nil2 (by simp only [List.nil_append, List.cons_append]; rfl) rfl ?_
   refine f_q rfl ?_
   refine f_q rfl ?_
   refine f_q rfl ?_
   refine f_q rfl ?_
   refine f_q rfl ?_
   refine f_q rfl ?_
   refine f_q rfl ?_
   refine f_q rfl ?_
   refine f_q rfl ?_
   refine f_q rfl ?_
   refine f_q rfl ?_
   refine f_q rfl ?_
   refine f_q rfl ?_
   refine f_nil ?_
   by_cases hg : GoodF F
   all_goals
    first | refine o_fnp (open_ok F ro ho rc hc hr hh hg) rfl rfl rfl rfl rfl SubRC.sub (fun fb => ?_) | refine o_fnx (open_x F ro ho rc hc _ hr hh (by first | exact chk_false F | exact chk_ne hg)) rfl rfl rfl SubRC.sub ?_
    all_goals
     repeat (first | with_reducible refine r_then_panic ?_)
     try (first | exact d_panr answer_ans (Rd.four rfl (RdI.tmp rfl) (RdI.tmp rfl) (RdI.tmp rfl) (RdI.cell1 Try.underlying43 rfl rfl rfl)) ⟨(0, 0, 0, chk F true), rfl, BrokeP_of true (decide_eq_true (listok_of (by assumption) (by assumption))) (chk_ne hg)⟩ SelMC.sel SubRC.sub | exact d_panr answer_ans (Rd.four rfl (RdI.tmp rfl) (RdI.tmp rfl) (RdI.tmp rfl) (RdI.cell1 Try.underlying43 rfl rfl rfl)) ⟨(0, 0, 0, chk F false), rfl, BrokeP_of false (decide_eq_false (listok_n1 (by assumption))) (chk_false F)⟩ SelMC.sel SubRC.sub | exact d_panr answer_ans (Rd.four rfl (RdI.tmp rfl) (RdI.tmp rfl) (RdI.tmp rfl) (RdI.cell1 Try.underlying43 rfl rfl rfl)) ⟨(0, 0, 0, chk F false), rfl, BrokeP_of false (decide_eq_false (listok_n2 (by assumption))) (chk_false F)⟩ SelMC.sel SubRC.sub)
     all_goals
      refine o_q _ rfl rfl rfl (v_assign rfl rfl) ?_
      refine o_nil ?_
      with_reducible refine r_then ?_
      refine r_seq ?_
      have hb := hg.bnd
      have hl3 := hg.2.2.1
      have hlo : ListOk F l := listok_of (by assumption) (by assumption)
      refine r_region ?_
      refine o_alloc rfl inf87 rfl rfl rfl rfl rfl (fun b9 => ?_)
      refine o_nil ?_
      with_reducible refine r_then ?_
      refine r_seq ?_
      refine r_seq ?_
      refine r_region ?_
      refine o_q _ rfl rfl rfl (v_move rfl rfl) ?_
      refine o_q _ rfl rfl rfl (v_len rfl rfl Try.underlying48 rfl) ?_
      refine o_q _ rfl rfl rfl (v_move rfl rfl) ?_
      refine o_nil ?_
      with_reducible refine r_then ?_
      refine r_block ?_
      refine r_loop (ι := Nat) (fun k => k ≤ l.length ∧ ∀ h, h < k → ∀ i, i < 3 → ruleP F l h i = 0) (fun k => [(2, pt b2 0), (7, pt b7 0), (8, pt fb 0), (9, pt b9 0), (28, .slice lo l.length lc), (29, i64 l.length), (30, i64 k)]) (fun k => bx b9 87 ((busyTo l k).map iv) :: bx b7 43 [i64 0] :: M) (fun k => boxF fb 126 (cellsF F ro rc ho hc) :: boxF b2 26 (cellsF F ro rc ho hc) :: ([rowD lo 3 encT l, rowD ro 2 encS F.rain, rowD ho 3 encH F.heaps] ++ Rf)) (fun k => l.length - k) 0 ?_ ?_ ?_
      ·
       refine Imp.box_to b7 [i64 0] rfl ?_
       refine Imp.box_to b9 ((busyTo l 0).map iv) rfl ?_
       exact r_here (by repeat (first | exact FSub.nil | refine FSub.cons rfl ?_)) SelMC.sel SubRC.sub
      ·
       exact ⟨Nat.zero_le _, fun h hh => absurd hh (by omega)⟩
      ·
       rintro k hI0
       obtain ⟨a, b, c, hp⟩ : ∃ a b c, l.getD k default = ⟨a, b, c⟩ := ⟨_, _, _, rfl⟩
       refine r_seq ?_
       refine r_region ?_
       refine o_q _ rfl rfl rfl (v_lss rfl rfl rfl) ?_
       refine o_nil ?_
       with_reducible refine r_then ?_
       refine r_seq ?_
       refine r_condd rfl (fun hc31 => ?_) (fun hc31 => ?_)
       ·
        refine r_skip ?_
        with_reducible refine r_then ?_
        refine r_seq ?_
        refine r_block ?_
        refine r_seq ?_
        have hdl : Days F.rain.length ⟨a, b, c⟩ := hp ▸ hlo.2 k (by omega)
        refine r_region ?_
        refine o_q _ rfl rfl rfl (v_move rfl rfl) ?_
        refine o_q _ rfl rfl rfl (v_indexAddrSn rfl Try.underlying48 inf55 rfl rfl rfl (by omega) rfl) ?_
        refine o_q _ rfl rfl rfl (v_loadEN rfl Try.underlying55 rfl inf55 rfl (by omega) rfl rfl rfl) ?_
        simp only [hp]
        refine o_alloc rfl inf55 rfl rfl rfl rfl rfl (fun b11 => ?_)
        refine o_q _ rfl rfl rfl (v_assign rfl rfl) ?_
        refine o_st rfl inf55 rfl rfl rfl rfl rfl rfl rfl rfl ?_
        refine o_nil ?_
        with_reducible refine r_then ?_
        refine r_seq ?_
        refine r_seq ?_
        refine r_region ?_
        refine o_q _ rfl rfl rfl (v_ldW rfl Try.underlying55 rfl inf55 rfl rfl) ?_
        refine o_q _ rfl rfl rfl (v_move rfl rfl) ?_
        refine o_nil ?_
        with_reducible refine r_then ?_
        refine r_block ?_
        refine r_loop (ι := Nat) (fun j => j ≤ 3 ∧ ∀ i, i < j → ruleP F l k i = 0) (fun j => [(2, pt b2 0), (7, pt b7 0), (8, pt fb 0), (9, pt b9 0), (28, .slice lo l.length lc), (29, i64 l.length), (30, i64 k), (10, i64 k), (11, pt b11 0), (35, .agg #[i64 a, i64 b, i64 c]), (36, i64 j)]) (fun j => bx b11 55 [i64 a, i64 b, i64 c] :: bx b9 87 ((busyTo l k).map iv) :: bx b7 43 [i64 0] :: M) (fun j => boxF fb 126 (cellsF F ro rc ho hc) :: boxF b2 26 (cellsF F ro rc ho hc) :: ([rowD lo 3 encT l, rowD ro 2 encS F.rain, rowD ho 3 encH F.heaps] ++ Rf)) (fun j => 3 - j) 0 ?_ ?_ ?_
        ·
         refine Imp.box_to b11 [i64 a, i64 b, i64 c] rfl ?_
         exact r_here (by repeat (first | exact FSub.nil | refine FSub.cons rfl ?_)) SelMC.sel SubRC.sub
        ·
         exact ⟨Nat.zero_le _, fun h hh => absurd hh (by omega)⟩
        ·
         rintro j hI1
         refine r_seq ?_
         refine r_region ?_
         refine o_q _ rfl rfl rfl (v_lss rfl rfl rfl) ?_
         refine o_nil ?_
         with_reducible refine r_then ?_
         refine r_seq ?_
         refine r_condd rfl (fun hc37 => ?_) (fun hc37 => ?_)
         ·
          refine r_skip ?_
          with_reducible refine r_then ?_
          refine r_seq ?_
          refine r_block ?_
          refine r_seq ?_
          refine r_region ?_
          refine o_q _ rfl rfl rfl (v_move rfl rfl) ?_
          refine o_q _ rfl rfl rfl (v_indexV rfl Try.underlying55 inf3 Try.underlying3 rfl rfl rfl (by omega) (t3_atv (by omega))) ?_
          refine o_q _ rfl rfl rfl (v_assign rfl rfl) ?_
          refine o_q _ rfl rfl rfl (v_assign rfl rfl) ?_
          refine o_nil ?_
          with_reducible refine r_then ?_
          refine r_block ?_
          refine r_seq ?_
          have hdj := (hdl j (by omega)).2
          refine r_region ?_
          refine o_q _ rfl rfl rfl (v_move rfl rfl) ?_
          refine o_q _ rfl rfl rfl (v_lss rfl rfl rfl) ?_
          refine o_q _ rfl rfl rfl (v_assign rfl rfl) ?_
          refine o_nil ?_
          with_reducible refine r_then ?_
          refine r_condd rfl (fun hc40 => ?_) (fun hc40 => ?_)
          ·
           refine r_skip ?_
           with_reducible refine r_in_normal ?_; refine r_in_normal ?_; refine r_then ?_
           refine r_region ?_
           refine o_q _ rfl rfl rfl (v_add rfl rfl rfl (by omega)) ?_
           refine o_q _ rfl rfl rfl (v_move rfl rfl) ?_
           refine o_nil ?_
           with_reducible refine r_then ?_
           refine r_next (j + 1) ?_ ?_ ?_
           ·
            exact r_here (by repeat (first | exact FSub.nil | refine FSub.cons rfl ?_)) SelMC.sel SubRC.sub
           ·
            exact ⟨by omega, Foot4.all_step hI1.2 (by first | exact rule_n hp (by assumption) | exact rule_0 hp (by assumption) (by assumption) (by assumption) (by assumption))⟩
           ·
            omega
          ·
           refine r_seq ?_
           refine r_region ?_
           refine o_q _ rfl rfl rfl (v_ldW rfl Try.underlying55 rfl inf55 rfl rfl) ?_
           refine o_q _ rfl rfl rfl (v_move rfl rfl) ?_
           refine o_test rfl rfl rfl (OpQ.fn (ordered_v _ _ _ j (by omega)) rfl rfl SubRC.sub) (fun h46 => ?_) (fun h46 => ?_)
           all_goals
            refine o_q _ rfl rfl rfl (v_not rfl rfl) ?_
            refine o_q _ rfl rfl rfl (v_assign rfl rfl) ?_
            refine o_nil ?_
            with_reducible refine r_then ?_
            refine r_cond rfl (fun hc43 => ?_) (fun hc43 => ?_)
            ·
             first
             | (exfalso; revert hc43; decide)
             |
              skip
              refine r_seq ?_
              refine r_region ?_
              refine o_q _ rfl rfl rfl (v_move rfl rfl) ?_
              refine o_q _ rfl rfl rfl (v_move rfl rfl) ?_
              refine o_q _ rfl rfl rfl (v_assign rfl rfl) ?_
              refine o_q _ rfl rfl rfl (v_assign rfl rfl) ?_
              refine o_q _ rfl rfl rfl (v_assign rfl rfl) ?_
              refine o_st rfl inf43 rfl rfl rfl rfl rfl rfl rfl rfl ?_
              refine o_nil ?_
              with_reducible refine r_then ?_
              refine r_ret ?_
              with_reducible refine r_in_ret ?_; refine r_in_ret ?_; refine r_then_ret ?_; refine r_then_ret ?_; refine r_in_ret ?_; refine r_then_ret ?_; refine r_in_ret ?_; refine r_then_ret ?_; refine r_then_ret ?_; refine r_in_ret ?_; refine r_then_ret ?_
              exact d_retr answer_ans (Rd.four rfl (RdI.tmp rfl) (RdI.tmp rfl) (RdI.tmp rfl) (RdI.cell1 Try.underlying43 rfl rfl rfl)) ⟨((k : Int), (j : Int), 1, 0), rfl, BrokeP_at hg hlo (rule_1 hp (by assumption) (by assumption)) (by decide) (by omega) (by omega) hI0.2 hI1.2⟩ SelMC.sel SubRC.sub
            ·
             first
             | (exfalso; revert hc43; decide)
             |
              skip
              refine r_seq ?_
              refine r_region ?_
              refine o_q _ rfl rfl rfl (v_move rfl rfl) ?_
              refine o_q _ rfl rfl rfl (v_move rfl rfl) ?_
              refine o_q _ rfl rfl rfl (v_ldW rfl Try.underlying55 rfl inf55 rfl rfl) ?_
              refine o_q _ rfl rfl rfl (v_move rfl rfl) ?_
              refine o_q _ rfl rfl rfl (v_bS0 rfl Try.underlying97 inf97 plt97 rfl rfl) ?_
              refine o_q _ rfl rfl rfl (v_makeIface rfl Try.underlying97 rfl rfl) ?_
              refine o_test rfl rfl rfl (OpQ.fn (can_v wetT F ro ho rc hc fb _ _ _ _ j (by omega) (by omega) (by omega) hb hdj) rfl rfl SubRC.sub) (fun h57 => ?_) (fun h57 => ?_)
              all_goals
               refine o_q _ rfl rfl rfl (v_not rfl rfl) ?_
               refine o_q _ rfl rfl rfl (v_assign rfl rfl) ?_
               refine o_nil ?_
               with_reducible refine r_then ?_
               refine r_cond rfl (fun hc50 => ?_) (fun hc50 => ?_)
               ·
                first
                | (exfalso; revert hc50; decide)
                |
                 skip
                 refine r_seq ?_
                 refine r_region ?_
                 refine o_q _ rfl rfl rfl (v_move rfl rfl) ?_
                 refine o_q _ rfl rfl rfl (v_move rfl rfl) ?_
                 refine o_q _ rfl rfl rfl (v_assign rfl rfl) ?_
                 refine o_q _ rfl rfl rfl (v_assign rfl rfl) ?_
                 refine o_q _ rfl rfl rfl (v_assign rfl rfl) ?_
                 refine o_st rfl inf43 rfl rfl rfl rfl rfl rfl rfl rfl ?_
                 refine o_nil ?_
                 with_reducible refine r_then ?_
                 refine r_ret ?_
                 with_reducible refine r_in_ret ?_; refine r_in_ret ?_; refine r_then_ret ?_; refine r_then_ret ?_; refine r_in_ret ?_; refine r_then_ret ?_; refine r_in_ret ?_; refine r_then_ret ?_; refine r_then_ret ?_; refine r_in_ret ?_; refine r_then_ret ?_
                 exact d_retr answer_ans (Rd.four rfl (RdI.tmp rfl) (RdI.tmp rfl) (RdI.tmp rfl) (RdI.cell1 Try.underlying43 rfl rfl rfl)) ⟨((k : Int), (j : Int), 2, 0), rfl, BrokeP_at hg hlo (rule_2 hp (by assumption) (by assumption) (by assumption)) (by decide) (by omega) (by omega) hI0.2 hI1.2⟩ SelMC.sel SubRC.sub
               ·
                first
                | (exfalso; revert hc50; decide)
                |
                 skip
                 refine r_seq ?_
                 refine r_region_q mixed (by kernel_rfl) ?_
                 refine q_q _ rfl rfl rfl (v_move rfl rfl) ?_
                 refine q_q _ rfl rfl rfl (v_indexAddrA rfl Try.underlying87 inf3 rfl rfl (by have := hb.len; omega)) ?_
                 refine q_q _ rfl rfl rfl (v_ld1 rfl Try.underlying3 rfl rfl (map_at (by rw [busyTo_len]; have := hb.len; omega))) ?_
                 refine q_q _ rfl rfl rfl (v_fieldAddr rfl Try.underlying26 inf3 rfl rfl rfl rfl) ?_
                 refine q_q _ rfl rfl rfl (v_lf1 rfl Try.underlying3 rfl rfl rfl) ?_
                 refine q_q _ rfl rfl rfl (v_geq rfl rfl rfl) ?_
                 refine q_q _ rfl rfl rfl (v_assign rfl rfl) ?_
                 refine q_nil ?_
                 with_reducible refine r_then ?_
                 refine r_condd rfl (fun hc61 => ?_) (fun hc61 => ?_)
                 ·
                  refine r_seq ?_
                  refine r_region ?_
                  refine o_q _ rfl rfl rfl (v_move rfl rfl) ?_
                  refine o_q _ rfl rfl rfl (v_move rfl rfl) ?_
                  refine o_q _ rfl rfl rfl (v_assign rfl rfl) ?_
                  refine o_q _ rfl rfl rfl (v_assign rfl rfl) ?_
                  refine o_q _ rfl rfl rfl (v_assign rfl rfl) ?_
                  refine o_st rfl inf43 rfl rfl rfl rfl rfl rfl rfl rfl ?_
                  refine o_nil ?_
                  with_reducible refine r_then ?_
                  refine r_ret ?_
                  with_reducible refine r_in_ret ?_; refine r_in_ret ?_; refine r_then_ret ?_; refine r_then_ret ?_; refine r_in_ret ?_; refine r_then_ret ?_; refine r_in_ret ?_; refine r_then_ret ?_; refine r_then_ret ?_; refine r_in_ret ?_; refine r_then_ret ?_
                  exact d_retr answer_ans (Rd.four rfl (RdI.tmp rfl) (RdI.tmp rfl) (RdI.tmp rfl) (RdI.cell1 Try.underlying43 rfl rfl rfl)) ⟨((k : Int), (j : Int), 3, 0), rfl, BrokeP_at hg hlo (rule_3 hp (by assumption) (by assumption) (by assumption) (by assumption)) (by decide) (by omega) (by omega) hI0.2 hI1.2⟩ SelMC.sel SubRC.sub
                 ·
                  refine r_skip ?_
                  with_reducible refine r_in_normal ?_; refine r_in_normal ?_; refine r_then ?_
                  refine r_region ?_
                  refine o_q _ rfl rfl rfl (v_add rfl rfl rfl (by omega)) ?_
                  refine o_q _ rfl rfl rfl (v_move rfl rfl) ?_
                  refine o_nil ?_
                  with_reducible refine r_then ?_
                  refine r_next (j + 1) ?_ ?_ ?_
                  ·
                   exact r_here (by repeat (first | exact FSub.nil | refine FSub.cons rfl ?_)) SelMC.sel SubRC.sub
                  ·
                   exact ⟨by omega, Foot4.all_step hI1.2 (by first | exact rule_n hp (by assumption) | exact rule_0 hp (by assumption) (by assumption) (by assumption) (by assumption))⟩
                  ·
                   omega
         ·
          refine r_exit ?_
          with_reducible refine r_then_exit ?_; refine r_then_exit ?_; refine r_in_here ?_; refine r_then ?_
          have hsm : Small (busyTo l k) 1000 := fun i => by have := busyTo_small l k i; omega
          have hd7 : ∀ i, i < 3 → (⟨a, b, c⟩ : T3).at i ≤ 7 := fun i hi => by have := (hdl i hi).2; have := hb.len; omega
          refine r_region ?_
          refine o_q _ rfl rfl rfl (v_ldW rfl Try.underlying87 rfl inf87 rfl (by rw [List.length_map, busyTo_len]; rfl)) ?_
          refine o_q _ rfl rfl rfl (v_ldW rfl Try.underlying55 rfl inf55 rfl rfl) ?_
          refine o_q _ rfl rfl rfl (OpQ.fn (with_v _ _ _ _ (busyTo_len l k) hsm hd7) rfl rfl SubRC.sub) ?_
          refine o_st (us := ((busyTo l (k + 1)).map iv)) rfl inf87 rfl rfl rfl rfl (by show List.map iv (with_ (busyTo l k) ⟨a, b, c⟩) = List.map iv (with_ (busyTo l k) (l.getD k default)); rw [hp]) (by rw [List.length_map, busyTo_len]; rfl) (oneCells_map _) (by rw [List.length_map, List.length_map, busyTo_len, busyTo_len]; rfl) ?_
          refine o_nil ?_
          with_reducible refine r_in_normal ?_; refine r_then ?_
          refine r_region ?_
          refine o_q _ rfl rfl rfl (v_add rfl rfl rfl (by omega)) ?_
          refine o_q _ rfl rfl rfl (v_move rfl rfl) ?_
          refine o_nil ?_
          with_reducible refine r_then ?_
          refine r_next (k + 1) ?_ ?_ ?_
          ·
           refine Imp.box_to b9 ((busyTo l (k + 1)).map iv) (splice_all (by rw [List.length_map, List.length_map, busyTo_len, busyTo_len])) ?_
           exact r_here (by repeat (first | exact FSub.nil | refine FSub.cons rfl ?_)) SelMC.sel SubRC.sub
          ·
           exact ⟨by omega, Foot4.all_step hI0.2 (fun i hi => hI1.2 i (by omega))⟩
          ·
           omega
       ·
        refine r_exit ?_
        with_reducible refine r_then_exit ?_; refine r_then_exit ?_; refine r_in_here ?_; refine r_then ?_
        refine r_seq ?_
        refine r_region ?_
        refine o_q _ rfl rfl rfl (v_assign rfl rfl) ?_
        refine o_q _ rfl rfl rfl (v_assign rfl rfl) ?_
        refine o_q _ rfl rfl rfl (v_assign rfl rfl) ?_
        refine o_st rfl inf43 rfl rfl rfl rfl rfl rfl rfl rfl ?_
        refine o_nil ?_
        with_reducible refine r_then ?_
        refine r_ret ?_
        exact d_retr answer_ans (Rd.four rfl (RdI.tmp rfl) (RdI.tmp rfl) (RdI.tmp rfl) (RdI.cell1 Try.underlying43 rfl rfl rfl)) ⟨(0, 0, 0, 4), rfl, BrokeP_none hg hlo (fun h hh => hI0.2 h (by omega))⟩ SelMC.sel SubRC.sub
end Go.Proofs.Ytpndeonmmcaikaa.FootW


namespace Foot4
open Go Go.G
structure Way where
  sods : Int
  plan : T3
  deriving DecidableEq, Inhabited
def encW (w : Way) : List Value := [i64 w.sods, i64 w.plan.a, i64 w.plan.b, i64 w.plan.c]
def more (x y : Way) : Bool := decide (y.sods < x.sods)
theorem more_no {p q : Way} (h : ¬ q.sods < p.sods) : ¬ more p q = true := fun x => h (of_decide_eq_true x)
def wayL (l : List Way) : Way := best1 more default l l.length
def sumTo (xs : List Int) : Nat → Int
  | 0 => 0
  | k + 1 => sumTo xs k + xs.getD k 0
theorem sumTo_bd {xs : List Int} (h : ∀ k, -10000 ≤ xs.getD k 0 ∧ xs.getD k 0 ≤ 10000) : ∀ k : Nat, -10000 * (k : Int) ≤ sumTo xs k ∧ sumTo xs k ≤ 10000 * k
  | 0 => by simp [sumTo]
  | k + 1 => by
    have := sumTo_bd h k
    have := h k
    simp only [sumTo]
    omega
theorem left_at {B : List Int} {hp : Int} {m : Nat} (h : m < B.length) : (i64 hp :: B.map iv)[0 + 1 + m * 1]? = some (i64 (B.getD m 0)) := by
  rw [show 0 + 1 + m * 1 = m + 1 from by omega, List.getElem?_cons_succ, List.getElem?_map, List.getD_eq_getElem?_getD, List.getElem?_eq_getElem h]
  rfl
end Foot4


namespace Go.Proofs.Ytpndeonmmcaikaa.FootW
open Go.G Foot4
set_option maxRecDepth 1000000
attribute [local irreducible] G.ParO G.Fin
set_option maxHeartbeats 4000000 in
theorem total_v (xs : List Int) (oa : Option Addr) (c : Nat) (hl : xs.length ≤ 100) (hb : ∀ k, -10000 ≤ xs.getD k 0 ∧ xs.getD k 0 ≤ 10000) : FnV Try.prog 63 [.slice oa xs.length c] [rowD oa 1 (fun x : Int => [i64 x]) xs] (i64 (sumTo xs xs.length)) := by
 refine FnV.intro Try.call63 Try.func63 rfl Try.ntmps63 rfl ?_
 intro W M Rf
 refine r_seq ?_
 refine r_region ?_
 refine o_q _ rfl rfl rfl (v_assign rfl rfl) ?_
 refine o_nil ?_
 with_reducible refine r_then ?_
 refine r_seq ?_
 refine r_seq ?_
 refine r_region ?_
 refine o_q _ rfl rfl rfl (v_move rfl rfl) ?_
 refine o_q _ rfl rfl rfl (v_len rfl rfl Try.underlying33 rfl) ?_
 refine o_q _ rfl rfl rfl (v_move rfl rfl) ?_
 refine o_nil ?_
 with_reducible refine r_then ?_
 refine r_block ?_
 refine r_loop (ι := Nat) (fun k => k ≤ xs.length) (fun k => [(2, i64 (sumTo xs k)), (5, .slice oa xs.length c), (6, i64 xs.length), (7, i64 k)]) (fun k => M) (fun k => [rowD oa 1 (fun x : Int => [i64 x]) xs] ++ Rf) (fun k => xs.length - k) 0 ?_ ?_ ?_
 ·
  exact r_here (by repeat (first | exact FSub.nil | refine FSub.cons rfl ?_)) SelMC.sel SubRC.sub
 ·
  omega
 ·
  rintro k hI0
  have hbk := sumTo_bd hb k
  have hbe := hb k
  refine r_seq ?_
  refine r_region ?_
  refine o_q _ rfl rfl rfl (v_lss rfl rfl rfl) ?_
  refine o_nil ?_
  with_reducible refine r_then ?_
  refine r_seq ?_
  refine r_condd rfl (fun hc8 => ?_) (fun hc8 => ?_)
  ·
   refine r_skip ?_
   with_reducible refine r_then ?_
   refine r_seq ?_
   refine r_block ?_
   refine r_seq ?_
   refine r_region ?_
   refine o_q _ rfl rfl rfl (v_indexAddrSn rfl Try.underlying33 inf3 rfl rfl rfl (by omega) rfl) ?_
   refine o_q _ rfl rfl rfl (v_loadE1 rfl Try.underlying3 rfl rfl (by omega) rfl rfl) ?_
   refine o_q _ rfl rfl rfl (v_assign rfl rfl) ?_
   refine o_nil ?_
   with_reducible refine r_then ?_
   refine r_region ?_
   refine o_q _ rfl rfl rfl (v_move rfl rfl) ?_
   refine o_q _ rfl rfl rfl (v_move rfl rfl) ?_
   refine o_q _ rfl rfl rfl (v_add rfl rfl rfl (by have e : (xs.getD k default) = xs.getD k 0 := rfl; omega)) ?_
   refine o_q _ rfl rfl rfl (v_assign rfl rfl) ?_
   refine o_nil ?_
   with_reducible refine r_in_normal ?_; refine r_then ?_
   refine r_region ?_
   refine o_q _ rfl rfl rfl (v_add rfl rfl rfl (by omega)) ?_
   refine o_q _ rfl rfl rfl (v_move rfl rfl) ?_
   refine o_nil ?_
   with_reducible refine r_then ?_
   refine r_next (k + 1) ?_ ?_ ?_
   ·
    exact r_here (by repeat (first | exact FSub.nil | refine FSub.cons rfl ?_ | refine FSub.cons2 rfl (congrArg (Value.int .i64) (by first | omega | rfl)) ?_)) SelMC.sel SubRC.sub
   ·
    omega
   ·
    omega
  ·
   refine r_exit ?_
   with_reducible refine r_then_exit ?_; refine r_then_exit ?_; refine r_in_here ?_; refine r_then ?_
   refine r_seq ?_
   refine r_region ?_
   refine o_q _ rfl rfl rfl (v_move rfl rfl) ?_
   refine o_q _ rfl rfl rfl (v_assign rfl rfl) ?_
   refine o_nil ?_
   with_reducible refine r_then ?_
   refine r_ret ?_
   have hk : k = xs.length := by omega
   subst hk
   exact r_retv2 (Rd.tmp rfl rfl) rfl SelMC.sel SubRC.sub
set_option maxHeartbeats 4000000 in
theorem busyAt_v (B : List Int) (hp men d : Int) (lb mb : Nat) (hB : B.length = 8) (hd : 0 ≤ d ∧ d ≤ 7) : FnV Try.prog 62 [i64 d, pt lb 0, pt mb 0] [boxF lb 89 (i64 hp :: B.map iv), boxF mb 3 [i64 men]] (.bool (decide (men ≤ B.getD d.toNat 0))) := by
 refine FnV.intro Try.call62 Try.func62 rfl Try.ntmps62 rfl ?_
 intro W M Rf
 refine r_seq ?_
 refine r_region ?_
 refine o_q _ rfl rfl rfl (v_assign rfl rfl) ?_
 refine o_nil ?_
 with_reducible refine r_then ?_
 refine r_seq ?_
 refine r_region_q mixed (by kernel_rfl) ?_
 refine q_q _ rfl rfl rfl (v_move rfl rfl) ?_
 refine q_q _ rfl rfl rfl (v_fieldAddr rfl Try.underlying89 inf87 rfl rfl rfl rfl) ?_
 refine q_q _ rfl rfl rfl (v_indexAddrA rfl Try.underlying87 inf3 rfl rfl (by omega)) ?_
 refine q_q _ rfl rfl rfl (v_lf1 rfl Try.underlying3 rfl rfl (left_at (by omega))) ?_
 refine q_q _ rfl rfl rfl (v_lf1 rfl Try.underlying3 rfl rfl rfl) ?_
 refine q_q _ rfl rfl rfl (v_geq rfl rfl rfl) ?_
 refine q_q _ rfl rfl rfl (v_assign rfl rfl) ?_
 refine q_nil ?_
 with_reducible refine r_then ?_
 refine r_ret ?_
 exact r_retv2 (Rd.tmp rfl rfl) rfl SelMC.sel SubRC.sub
set_option maxHeartbeats 4000000 in
theorem more_v (a b c d e f p q : Int) : FnV Try.prog 65 [.agg #[i64 a, i64 b, i64 c, i64 d], .agg #[i64 e, i64 f, i64 p, i64 q]] [] (.bool (decide (e < a))) := by
 refine FnV.intro Try.call65 Try.func65 rfl Try.ntmps65 rfl ?_
 intro W M Rf
 refine r_seq ?_
 refine r_region ?_
 refine o_boxA rfl rfl rfl rfl rfl (fun b2 => ?_)
 refine o_boxA rfl rfl rfl rfl rfl (fun b3 => ?_)
 refine o_q _ rfl rfl rfl (v_assign rfl rfl) ?_
 refine o_nil ?_
 with_reducible refine r_then ?_
 refine r_seq ?_
 refine r_region ?_
 refine o_q _ rfl rfl rfl (v_fieldAddr rfl Try.underlying91 inf3 rfl rfl rfl rfl) ?_
 refine o_q _ rfl rfl rfl (v_ld1 rfl Try.underlying3 rfl rfl rfl) ?_
 refine o_q _ rfl rfl rfl (v_fieldAddr rfl Try.underlying91 inf3 rfl rfl rfl rfl) ?_
 refine o_q _ rfl rfl rfl (v_ld1 rfl Try.underlying3 rfl rfl rfl) ?_
 refine o_q _ rfl rfl rfl (v_gtr rfl rfl rfl) ?_
 refine o_q _ rfl rfl rfl (v_assign rfl rfl) ?_
 refine o_nil ?_
 with_reducible refine r_then ?_
 refine r_ret ?_
 exact r_retv2 (Rd.tmp rfl rfl) rfl SelMC.sel SubRC.sub
set_option maxHeartbeats 4000000 in
theorem chosenW_v (xs : List Foot4.Way) (oa : Option Addr) (c : Nat) (hl : xs.length ≤ 1001) : FnV Try.prog 64 [.slice oa xs.length c, .agg #[.func (.func 65) #[] #[]]] [rowD oa 4 encW xs] (.tuple #[.agg #[i64 (wayL xs).sods, i64 (wayL xs).plan.a, i64 (wayL xs).plan.b, i64 (wayL xs).plan.c], .bool (decide (0 < (xs.length : Int)))]) := by
 refine FnV.intro Try.call64 Try.func64 rfl Try.ntmps64 rfl ?_
 intro W M Rf
 refine r_seq ?_
 refine r_region ?_
 refine o_boxA rfl rfl rfl rfl rfl (fun b3 => ?_)
 refine o_alloc rfl inf91 rfl rfl rfl rfl rfl (fun b4 => ?_)
 refine o_q _ rfl rfl rfl (v_assign rfl rfl) ?_
 refine o_nil ?_
 with_reducible refine r_then ?_
 refine r_seq ?_
 refine r_seq ?_
 refine r_region ?_
 refine o_q _ rfl rfl rfl (v_move rfl rfl) ?_
 refine o_q _ rfl rfl rfl (v_len rfl rfl Try.underlying130 rfl) ?_
 refine o_q _ rfl rfl rfl (v_move rfl rfl) ?_
 refine o_nil ?_
 with_reducible refine r_then ?_
 refine r_block ?_
 refine r_loop (ι := Nat) (fun k => k ≤ xs.length) (fun k => [(0, .slice oa xs.length c), (3, pt b3 0), (4, pt b4 0), (8, .slice oa xs.length c), (9, i64 xs.length), (10, i64 k)]) (fun k => bx b4 91 (encW (best1 more default xs k)) :: bx b3 136 [.func (.func 65) #[] #[]] :: M) (fun k => [rowD oa 4 encW xs] ++ Rf) (fun k => xs.length - k) 0 ?_ ?_ ?_
 ·
  refine Imp.box_to b4 (encW (best1 more default xs 0)) rfl ?_
  exact r_here (by repeat (first | exact FSub.nil | refine FSub.cons rfl ?_)) SelMC.sel SubRC.sub
 ·
  omega
 ·
  rintro k hI0
  refine r_seq ?_
  refine r_region ?_
  refine o_q _ rfl rfl rfl (v_lss rfl rfl rfl) ?_
  refine o_nil ?_
  with_reducible refine r_then ?_
  refine r_seq ?_
  refine r_condd rfl (fun hc11 => ?_) (fun hc11 => ?_)
  ·
   refine r_skip ?_
   with_reducible refine r_then ?_
   refine r_seq ?_
   refine r_block ?_
   refine r_seq ?_
   refine r_region ?_
   refine o_q _ rfl rfl rfl (v_move rfl rfl) ?_
   refine o_q _ rfl rfl rfl (v_indexAddrSn rfl Try.underlying130 inf91 rfl rfl rfl (by omega) rfl) ?_
   refine o_q _ rfl rfl rfl (v_loadEN rfl Try.underlying91 rfl inf91 rfl (by omega) rfl rfl rfl) ?_
   refine o_alloc rfl inf91 rfl rfl rfl rfl rfl (fun b7 => ?_)
   refine o_q _ rfl rfl rfl (v_assign rfl rfl) ?_
   refine o_st rfl inf91 rfl rfl rfl rfl rfl rfl rfl rfl ?_
   refine o_nil ?_
   with_reducible refine r_then ?_
   refine r_seq ?_
   refine r_region ?_
   refine o_q _ rfl rfl rfl (v_move rfl rfl) ?_
   refine o_test rfl rfl rfl (v_eql rfl rfl rfl) (fun h16 => ?_) (fun h16 => ?_)
   all_goals
    refine o_q _ rfl rfl rfl (v_move rfl rfl) ?_
    first | refine o_gn rfl rfl rfl rfl ?_ | refine o_g _ rfl rfl rfl rfl (v_fieldAddr rfl Try.underlying136 inf134 rfl rfl rfl rfl) ?_
    first | refine o_gn rfl rfl rfl rfl ?_ | refine o_g _ rfl rfl rfl rfl (v_ld1 rfl Try.underlying134 rfl rfl rfl) ?_
    first | refine o_gn rfl rfl rfl rfl ?_ | refine o_g _ rfl rfl rfl rfl (v_ldW rfl Try.underlying91 rfl inf91 rfl rfl) ?_
    first | refine o_gn rfl rfl rfl rfl ?_ | refine o_g _ rfl rfl rfl rfl (v_ldW rfl Try.underlying91 rfl inf91 rfl rfl) ?_
    first | refine o_gn rfl rfl rfl rfl ?_ | refine o_gtest rfl rfl rfl rfl (OpQ.call (more_v _ _ _ _ _ _ _ _) rfl [] [] rfl rfl rfl SubRC.sub) (fun h22 => ?_) (fun h22 => ?_)
    all_goals
     first | refine o_q _ rfl rfl rfl (v_pick_t rfl rfl rfl) ?_ | refine o_q _ rfl rfl rfl (v_pick_f rfl rfl rfl) ?_
     refine o_nil ?_
     with_reducible refine r_then ?_
     refine r_cond rfl (fun hc23 => ?_) (fun hc23 => ?_)
     ·
      first
      | (exfalso; revert hc23; decide)
      |
       skip
       refine r_region ?_
       refine o_q _ rfl rfl rfl (v_ldW rfl Try.underlying91 rfl inf91 rfl rfl) ?_
       refine o_st rfl inf91 rfl rfl rfl rfl rfl rfl rfl rfl ?_
       refine o_nil ?_
       with_reducible refine r_in_normal ?_; refine r_then ?_
       refine r_region ?_
       refine o_q _ rfl rfl rfl (v_add rfl rfl rfl (by omega)) ?_
       refine o_q _ rfl rfl rfl (v_move rfl rfl) ?_
       refine o_nil ?_
       with_reducible refine r_then ?_
       refine r_next (k + 1) ?_ ?_ ?_
       ·
        (refine Imp.box_to b4 (encW (best1 more default xs (k + 1))) (by rw [best1_yes (by first | (left; omega) | (right; exact decide_eq_true (by assumption)))]; rfl) ?_; exact r_here (by repeat (first | exact FSub.nil | refine FSub.cons rfl ?_)) SelMC.sel SubRC.sub)
       ·
        omega
       ·
        omega
     ·
      first
      | (exfalso; revert hc23; decide)
      |
       skip
       refine r_skip ?_
       with_reducible refine r_in_normal ?_; refine r_then ?_
       refine r_region ?_
       refine o_q _ rfl rfl rfl (v_add rfl rfl rfl (by omega)) ?_
       refine o_q _ rfl rfl rfl (v_move rfl rfl) ?_
       refine o_nil ?_
       with_reducible refine r_then ?_
       refine r_next (k + 1) ?_ ?_ ?_
       ·
        (refine Imp.box_to b4 (encW (best1 more default xs (k + 1))) (by rw [best1_no (by omega) (more_no (by assumption))]) ?_; exact r_here (by repeat (first | exact FSub.nil | refine FSub.cons rfl ?_)) SelMC.sel SubRC.sub)
       ·
        omega
       ·
        omega
  ·
   refine r_exit ?_
   with_reducible refine r_then_exit ?_; refine r_then_exit ?_; refine r_in_here ?_; refine r_then ?_
   refine r_seq ?_
   refine r_region ?_
   refine o_q _ rfl rfl rfl (v_ldW rfl Try.underlying91 rfl inf91 rfl rfl) ?_
   refine o_q _ rfl rfl rfl (v_move rfl rfl) ?_
   refine o_q _ rfl rfl rfl (v_len rfl rfl Try.underlying130 rfl) ?_
   refine o_q _ rfl rfl rfl (v_gtr rfl rfl rfl) ?_
   refine o_st rfl inf91 rfl rfl rfl rfl rfl rfl rfl rfl ?_
   refine o_q _ rfl rfl rfl (v_assign rfl rfl) ?_
   refine o_nil ?_
   with_reducible refine r_then ?_
   refine r_ret ?_
   have hk : k = xs.length := by omega
   subst hk
   exact r_retv2 (Rd.two rfl (RdI.cellW Try.underlying91 rfl inf91 rfl rfl) (RdI.tmp rfl)) rfl SelMC.sel SubRC.sub
end Go.Proofs.Ytpndeonmmcaikaa.FootW


namespace Foot4
open Go Go.G
/-- On none of a plan's days are all men busy. -/
def freeB (men : Int) (B : List Int) (p : T3) : Bool := ![p.a, p.b, p.c].any fun d => decide (men ≤ B.getD d.toNat 0)
def noneT : T3 := ⟨-1, -1, -1⟩
def waysW (F : Work) (men : Int) (h : Nat) (B : List Int) (rec : List Int → Int) (l : List T3) : List Way :=
  ⟨rec B, noneT⟩ :: (l.filter (freeB men B)).map fun p => ⟨(F.heaps.getD h default).sods + rec (with_ B p), p⟩
/-- r heaps are left. -/
def bestW (F : Work) (men : Int) : Nat → List Int → Way
  | 0, _ => default
  | r + 1, B => wayL (waysW F men (F.heaps.length - (r + 1)) B (fun C => (bestW F men r C).sods) (sureF selW F (F.heaps.length - (r + 1))))
theorem best1_mem {α : Type} {bt : α → α → Bool} {z : α} {xs : List α} : ∀ k, 0 < k → k ≤ xs.length → best1 bt z xs k ∈ xs
  | 0, h, _ => absurd h (by omega)
  | k + 1, _, hk => by
    have hx : xs.getD k z ∈ xs := by
      rw [List.getD_eq_getElem?_getD, List.getElem?_eq_getElem (by omega)]
      exact List.getElem_mem _
    simp only [best1]
    split
    · exact hx
    · rename_i h
      exact best1_mem k (by omega) (by omega)
theorem wayL_mem {l : List Way} (h : 0 < l.length) : wayL l ∈ l := best1_mem _ h (Nat.le_refl _)
theorem bestW_bd {F : Work} (g : GoodF F) (men : Int) : ∀ r B, r ≤ F.heaps.length → 0 ≤ (bestW F men r B).sods ∧ (bestW F men r B).sods ≤ 500 * r
  | 0, _, _ => by simp [bestW, default, instInhabitedWay.default]
  | r + 1, B, hr => by
    have hm := wayL_mem (l := waysW F men (F.heaps.length - (r + 1)) B (fun C => (bestW F men r C).sods) (sureF selW F (F.heaps.length - (r + 1)))) (by simp [waysW])
    have hs := (g.2.2.2.2.2 (F.heaps.length - (r + 1)) (by omega)).2
    show 0 ≤ (wayL _).sods ∧ (wayL _).sods ≤ _
    rcases List.mem_cons.1 hm with e | hm'
    · rw [e]
      have := bestW_bd g men r B (by omega)
      simp only
      omega
    · obtain ⟨p, _, e⟩ := List.mem_map.1 hm'
      rw [← e]
      have := bestW_bd g men r (with_ B p) (by omega)
      simp only
      omega
end Foot4


namespace Foot4
open Go Go.G
@[reducible] def valWay (w : Way) : Value := .agg #[i64 w.sods, i64 w.plan.a, i64 w.plan.b, i64 w.plan.c]
@[reducible] def keyL (hp : Nat) (B : List Int) : Value := .agg (i64 hp :: B.map iv).toArray
def okW (F : Work) (men : Int) (kv v : Value) : Prop := ∀ hp r B, hp + r = F.heaps.length → kv = keyL hp B → v = valWay (bestW F men r B)
theorem map_iv_inj : ∀ {A B : List Int}, A.map iv = B.map iv → A = B
  | [], [], _ => rfl
  | [], _ :: _, h => by simp at h
  | _ :: _, [], h => by simp at h
  | a :: A, b :: B, h => by
    simp only [List.map_cons, List.cons.injEq, iv, Value.int.injEq, true_and] at h
    rw [h.1, map_iv_inj h.2]
theorem keyL_inj {hp hq : Nat} {A B : List Int} (h : keyL hp A = keyL hq B) : hp = hq ∧ A = B := by
  have h2 : i64 hp :: A.map iv = i64 hq :: B.map iv := congrArg Array.toList (Value.agg.inj h)
  simp only [List.cons.injEq, Value.int.injEq, true_and] at h2
  exact ⟨by omega, map_iv_inj h2.2⟩
theorem okW_mk {F : Work} {men : Int} {hp r : Nat} {B : List Int} {w : Way} (h : hp + r = F.heaps.length) (e : w = bestW F men r B) : okW F men (keyL hp B) (valWay w) := by
  intro hq q C h1 h2
  obtain ⟨rfl, rfl⟩ := keyL_inj h2
  obtain rfl : r = q := by omega
  rw [e]
/-- A slice of slices, the inner ones known. -/
abbrev Inner := Option Addr × Nat × Nat
def encO (x : Inner) : List Value := [.slice x.1 x.2.1 x.2.2]
def allRows (F : Work) (xs : List Inner) : Fact := fun V => ∀ h, h < xs.length → rowD (xs.getD h default).1 3 encT (sureF selW F h) V
def Rows (F : Work) (xs : List Inner) : Prop := xs.length ≤ F.heaps.length ∧ ∀ h, h < xs.length → (xs.getD h default).2.1 = (sureF selW F h).length
def waysT (F : Work) (men : Int) (h : Nat) (B : List Int) (rec : List Int → Int) (k : Nat) : List Way := waysW F men h B rec ((sureF selW F h).take k)
section
variable {F : Work} {men : Int} {h : Nat} {B : List Int} {rec : List Int → Int} {k : Nat} {p : T3}
theorem waysT_0 : waysT F men h B rec 0 = [⟨rec B, noneT⟩] := by simp [waysT, waysW]
theorem take_getD {α : Type} [Inhabited α] {l : List α} {k : Nat} (hk : k < l.length) : l.take (k + 1) = l.take k ++ [l.getD k default] := by
  rw [List.take_add_one]
  simp [hk]
theorem waysT_yes (hk : k < (sureF selW F h).length) (hp : (sureF selW F h).getD k default = p) (hf : ¬ ∃ j, j < [p.a, p.b, p.c].length ∧ men ≤ B.getD ([p.a, p.b, p.c].getD j default).toNat 0) :
    waysT F men h B rec k ++ [⟨(F.heaps.getD h default).sods + rec (with_ B p), p⟩] = waysT F men h B rec (k + 1) := by
  have h1 : freeB men B p = true := by
    simp only [freeB, List.any_cons, List.any_nil, Bool.or_false, Bool.not_eq_true', Bool.or_eq_false_iff, decide_eq_false_iff_not]
    exact ⟨fun x => hf ⟨0, by simp, x⟩, fun x => hf ⟨1, by simp, x⟩, fun x => hf ⟨2, by simp, x⟩⟩
  unfold waysT waysW
  rw [take_getD hk, hp]
  simp [h1]
theorem waysT_no (hk : k < (sureF selW F h).length) (hp : (sureF selW F h).getD k default = p) (hf : ∃ j, j < [p.a, p.b, p.c].length ∧ men ≤ B.getD ([p.a, p.b, p.c].getD j default).toNat 0) :
    waysT F men h B rec k = waysT F men h B rec (k + 1) := by
  have h1 : freeB men B p = false := by
    obtain ⟨j, hj, hx⟩ := hf
    simp only [List.length_cons, List.length_nil] at hj
    simp only [freeB, List.any_cons, List.any_nil, Bool.or_false, Bool.not_eq_false', Bool.or_eq_true, decide_eq_true_eq]
    obtain rfl | rfl | rfl : j = 0 ∨ j = 1 ∨ j = 2 := by omega
    · exact .inl hx
    · exact .inr (.inl hx)
    · exact .inr (.inr hx)
  unfold waysT waysW
  rw [take_getD hk, hp]
  simp [h1]
theorem waysT_all : waysT F men h B rec (sureF selW F h).length = waysW F men h B rec (sureF selW F h) := by
  unfold waysT; rw [List.take_length]
theorem waysT_le (hl : F.rain.length ≤ 8) : (waysT F men h B rec k).length ≤ 1001 := by
  have h1 := List.length_filter_le (freeB men B) ((sureF selW F h).take k)
  have h2 := List.length_take_le' k (sureF selW F h)
  have h3 := sureF_le (sel := selW) (F := F) (heap := h) hl
  unfold waysT waysW
  simp only [List.length_cons, List.length_map]
  omega
end
theorem bestW_eq {F : Work} {men : Int} {hp r : Nat} {B : List Int} (h : hp + (r + 1) = F.heaps.length) : wayL (waysW F men hp B (fun C => (bestW F men r C).sods) (sureF selW F hp)) = bestW F men (r + 1) B := by
  obtain rfl : hp = F.heaps.length - (r + 1) := by omega
  rfl
theorem encW_len (w : Way) : (encW w).length = 4 := rfl
theorem take8 {x : Value} {B : List Int} (h : B.length = 8) : ((x :: B.map iv).drop 1).take 8 = B.map iv := by
  simp [List.take_of_length_le, h]
theorem sure_day {sel : Int → Int → Int} {F : Work} {h k : Nat} (hn : F.rain.length ≤ 8) (hk : k < (sureF sel F h).length) : ∀ j, j < 3 → 0 ≤ ((sureF sel F h).getD k default).at j ∧ ((sureF sel F h).getD k default).at j ≤ 7 := by
  intro j hj
  have hm : (sureF sel F h).getD k default ∈ sureF sel F h := by
    have e : (sureF sel F h)[k]? = some ((sureF sel F h).getD k default) := by simp [hk]
    exact List.mem_of_getElem? e
  have := whole_days (List.mem_filter.1 hm).1 j hj
  omega
theorem row_of_box {b : Nat} {x y : Int} {V : View} (h : boxF b 3 [i64 x, i64 y] V) : rowD (some ⟨b, 0, none⟩) 1 (fun x : Int => [i64 x]) [x, y] V :=
  .inr ⟨b, 0, _, 3, (0, 0), rfl, h, fun i j hi hj => by
    obtain rfl : j = 0 := by omega
    simp only [List.length_cons, List.length_nil] at hi
    obtain rfl | rfl : i = 0 ∨ i = 1 := by omega
    · rfl
    · rfl⟩
end Foot4


namespace Go.Proofs.Ytpndeonmmcaikaa.FootW
open Go.G Foot4
set_option maxRecDepth 1000000
theorem laid0 : laidOutB Try.prog = true := by kernel_rfl
theorem keyLaw115 : WideMaps.KeyLaw Try.prog 89 := deep_law_gate laid0 (by decide +kernel) (by decide +kernel) (by kernel_rfl) (by kernel_rfl)
theorem kl3 (d : Nat) {x : Int} (h : 0 ≤ x ∧ x ≤ 1000) : Try.prog.keyLits (d + 1) 3 [i64 x] = some [.int .i64 x] := by
  have hw : (Lit.int .i64 x).wf = true := by
    have m1 : IntKind.i64.min = -9223372036854775808 := rfl
    have m2 : IntKind.i64.max = 9223372036854775807 := rfl
    simp only [Lit.wf]
    simp
    omega
  unfold Program.keyLits
  rw [Try.underlying3]
  simp [hw]
theorem key_of (hp : Nat) (B : List Int) (hp1 : hp ≤ 3) (hB : B.length = 8) (hs : Small B 1000) : ∃ l, keyOf Try.prog 89 (keyL hp B) = some l := by
  match B, hB with
  | [a, b, c, d, e, f, g, h], _ =>
    have h1 := Try.underlying89
    unfold keyOf
    rw [h1]
    have h2 : Try.prog.keyType 89 = true := by kernel_rfl
    have h3 : (keyL hp [a, b, c, d, e, f, g, h]).formed Try.prog 89 = true := by kernel_rfl
    have c115 : Try.prog.cellsOf 89 = 9 := by kernel_rfl
    have c107 : Try.prog.cellsOf 87 = 8 := by kernel_rfl
    have c3 : Try.prog.cellsOf 3 = 1 := by kernel_rfl
    have ha := hs 0; have hb := hs 1; have hc := hs 2; have hd := hs 3; have he := hs 4; have hf := hs 5; have hg := hs 6; have hh := hs 7
    simp only [List.getD_cons_zero, List.getD_cons_succ] at ha hb hc hd he hf hg hh
    have e107 : ∀ m, Try.prog.keyLits (m + 2) 87 [i64 a, i64 b, i64 c, i64 d, i64 e, i64 f, i64 g, i64 h] = some [.int .i64 a, .int .i64 b, .int .i64 c, .int .i64 d, .int .i64 e, .int .i64 f, .int .i64 g, .int .i64 h] := by
      intro m
      unfold Program.keyLits
      rw [Try.underlying87]
      simp [c107, c3, List.range, List.range.loop, kl3, ha, hb, hc, hd, he, hf, hg, hh]
    have e115 : Try.prog.keyLits (Try.prog.types.size + 1) 89 (keyL hp [a, b, c, d, e, f, g, h]).cells.toList = some [.int .i64 hp, .int .i64 a, .int .i64 b, .int .i64 c, .int .i64 d, .int .i64 e, .int .i64 f, .int .i64 g, .int .i64 h] := by
      have hsz : Try.prog.types.size + 1 = 183 + 3 := by kernel_rfl
      rw [hsz]
      unfold Program.keyLits
      rw [Try.underlying89]
      simp [c115, c107, c3, Value.cells, kl3 (x := (hp : Int)) _ (by omega), e107, iv]
    rw [e115, h2, h3]
    exact ⟨_, rfl⟩
end Go.Proofs.Ytpndeonmmcaikaa.FootW


namespace Go.Proofs.Ytpndeonmmcaikaa.FootW
open Go.G Foot4
set_option maxRecDepth 1000000
attribute [local irreducible] G.ParO G.Fin
theorem mk115 {W : World} {n : Nat} {L : Tm} {M : List Res} {R : List Fact} {o : Oper} {x y : Operand} {hp : Nat} {B : List Int} (ho : o.op = .build 89 #[(0, x), (1, y)]) (hx : ev L x = some (i64 ((hp : Int) + 1))) (hy : ev L y = some (.agg (B.map iv).toArray)) (hB : B.length = 8) : OpQ Try.prog W n L M R o (keyL (hp + 1) B) := by
  have hc : CatC [i64 ((hp : Int) + 1), .agg (B.map iv).toArray] (i64 ((hp : Int) + 1) :: (B.map iv ++ [])) := inferInstance
  refine v_cast (v_bS (ps := [(0, x), (1, y)]) (vs := [i64 ((hp : Int) + 1), .agg (B.map iv).toArray]) ho Try.underlying89 inf89 plt89 rfl ?_ rfl ?_ ?_) (by simp [keyL])
  · show evs L [x, y] = _
    simp only [evs, hx, hy]
  · refine ⟨rfl, ?_, trivial⟩
    have : (Value.agg (B.map iv).toArray).cells.size = 8 := by simp [Value.cells, hB]
    rw [this]; rfl
  · simp [hB]; rfl
theorem hab_of {a b c : Int} (h : ∀ j, j < 3 → 0 ≤ (⟨a, b, c⟩ : T3).at j ∧ (⟨a, b, c⟩ : T3).at j ≤ 7) : ∀ j, j < [a, b, c].length → 0 ≤ [a, b, c].getD j default ∧ [a, b, c].getD j default ≤ 7 := by
  intro j hj
  simp only [List.length_cons, List.length_nil] at hj
  obtain rfl | rfl | rfl : j = 0 ∨ j = 1 ∨ j = 2 := by omega
  · exact h 0 (by omega)
  · exact h 1 (by omega)
  · exact h 2 (by omega)
theorem total2_v (b : Nat) (x y : Int) (hx : -10000 ≤ x ∧ x ≤ 10000) (hy : -10000 ≤ y ∧ y ≤ 10000) : FnV Try.prog 63 [.slice (some ⟨b, 0, none⟩) 2 2] [boxF b 3 [i64 x, i64 y]] (i64 (x + y)) := by
  have h := total_v [x, y] (some ⟨b, 0, none⟩) 2 (by simp) (fun k => by
    match k with
    | 0 => exact hx
    | 1 => exact hy
    | k + 2 => show -10000 ≤ (0 : Int) ∧ (0 : Int) ≤ 10000; omega)
  have e : sumTo [x, y] [x, y].length = x + y := by simp [sumTo]
  rw [e] at h
  exact h.pre (fun V hV φ hφ => by
    have : φ = rowD (some ⟨b, 0, none⟩) 1 (fun x : Int => [i64 x]) [x, y] := by simpa using hφ
    subst this
    exact row_of_box (hV _ (by simp)))
set_option maxHeartbeats 4000000 in
theorem best1_0 (F : Work) (ro ho : Option Addr) (rc hc : Nat) (fb : Nat) (men : Int) (hg : GoodF F) (b1 b2 b3 b4 b5 b6 mb : Nat) (sa : Option Addr) (sc : Nat) (xs : List Inner) (hxl : xs.length = F.heaps.length) (hR : Foot4.Rows F xs) (hp : Nat) (hpr : hp + 0 = F.heaps.length) (B : List Int) (hB : B.length = 8) (hs : Small B (3 * hp)) : FnM Try.prog 60 [keyL hp B, pt b1 0, pt b2 0, pt b3 0, pt b4 0, pt b5 0, pt b6 0] (memo Try.prog 89 (okW F men) mb) [boxF b1 82 [pt fb 0], boxF b2 128 [.map (some mb)], boxF b3 84 [.func (.func 60) #[] #[pt b1 0, pt b2 0, pt b3 0, pt b4 0, pt b5 0, pt b6 0]], boxF b4 55 [i64 (-1), i64 (-1), i64 (-1)], boxF b5 127 [.slice sa xs.length sc], boxF b6 3 [i64 men], rowD sa 1 encO xs, allRows F xs, boxF fb 126 (cellsF F ro rc ho hc), rowD ro 2 encS F.rain, rowD ho 3 encH F.heaps] (fun u => u = valWay (bestW F men 0 B)) := by
 refine FnM.intro Try.call60 Try.func60 rfl Try.ntmps60 rfl ?_
 intro W M Rf
 refine r_seq ?_
 refine r_region ?_
 refine o_boxA rfl rfl rfl rfl rfl (fun b7 => ?_)
 refine o_alloc rfl inf91 rfl rfl rfl rfl rfl (fun b8 => ?_)
 refine o_nil ?_
 with_reducible refine r_then ?_
 refine r_seq ?_
 refine r_seq ?_
 refine Imp.sealB b7 ?_
 refine r_region_q mixed (by kernel_rfl) ?_
 refine q_q _ rfl rfl rfl (v_fieldAddr rfl Try.underlying89 inf3 rfl rfl rfl rfl) ?_
 refine q_q _ rfl rfl rfl (v_lf1 rfl Try.underlying3 rfl rfl rfl) ?_
 refine q_q _ rfl rfl rfl (v_lf1 rfl Try.underlying82 rfl rfl rfl) ?_
 refine q_q _ rfl rfl rfl (v_nilCheck rfl rfl) ?_
 refine q_q _ rfl rfl rfl (v_fieldAddr rfl Try.underlying126 inf26 rfl rfl rfl rfl) ?_
 refine q_q _ rfl rfl rfl (v_fieldAddr rfl Try.underlying26 inf24 rfl rfl rfl rfl) ?_
 refine q_q _ rfl rfl rfl (v_lf1 rfl Try.underlying24 rfl rfl rfl) ?_
 refine q_q _ rfl rfl rfl (v_len rfl rfl Try.underlying24 rfl) ?_
 refine q_q _ rfl rfl rfl (v_eql rfl rfl rfl) ?_
 refine q_nil ?_
 with_reducible refine r_then ?_
 refine r_condd rfl (fun hc24 => ?_) (fun hc24 => ?_)
 ·
  refine r_seq ?_
  refine r_region ?_
  refine o_q _ rfl rfl rfl (v_bS0 rfl Try.underlying91 inf91 plt91 rfl rfl) ?_
  refine o_st rfl inf91 rfl rfl rfl rfl rfl rfl rfl rfl ?_
  refine o_nil ?_
  with_reducible refine r_then ?_
  refine r_ret ?_
  with_reducible refine r_then_ret ?_
  exact r_retm (Rd.one rfl (RdI.cellW Try.underlying91 rfl inf91 rfl rfl)) (by rfl) SelMC.sel SubRC.sub
 ·
  (exfalso; omega)
set_option maxHeartbeats 4000000 in
theorem best1_s (F : Work) (ro ho : Option Addr) (rc hc : Nat) (fb : Nat) (men : Int) (hg : GoodF F) (b1 b2 b3 b4 b5 b6 mb : Nat) (sa : Option Addr) (sc : Nat) (xs : List Inner) (hxl : xs.length = F.heaps.length) (hR : Foot4.Rows F xs) (r : Nat) (ih : ∀ (hp : Nat) (C : List Int), hp + r = F.heaps.length → C.length = 8 → Small C (3 * hp) → FnM Try.prog 60 [keyL hp C, pt b1 0, pt b2 0, pt b3 0, pt b4 0, pt b5 0, pt b6 0] (memo Try.prog 89 (okW F men) mb) [boxF b1 82 [pt fb 0], boxF b2 128 [.map (some mb)], boxF b3 84 [.func (.func 60) #[] #[pt b1 0, pt b2 0, pt b3 0, pt b4 0, pt b5 0, pt b6 0]], boxF b4 55 [i64 (-1), i64 (-1), i64 (-1)], boxF b5 127 [.slice sa xs.length sc], boxF b6 3 [i64 men], rowD sa 1 encO xs, allRows F xs, boxF fb 126 (cellsF F ro rc ho hc), rowD ro 2 encS F.rain, rowD ho 3 encH F.heaps] (fun u => u = valWay (bestW F men r C))) (hp : Nat) (hpr : hp + (r + 1) = F.heaps.length) (B : List Int) (hB : B.length = 8) (hs : Small B (3 * hp)) : FnM Try.prog 60 [keyL hp B, pt b1 0, pt b2 0, pt b3 0, pt b4 0, pt b5 0, pt b6 0] (memo Try.prog 89 (okW F men) mb) [boxF b1 82 [pt fb 0], boxF b2 128 [.map (some mb)], boxF b3 84 [.func (.func 60) #[] #[pt b1 0, pt b2 0, pt b3 0, pt b4 0, pt b5 0, pt b6 0]], boxF b4 55 [i64 (-1), i64 (-1), i64 (-1)], boxF b5 127 [.slice sa xs.length sc], boxF b6 3 [i64 men], rowD sa 1 encO xs, allRows F xs, boxF fb 126 (cellsF F ro rc ho hc), rowD ro 2 encS F.rain, rowD ho 3 encH F.heaps] (fun u => u = valWay (bestW F men (r + 1) B)) := by
 have hkl0 := key_of hp B (by have := hg.2.2.1; omega) hB (fun i => by have := hs i; have := hg.2.2.1; omega)
 obtain ⟨kl, hkl⟩ := hkl0
 have hb := hg.bnd
 have hl3 := hg.2.2.1
 refine FnM.intro Try.call60 Try.func60 rfl Try.ntmps60 rfl ?_
 intro W M Rf
 refine r_seq ?_
 refine r_region ?_
 refine o_boxA rfl rfl rfl rfl rfl (fun b7 => ?_)
 refine o_alloc rfl inf91 rfl rfl rfl rfl rfl (fun b8 => ?_)
 refine o_nil ?_
 with_reducible refine r_then ?_
 refine r_seq ?_
 refine r_seq ?_
 refine Imp.sealB b7 ?_
 refine r_region_q mixed (by kernel_rfl) ?_
 refine q_q _ rfl rfl rfl (v_fieldAddr rfl Try.underlying89 inf3 rfl rfl rfl rfl) ?_
 refine q_q _ rfl rfl rfl (v_lf1 rfl Try.underlying3 rfl rfl rfl) ?_
 refine q_q _ rfl rfl rfl (v_lf1 rfl Try.underlying82 rfl rfl rfl) ?_
 refine q_q _ rfl rfl rfl (v_nilCheck rfl rfl) ?_
 refine q_q _ rfl rfl rfl (v_fieldAddr rfl Try.underlying126 inf26 rfl rfl rfl rfl) ?_
 refine q_q _ rfl rfl rfl (v_fieldAddr rfl Try.underlying26 inf24 rfl rfl rfl rfl) ?_
 refine q_q _ rfl rfl rfl (v_lf1 rfl Try.underlying24 rfl rfl rfl) ?_
 refine q_q _ rfl rfl rfl (v_len rfl rfl Try.underlying24 rfl) ?_
 refine q_q _ rfl rfl rfl (v_eql rfl rfl rfl) ?_
 refine q_nil ?_
 with_reducible refine r_then ?_
 refine r_condd rfl (fun hc24 => ?_) (fun hc24 => ?_)
 ·
  (exfalso; omega)
 ·
  refine r_skip ?_
  with_reducible refine r_then ?_
  refine r_seq ?_
  refine r_seq ?_
  refine r_region ?_
  refine o_q _ rfl rfl rfl (v_lf1 rfl Try.underlying128 rfl rfl rfl) ?_
  refine o_q _ rfl rfl rfl (v_lfW rfl Try.underlying89 rfl inf89 rfl (by rw [List.length_cons, List.length_map, hB]; rfl)) ?_
  refine o_lookupD (ok := okW F men) (b := mb) (valWay (bestW F men (r + 1) B)) (fun u hu => hu hp (r + 1) B hpr rfl) keyLaw115 hkl rfl Try.underlying128 inf91 rfl rfl rfl rfl rfl rfl ?_ ?_
  all_goals
   refine o_q _ rfl rfl rfl (v_move rfl rfl) ?_
   refine o_q _ rfl rfl rfl (v_extract rfl rfl rfl) ?_
   refine o_q _ rfl rfl rfl (v_extract rfl rfl rfl) ?_
   refine o_alloc rfl inf91 rfl rfl rfl rfl rfl (fun b9 => ?_)
   refine o_st rfl inf91 rfl rfl rfl rfl rfl rfl rfl rfl ?_
   refine o_q _ rfl rfl rfl (v_assign rfl rfl) ?_
   refine o_nil ?_
   with_reducible refine r_then ?_
   refine r_seq ?_
   refine r_region ?_
   refine o_q _ rfl rfl rfl (v_move rfl rfl) ?_
   refine o_nil ?_
   with_reducible refine r_then ?_
   refine r_cond rfl (fun hc32 => ?_) (fun hc32 => ?_)
   ·
    first
    | (exfalso; revert hc32; decide)
    |
     skip
     refine r_seq ?_
     refine r_region ?_
     refine o_q _ rfl rfl rfl (v_ldW rfl Try.underlying91 rfl inf91 rfl rfl) ?_
     refine o_st rfl inf91 rfl rfl rfl rfl rfl rfl rfl rfl ?_
     refine o_nil ?_
     with_reducible refine r_then ?_
     refine r_ret ?_
     with_reducible refine r_then_ret ?_
     exact r_retm (Rd.one rfl (RdI.cellW Try.underlying91 rfl inf91 rfl rfl)) (by rfl) SelMC.sel SubRC.sub
   ·
    first
    | (exfalso; revert hc32; decide)
    |
     skip
     refine r_skip ?_
     with_reducible refine r_then ?_
     refine r_seq ?_
     refine r_par' 10 mixed (by kernel_rfl) (by rfl) ?_
     refine p_q _ rfl rfl rfl (fun _ _ => v_lf1 rfl Try.underlying84 rfl rfl rfl) ?_
     refine p_q _ rfl rfl rfl (fun _ _ => v_fieldAddr rfl Try.underlying89 inf3 rfl rfl rfl rfl) ?_
     refine p_q _ rfl rfl rfl (fun _ _ => v_lf1 rfl Try.underlying3 rfl rfl rfl) ?_
     refine p_q _ rfl rfl rfl (fun _ _ => v_add rfl rfl rfl (by omega)) ?_
     refine p_q _ rfl rfl rfl (fun _ _ => v_fieldAddr rfl Try.underlying89 inf87 rfl rfl rfl rfl) ?_
     refine p_q _ rfl rfl rfl (fun _ _ => v_lfN (us := B.map iv) rfl Try.underlying87 rfl inf87 rfl (take8 hB) (by rw [List.length_map, hB]; rfl)) ?_
     refine p_q _ rfl rfl rfl (fun _ _ => mk115 rfl rfl rfl hB) ?_
     refine p_q _ rfl rfl rfl (fun _ _ => OpQ.fnm (ih (hp + 1) B (by omega) hB (fun i => by have := hs i; omega)) rfl [] [pt b1 0, pt b2 0, pt b3 0, pt b4 0, pt b5 0, pt b6 0] rfl rfl rfl SubRC.sub) ?_
     refine p_q _ rfl rfl rfl (fun _ _ => v_field rfl Try.underlying91 Try.underlying3 inf3 rfl rfl rfl rfl) ?_
     refine p_q _ rfl rfl rfl (fun _ _ => v_lfW rfl Try.underlying55 rfl inf55 rfl rfl) ?_
     refine p_nil2 (by simp only [List.nil_append, List.cons_append]; rfl) rfl ?_
     refine f_q rfl ?_
     refine f_q rfl ?_
     refine f_q rfl ?_
     refine f_q rfl ?_
     refine f_q rfl ?_
     refine f_q rfl ?_
     refine f_q rfl ?_
     refine f_q rfl ?_
     refine f_q rfl ?_
     refine f_q rfl ?_
     refine f_nil ?_
     refine o_q _ rfl rfl rfl (v_bS rfl Try.underlying91 inf91 plt91 rfl rfl rfl (by repeat (first | exact trivial | refine ⟨rfl, ?_⟩)) (by rfl)) ?_
     refine o_lit rfl Try.underlying130 inf91 rfl rfl rfl rfl rfl rfl rfl rfl (by repeat (first | exact trivial | refine ⟨rfl, ?_⟩)) (by rfl) (fun b45 => ?_)
     refine o_q _ rfl rfl rfl (v_assign rfl rfl) ?_
     refine o_nil ?_
     with_reducible refine r_then ?_
     refine r_seq ?_
     refine r_seq ?_
     obtain ⟨oa, ln, cp, hxe⟩ : ∃ oa ln cp, xs.getD hp default = (oa, ln, cp) := ⟨_, _, _, rfl⟩
     have hln : ln = (sureF selW F hp).length := by have := hR.2 hp (by omega); rw [hxe] at this; exact this
     subst hln
     refine Imp.derive (ψ := rowD oa 3 encT (sureF selW F hp)) ?_ (fun V hV => by have := hV (allRows F xs) InR.mem hp (by omega); rw [hxe] at this; exact this)
     refine Imp.ownBox (enc := encW) (sz := 4) b45 [⟨(bestW F men r B).sods, noneT⟩] rfl rfl (by simp [maxLen]) ?_
     refine r_region ?_
     refine o_q _ rfl rfl rfl (v_lf1 rfl Try.underlying127 rfl rfl rfl) ?_
     refine o_q _ rfl rfl rfl (v_fieldAddr rfl Try.underlying89 inf3 rfl rfl rfl rfl) ?_
     refine o_q _ rfl rfl rfl (v_lf1 rfl Try.underlying3 rfl rfl rfl) ?_
     refine o_q _ rfl rfl rfl (v_indexAddrSn rfl Try.underlying127 inf48 rfl rfl rfl (by omega) rfl) ?_
     refine o_q _ rfl rfl rfl (v_loadE1 (v := .slice oa (sureF selW F hp).length cp) rfl Try.underlying48 rfl rfl (by omega) rfl (by rw [hxe]; rfl)) ?_
     refine o_q _ rfl rfl rfl (v_len rfl rfl Try.underlying48 rfl) ?_
     refine o_q _ rfl rfl rfl (v_move rfl rfl) ?_
     refine o_nil ?_
     with_reducible refine r_then ?_
     refine r_block ?_
     refine r_loop (ι := Nat × Value) (fun gh => gh.1 ≤ (sureF selW F hp).length) (fun gh => [(1, pt b1 0), (2, pt b2 0), (3, pt b3 0), (4, pt b4 0), (5, pt b5 0), (6, pt b6 0), (7, pt b7 0), (8, pt b8 0), (11, gh.2), (50, .slice oa (sureF selW F hp).length cp), (51, i64 (sureF selW F hp).length), (52, i64 gh.1)]) (fun gh => ownL gh.2 91 4 encW (waysT F men hp B (fun C => (bestW F men r C).sods) gh.1) :: bx b8 91 [i64 0, i64 0, i64 0, i64 0] :: memo Try.prog 89 (okW F men) mb :: M) (fun gh => rowD oa 3 encT (sureF selW F hp) :: (boxF b7 89 (i64 hp :: B.map iv) :: ([boxF b1 82 [pt fb 0], boxF b2 128 [.map (some mb)], boxF b3 84 [.func (.func 60) #[] #[pt b1 0, pt b2 0, pt b3 0, pt b4 0, pt b5 0, pt b6 0]], boxF b4 55 [i64 (-1), i64 (-1), i64 (-1)], boxF b5 127 [.slice sa xs.length sc], boxF b6 3 [i64 men], rowD sa 1 encO xs, allRows F xs, boxF fb 126 (cellsF F ro rc ho hc), rowD ro 2 encS F.rain, rowD ho 3 encH F.heaps] ++ Rf))) (fun gh => (sureF selW F hp).length - gh.1) (0, .slice (some ⟨b45, 0, none⟩) 1 1) ?_ ?_ ?_
     ·
      refine Imp.own_to (.slice (some ⟨b45, 0, none⟩) 1 1) (waysT F men hp B (fun C => (bestW F men r C).sods) 0) waysT_0.symm ?_
      refine Imp.box_to b8 [i64 0, i64 0, i64 0, i64 0] rfl ?_
      exact r_here (by repeat (first | exact FSub.nil | refine FSub.cons rfl ?_)) SelMC.sel SubRC.sub
     ·
      exact Nat.zero_le _
     ·
      rintro ⟨k, v⟩ hI0
      dsimp only at hI0
      dsimp only
      have hsl := sureF_le (sel := selW) (F := F) (heap := hp) hb.len
      obtain ⟨a, b, c, hp_⟩ : ∃ a b c, (sureF selW F hp).getD k default = ⟨a, b, c⟩ := ⟨_, _, _, rfl⟩
      have hwk := waysT_le (F := F) (men := men) (h := hp) (B := B) (rec := (fun C => (bestW F men r C).sods)) (k := k) hb.len
      have hpl0 := fun (hk : k < (sureF selW F hp).length) => sure_day (sel := selW) (F := F) (h := hp) hb.len hk
      refine r_seq ?_
      refine r_region ?_
      refine o_q _ rfl rfl rfl (v_lss rfl rfl rfl) ?_
      refine o_nil ?_
      with_reducible refine r_then ?_
      refine r_seq ?_
      refine r_condd rfl (fun hc53 => ?_) (fun hc53 => ?_)
      ·
       refine r_skip ?_
       with_reducible refine r_then ?_
       refine r_seq ?_
       refine r_block ?_
       refine r_seq ?_
       refine r_region ?_
       refine o_q _ rfl rfl rfl (v_indexAddrSn rfl Try.underlying48 inf55 rfl rfl rfl (by omega) rfl) ?_
       refine o_q _ rfl rfl rfl (v_loadEN rfl Try.underlying55 rfl inf55 rfl (by omega) rfl rfl rfl) ?_
       simp only [hp_]
       refine o_alloc rfl inf55 rfl rfl rfl rfl rfl (fun b13 => ?_)
       refine o_st rfl inf55 rfl rfl rfl rfl rfl rfl rfl rfl ?_
       refine o_nil ?_
       with_reducible refine r_then ?_
       refine r_seq ?_
       refine r_seq ?_
       have hpl : ∀ j, j < 3 → 0 ≤ (⟨a, b, c⟩ : T3).at j ∧ (⟨a, b, c⟩ : T3).at j ≤ 7 := hp_ ▸ hpl0 (by omega)
       have hab : ∀ j, j < [a, b, c].length → 0 ≤ [a, b, c].getD j default ∧ [a, b, c].getD j default ≤ 7 := hab_of hpl
       refine Imp.sealB b13 ?_
       refine Imp.rowB (b := b13) i64 [a, b, c] rfl ?_
       refine r_region ?_
       refine o_q _ rfl rfl rfl (v_sliceA rfl Try.underlying55 inf3 rfl) ?_
       refine o_q _ rfl rfl rfl (v_makeFunc rfl rfl rfl) ?_
       refine o_test rfl rfl rfl (OpQ.fn (ints_c (fun d : Int => men ≤ B.getD d.toNat 0) [a, b, c] (some ⟨b13, 0, none⟩) 3 62 [pt b7 0, pt b6 0] [boxF b7 89 (i64 hp :: B.map iv), boxF b6 3 [i64 men]] (by simp) (fun j hj => busyAt_v B hp men _ b7 b6 hB (hab j hj))) rfl rfl SubRC.sub) (fun h58 => ?_) (fun h58 => ?_)
       all_goals
        refine o_nil ?_
        with_reducible refine r_then ?_
        refine r_cond rfl (fun hc58 => ?_) (fun hc58 => ?_)
        ·
         first
         | (exfalso; revert hc58; decide)
         |
          skip
          refine r_exit ?_
          with_reducible refine r_then_exit ?_; refine r_in_here ?_; refine r_then ?_
          refine r_region ?_
          refine o_q _ rfl rfl rfl (v_add rfl rfl rfl (by omega)) ?_
          refine o_q _ rfl rfl rfl (v_move rfl rfl) ?_
          refine o_nil ?_
          with_reducible refine r_then ?_
          exact r_next ((k + 1, v)) (by refine Imp.own_to v (waysT F men hp B (fun C => (bestW F men r C).sods) (k + 1)) (waysT_no (by omega) hp_ (by assumption)) ?_; exact r_here (by repeat (first | exact FSub.nil | refine FSub.cons rfl ?_)) SelMC.sel SubRC.sub) (by first | omega | (show _ + 1 ≤ _; omega)) (by first | omega | (show _ - (_ + 1) < _ - _; omega))
        ·
         first
         | (exfalso; revert hc58; decide)
         |
          skip
          refine r_skip ?_
          with_reducible refine r_then ?_
          have hsd : -10000 ≤ (F.heaps.getD hp default).sods ∧ (F.heaps.getD hp default).sods ≤ 10000 := by have := (hg.2.2.2.2.2 hp (by omega)).2; omega
          have hrc : -10000 ≤ (bestW F men r (with_ B ⟨a, b, c⟩)).sods ∧ (bestW F men r (with_ B ⟨a, b, c⟩)).sods ≤ 10000 := by have := bestW_bd hg men r (with_ B ⟨a, b, c⟩) (by omega); omega
          refine r_par' 27 mixed (by kernel_rfl) (by rfl) ?_
          refine p_q _ rfl rfl rfl (fun _ _ => v_move rfl rfl) ?_
          refine p_q _ rfl rfl rfl (fun _ _ => v_lf1 rfl Try.underlying82 rfl rfl rfl) ?_
          refine p_q _ rfl rfl rfl (fun _ _ => v_nilCheck rfl rfl) ?_
          refine p_q _ rfl rfl rfl (fun _ _ => v_fieldAddr rfl Try.underlying126 inf26 rfl rfl rfl rfl) ?_
          refine p_q _ rfl rfl rfl (fun _ _ => v_fieldAddr rfl Try.underlying26 inf24 rfl rfl rfl rfl) ?_
          refine p_q _ rfl rfl rfl (fun _ _ => v_lf1 rfl Try.underlying24 rfl rfl rfl) ?_
          refine p_q _ rfl rfl rfl (fun _ _ => v_fieldAddr rfl Try.underlying89 inf3 rfl rfl rfl rfl) ?_
          refine p_q _ rfl rfl rfl (fun _ _ => v_lf1 rfl Try.underlying3 rfl rfl rfl) ?_
          refine p_q _ rfl rfl rfl (fun _ _ => v_indexAddrSn rfl Try.underlying24 inf47 rfl rfl rfl (by omega) rfl) ?_
          refine p_q _ rfl rfl rfl (fun _ _ => v_fieldAddr rfl Try.underlying47 inf3 rfl rfl rfl rfl) ?_
          refine p_q _ rfl rfl rfl (fun _ _ => v_loadE1 rfl Try.underlying3 rfl rfl (by omega) rfl rfl) ?_
          refine p_q _ rfl rfl rfl (fun _ _ => v_lf1 rfl Try.underlying84 rfl rfl rfl) ?_
          refine p_q _ rfl rfl rfl (fun _ _ => v_fieldAddr rfl Try.underlying89 inf3 rfl rfl rfl rfl) ?_
          refine p_q _ rfl rfl rfl (fun _ _ => v_lf1 rfl Try.underlying3 rfl rfl rfl) ?_
          refine p_q _ rfl rfl rfl (fun _ _ => v_add rfl rfl rfl (by omega)) ?_
          refine p_q _ rfl rfl rfl (fun _ _ => v_fieldAddr rfl Try.underlying89 inf87 rfl rfl rfl rfl) ?_
          refine p_q _ rfl rfl rfl (fun _ _ => v_lfN (us := B.map iv) rfl Try.underlying87 rfl inf87 rfl (take8 hB) (by rw [List.length_map, hB]; rfl)) ?_
          refine p_q _ rfl rfl rfl (fun _ _ => v_lfW rfl Try.underlying55 rfl inf55 rfl rfl) ?_
          refine p_q _ rfl rfl rfl (fun _ _ => OpQ.fn (with_v _ _ _ _ hB (fun i => by have := hs i; omega) (fun j hj => (hpl j hj).2)) rfl rfl SubRC.sub) ?_
          refine p_q _ rfl rfl rfl (fun _ _ => mk115 rfl rfl rfl (by rw [with_len, hB])) ?_
          refine p_q _ rfl rfl rfl (fun _ _ => OpQ.fnm (ih (hp + 1) (with_ B ⟨a, b, c⟩) (by omega) (by rw [with_len, hB]) (fun i => by have := with_small (by omega) hs ⟨a, b, c⟩ i; omega)) rfl [] [pt b1 0, pt b2 0, pt b3 0, pt b4 0, pt b5 0, pt b6 0] rfl rfl rfl SubRC.sub) ?_
          refine p_q _ rfl rfl rfl (fun _ _ => v_field rfl Try.underlying91 Try.underlying3 inf3 rfl rfl rfl rfl) ?_
          refine p_lit rfl Try.underlying33 inf3 rfl rfl rfl rfl rfl rfl rfl rfl (by repeat (first | exact trivial | refine ⟨rfl, ?_⟩)) (by rfl) ?_
          refine p_acc (by simp only [List.nil_append, List.cons_append]; rfl) ?_
          refine p_depLit 22 rfl rfl (by kernel_rfl) rfl rfl rfl (fun b82 _ _ => OpQ.fn (total2_v b82 _ _ hsd hrc) rfl rfl SubRC.sub) ?_
          refine p_q _ rfl rfl rfl (fun _ _ => v_lfW rfl Try.underlying55 rfl inf55 rfl rfl) ?_
          refine p_q _ rfl rfl rfl (fun _ _ => v_bS rfl Try.underlying91 inf91 plt91 rfl rfl rfl (by repeat (first | exact trivial | refine ⟨rfl, ?_⟩)) (by rfl)) ?_
          refine p_lit rfl Try.underlying130 inf91 rfl rfl rfl rfl rfl rfl rfl rfl (by repeat (first | exact trivial | refine ⟨rfl, ?_⟩)) (by rfl) ?_
          refine p_nil2 (by simp only [List.nil_append, List.cons_append]; rfl) rfl ?_
          refine f_q rfl ?_
          refine f_q rfl ?_
          refine f_q rfl ?_
          refine f_q rfl ?_
          refine f_q rfl ?_
          refine f_q rfl ?_
          refine f_q rfl ?_
          refine f_q rfl ?_
          refine f_q rfl ?_
          refine f_q rfl ?_
          refine f_q rfl ?_
          refine f_q rfl ?_
          refine f_q rfl ?_
          refine f_q rfl ?_
          refine f_q rfl ?_
          refine f_q rfl ?_
          refine f_q rfl ?_
          refine f_q rfl ?_
          refine f_q rfl ?_
          refine f_q rfl ?_
          refine f_q rfl ?_
          refine f_q rfl ?_
          refine f_lit rfl (fun b81 => ?_)
          refine f_q rfl ?_
          refine f_q rfl ?_
          refine f_q rfl ?_
          refine f_lit rfl (fun b85 => ?_)
          refine f_nil ?_
          refine o_app1F (⟨(F.heaps.getD hp default).sods + (bestW F men r (with_ B ⟨a, b, c⟩)).sods, ⟨a, b, c⟩⟩) rfl Try.underlying130 inf91 rfl (by rfl) (by rfl) rfl rfl rfl rfl rfl (by rfl) (by rfl) (by rfl) (by constructor <;> first | omega | decide) (fun v86 => ?_)
          refine o_q _ rfl rfl rfl (v_assign rfl rfl) ?_
          refine o_nil ?_
          with_reducible refine r_in_normal ?_; refine r_then ?_
          refine r_region ?_
          refine o_q _ rfl rfl rfl (v_add rfl rfl rfl (by omega)) ?_
          refine o_q _ rfl rfl rfl (v_move rfl rfl) ?_
          refine o_nil ?_
          with_reducible refine r_then ?_
          exact r_next ((k + 1, v86)) (by refine Imp.own_to v86 (waysT F men hp B (fun C => (bestW F men r C).sods) (k + 1)) (waysT_yes (by omega) hp_ (by assumption)) ?_; exact r_here (by repeat (first | exact FSub.nil | refine FSub.cons rfl ?_)) SelMC.sel SubRC.sub) (by first | omega | (show _ + 1 ≤ _; omega)) (by first | omega | (show _ - (_ + 1) < _ - _; omega))
      ·
       refine r_exit ?_
       with_reducible refine r_then_exit ?_; refine r_then_exit ?_; refine r_in_here ?_; refine r_then ?_
       refine r_seq ?_
       refine Imp.own_to v (waysT F men hp B (fun C => (bestW F men r C).sods) (sureF selW F hp).length) (by rw [show k = (sureF selW F hp).length from by omega]) ?_
       have hwl := waysT_le (F := F) (men := men) (h := hp) (B := B) (rec := (fun C => (bestW F men r C).sods)) (k := (sureF selW F hp).length) hb.len
       refine Imp.settleS v encW_len (fun wa wc hv => ?_)
       subst hv
       refine r_region ?_
       refine o_q _ rfl rfl rfl (v_move rfl rfl) ?_
       refine o_q _ rfl rfl rfl (v_bS rfl Try.underlying136 inf136 plt136 rfl rfl rfl (by repeat (first | exact trivial | refine ⟨rfl, ?_⟩)) (by rfl)) ?_
       refine o_q _ rfl rfl rfl (OpQ.fn (chosenW_v _ _ _ hwl) rfl rfl SubRC.sub) ?_
       refine o_q _ rfl rfl rfl (v_move rfl rfl) ?_
       refine o_q _ rfl rfl rfl (v_extract rfl rfl rfl) ?_
       refine o_q _ rfl rfl rfl (v_extract rfl rfl rfl) ?_
       refine o_alloc rfl inf91 rfl rfl rfl rfl rfl (fun b14 => ?_)
       refine o_st rfl inf91 rfl rfl rfl rfl rfl rfl rfl rfl ?_
       refine o_q _ rfl rfl rfl (v_assign rfl rfl) ?_
       refine o_nil ?_
       with_reducible refine r_then ?_
       refine r_seq ?_
       refine r_region ?_
       refine o_q _ rfl rfl rfl (v_lf1 rfl Try.underlying128 rfl rfl rfl) ?_
       refine o_q _ rfl rfl rfl (v_lfW rfl Try.underlying89 rfl inf89 rfl (by rw [List.length_cons, List.length_map, hB]; rfl)) ?_
       refine o_q _ rfl rfl rfl (v_ldW rfl Try.underlying91 rfl inf91 rfl rfl) ?_
       refine o_mapUpdate (ok := okW F men) (b := mb) keyLaw115 hkl rfl Try.underlying128 rfl rfl rfl rfl rfl (okW_mk hpr (waysT_all ▸ bestW_eq hpr)) ?_
       refine o_nil ?_
       with_reducible refine r_then ?_
       refine r_seq ?_
       refine r_region ?_
       refine o_q _ rfl rfl rfl (v_ldW rfl Try.underlying91 rfl inf91 rfl rfl) ?_
       refine o_st rfl inf91 rfl rfl rfl rfl rfl rfl rfl rfl ?_
       refine o_nil ?_
       with_reducible refine r_then ?_
       refine r_ret ?_
       exact r_retm (Rd.one rfl (RdI.cellW Try.underlying91 rfl inf91 rfl rfl)) (by rw [waysT_all]; exact congrArg valWay (bestW_eq hpr)) SelMC.sel SubRC.sub
end Go.Proofs.Ytpndeonmmcaikaa.FootW


namespace Foot4
open Go Go.G
abbrev KeyW := Nat × Nat × List Int
def domW (F : Work) (x : KeyW) : Prop := x.1 + x.2.1 = F.heaps.length ∧ x.2.2.length = 8 ∧ Small x.2.2 (3 * x.1)
@[reducible] def keyW (x : KeyW) : Value := keyL x.1 x.2.2
@[reducible] def ansW (F : Work) (men : Int) (x : KeyW) : Value := valWay (bestW F men x.2.1 x.2.2)
@[reducible] def zeros : List Int := [0, 0, 0, 0, 0, 0, 0, 0]
theorem small_zeros (m : Int) (h : 0 ≤ m) : Small zeros m := fun i => by
  match i with
  | 0 | 1 | 2 | 3 | 4 | 5 | 6 | 7 => exact ⟨Int.le_refl 0, h⟩
  | n + 8 => exact ⟨Int.le_refl 0, h⟩
def bestS (F : Work) (men : Int) : Int := (bestW F men F.heaps.length zeros).sods
/-- How it goes on, heap by heap. -/
def stW (F : Work) (men : Int) : Nat → List Int × List T3
  | 0 => (zeros, [])
  | k + 1 => (with_ (stW F men k).1 (bestW F men (F.heaps.length - k) (stW F men k).1).plan, (stW F men k).2 ++ [(bestW F men (F.heaps.length - k) (stW F men k).1).plan])
theorem stW_len (F : Work) (men : Int) : ∀ k, (stW F men k).1.length = 8 ∧ (stW F men k).2.length = k
  | 0 => ⟨rfl, rfl⟩
  | k + 1 => by simp [stW, with_len, stW_len F men k]
theorem stW_small (F : Work) (men : Int) : ∀ k : Nat, Small (stW F men k).1 (3 * k)
  | 0 => small_zeros _ (by omega)
  | k + 1 => by
    have := with_small (by omega) (stW_small F men k) (bestW F men (F.heaps.length - k) (stW F men k).1).plan
    intro i
    have := this i
    simp only [stW]
    omega
theorem bestW_plan {F : Work} (hn : F.rain.length ≤ 8) (men : Int) : ∀ r B, 0 < r → ∀ j, j < 3 → -1 ≤ (bestW F men r B).plan.at j ∧ (bestW F men r B).plan.at j ≤ 7
  | 0, _, h => absurd h (by omega)
  | r + 1, B, _ => by
    have hm := wayL_mem (l := waysW F men (F.heaps.length - (r + 1)) B (fun C => (bestW F men r C).sods) (sureF selW F (F.heaps.length - (r + 1)))) (by simp [waysW])
    intro j hj
    show -1 ≤ (wayL _).plan.at j ∧ (wayL _).plan.at j ≤ 7
    rcases List.mem_cons.1 hm with e | hm'
    · rw [e]
      obtain rfl | rfl | rfl : j = 0 ∨ j = 1 ∨ j = 2 := by omega
      all_goals (show (-1 : Int) ≤ -1 ∧ (-1 : Int) ≤ 7; omega)
    · obtain ⟨p, hp, e⟩ := List.mem_map.1 hm'
      rw [← e]
      have := whole_days (List.mem_filter.1 (List.mem_filter.1 hp).1).1 j hj
      show -1 ≤ p.at j ∧ p.at j ≤ 7
      omega
def bestP (F : Work) : Int × List T3 × Int := if GoodF F then (bestS F F.men, (stW F F.men F.heaps.length).2, 0) else (0, [], 1)
theorem bestP_ok {F : Work} (h : GoodF F) : bestP F = (bestS F F.men, (stW F F.men F.heaps.length).2, 0) := if_pos h
theorem bestP_bad {F : Work} (h : ¬ GoodF F) : bestP F = (0, [], 1) := if_neg h
def enough (F : Work) (n : Nat) : Prop := ¬ bestS F n < bestS F 3
instance (F : Work) (n : Nat) : Decidable (enough F n) := by unfold enough; infer_instance
theorem allRows_nil {F : Work} {V : View} : allRows F [] V := fun _ h => absurd h (by simp)
theorem allRows_add {F : Work} {xs : List Inner} {x : Inner} {V : View} (h : allRows F xs V) (hx : rowD x.1 3 encT (sureF selW F xs.length) V) : allRows F (xs ++ [x]) V := by
  intro k hk
  rw [List.length_append, List.length_singleton] at hk
  by_cases e : k = xs.length
  · subst e
    simpa [List.getD_eq_getElem?_getD] using hx
  · have : (xs ++ [x]).getD k default = xs.getD k default := by
      simp only [List.getD_eq_getElem?_getD]; rw [List.getElem?_append_left (by omega)]
    rw [this]; exact h k (by omega)
theorem Rows_add {F : Work} {xs : List Inner} {x : Inner} (h : Rows F xs) (hl : xs.length < F.heaps.length) (hx : x.2.1 = (sureF selW F xs.length).length) : Rows F (xs ++ [x]) := by
  refine ⟨by simp; omega, fun k hk => ?_⟩
  rw [List.length_append, List.length_singleton] at hk
  by_cases e : k = xs.length
  · subst e
    simpa [List.getD_eq_getElem?_getD] using hx
  · have : (xs ++ [x]).getD k default = xs.getD k default := by
      simp only [List.getD_eq_getElem?_getD]; rw [List.getElem?_append_left (by omega)]
    rw [this]; exact h.2 k (by omega)
theorem oneT (t : T3) : oneCells (encT t) = true := rfl
end Foot4


namespace Go.Proofs.Ytpndeonmmcaikaa.FootW
open Go.G Foot4
set_option maxRecDepth 1000000
attribute [local irreducible] G.ParO G.Fin
theorem best1_m (F : Work) (ro ho : Option Addr) (rc hc : Nat) (fb : Nat) (men : Int) (hg : GoodF F) (b1 b2 b3 b4 b5 b6 mb : Nat) (sa : Option Addr) (sc : Nat) (xs : List Inner) (hxl : xs.length = F.heaps.length) (hR : Foot4.Rows F xs) : ∀ (r hp : Nat) (C : List Int), hp + r = F.heaps.length → C.length = 8 → Small C (3 * hp) → FnM Try.prog 60 [keyL hp C, pt b1 0, pt b2 0, pt b3 0, pt b4 0, pt b5 0, pt b6 0] (memo Try.prog 89 (okW F men) mb) [boxF b1 82 [pt fb 0], boxF b2 128 [.map (some mb)], boxF b3 84 [.func (.func 60) #[] #[pt b1 0, pt b2 0, pt b3 0, pt b4 0, pt b5 0, pt b6 0]], boxF b4 55 [i64 (-1), i64 (-1), i64 (-1)], boxF b5 127 [.slice sa xs.length sc], boxF b6 3 [i64 men], rowD sa 1 encO xs, allRows F xs, boxF fb 126 (cellsF F ro rc ho hc), rowD ro 2 encS F.rain, rowD ho 3 encH F.heaps] (fun u => u = valWay (bestW F men r C))
  | 0, hp, C, h1, h2, h3 => best1_0 F ro ho rc hc fb men hg b1 b2 b3 b4 b5 b6 mb sa sc xs hxl hR hp h1 C h2 h3
  | r + 1, hp, C, h1, h2, h3 => best1_s F ro ho rc hc fb men hg b1 b2 b3 b4 b5 b6 mb sa sc xs hxl hR r (best1_m F ro ho rc hc fb men hg b1 b2 b3 b4 b5 b6 mb sa sc xs hxl hR r) hp h1 C h2 h3
theorem sure_n (F : Work) (ro ho : Option Addr) (rc hc : Nat) (fb k : Nat) (h : k < F.heaps.length) (hb : Bnd F) : FnR Try.prog 37 [pt fb 0, i64 (k : Int), wetT.i] [boxF fb 126 (cellsF F ro rc ho hc), rowD ro 2 encS F.rain, rowD ho 3 encH F.heaps] (isSl (sureF selW F k).length) (fun v => [rowD (adr v) 3 encT (sureF selW F k)]) := sure_fr wetT F ro ho rc hc fb (k : Int) (by omega) (by omega) hb
theorem encO_len (x : Inner) : (encO x).length = 1 := rfl
set_option maxHeartbeats 4000000 in
theorem best_s (F : Work) (ro ho : Option Addr) (rc hc : Nat) (fb : Nat) (men : Int) (hg : GoodF F) : FnS Try.prog 35 [pt fb 0, i64 men] [] [boxF fb 126 (cellsF F ro rc ho hc), rowD ro 2 encS F.rain, rowD ho 3 encH F.heaps] (fun e M' R' => ∃ v m, e = .returned v ∧ M' = [m] ∧ FnOk Try.prog (domW F) keyW (ansW F men) v m R') := by
 have hb := hg.bnd
 have hl3 := hg.2.2.1
 refine FnS.intro0 Try.call35 Try.func35 rfl Try.ntmps35 rfl ?_
 intro W M Rf
 refine r_seq ?_
 refine r_region ?_
 refine o_box1 rfl rfl rfl rfl rfl rfl (fun b2 => ?_)
 refine o_box1 rfl rfl rfl rfl rfl rfl (fun b3 => ?_)
 refine o_q _ rfl rfl rfl (v_assign rfl rfl) ?_
 refine o_nil ?_
 with_reducible refine r_then ?_
 refine r_seq ?_
 refine r_region ?_
 refine o_q _ rfl rfl rfl (v_bA rfl Try.underlying55 inf55 inf3 rfl rfl rfl (by repeat (first | exact trivial | refine ⟨rfl, ?_⟩)) (by rfl)) ?_
 refine o_alloc rfl inf55 rfl rfl rfl rfl rfl (fun b5 => ?_)
 refine o_st rfl inf55 rfl rfl rfl rfl rfl rfl rfl rfl ?_
 refine o_nil ?_
 with_reducible refine r_then ?_
 refine r_seq ?_
 refine Imp.box_to b5 [i64 (-1), i64 (-1), i64 (-1)] rfl ?_
 refine Imp.sealB b5 ?_
 refine Imp.sealB b3 ?_
 refine Imp.sealB b2 ?_
 refine r_region ?_
 refine o_alloc rfl inf127 rfl rfl rfl rfl rfl (fun b6 => ?_)
 refine o_nil ?_
 with_reducible refine r_then ?_
 refine r_seq ?_
 refine r_seq ?_
 refine Imp.nilL 48 1 encO ?_
 refine Imp.derive (ψ := allRows F []) ?_ (fun V _ => allRows_nil)
 refine r_region ?_
 refine o_q _ rfl rfl rfl (v_lf1 rfl Try.underlying82 rfl rfl rfl) ?_
 refine o_q _ rfl rfl rfl (v_nilCheck rfl rfl) ?_
 refine o_q _ rfl rfl rfl (v_fieldAddr rfl Try.underlying126 inf26 rfl rfl rfl rfl) ?_
 refine o_q _ rfl rfl rfl (v_fieldAddr rfl Try.underlying26 inf24 rfl rfl rfl rfl) ?_
 refine o_q _ rfl rfl rfl (v_lf1 rfl Try.underlying24 rfl rfl rfl) ?_
 refine o_q _ rfl rfl rfl (v_len rfl rfl Try.underlying24 rfl) ?_
 refine o_q _ rfl rfl rfl (v_move rfl rfl) ?_
 refine o_nil ?_
 with_reducible refine r_then ?_
 refine r_block ?_
 refine r_loop (ι := Nat × Value × List Inner) (fun gh => gh.1 ≤ F.heaps.length ∧ gh.2.2.length = gh.1 ∧ Foot4.Rows F gh.2.2) (fun gh => [(2, pt b2 0), (3, pt b3 0), (5, pt b5 0), (6, pt b6 0), (16, i64 F.heaps.length), (17, i64 gh.1)]) (fun gh => ownL gh.2.1 48 1 encO gh.2.2 :: bx b6 127 [gh.2.1] :: M) (fun gh => allRows F gh.2.2 :: boxF b5 55 [i64 (-1), i64 (-1), i64 (-1)] :: boxF b3 3 [i64 men] :: boxF b2 82 [pt fb 0] :: ([boxF fb 126 (cellsF F ro rc ho hc), rowD ro 2 encS F.rain, rowD ho 3 encH F.heaps] ++ Rf)) (fun gh => F.heaps.length - gh.1) (0, .slice none 0 0, []) ?_ ?_ ?_
 ·
  refine Imp.box_to b6 [.slice none 0 0] rfl ?_
  exact r_here (by repeat (first | exact FSub.nil | refine FSub.cons rfl ?_)) SelMC.sel SubRC.sub
 ·
  exact ⟨Nat.zero_le _, rfl, Nat.zero_le _, fun h hh => absurd hh (by simp)⟩
 ·
  rintro ⟨k, v, xs⟩ hI0
  dsimp only at hI0
  dsimp only
  have hR := hI0.2.2
  have hlx : xs.length = k := hI0.2.1
  have hkl : k ≤ F.heaps.length := hI0.1
  refine r_seq ?_
  refine r_region ?_
  refine o_q _ rfl rfl rfl (v_lss rfl rfl rfl) ?_
  refine o_nil ?_
  with_reducible refine r_then ?_
  refine r_seq ?_
  refine r_condd rfl (fun hc18 => ?_) (fun hc18 => ?_)
  ·
   refine r_skip ?_
   with_reducible refine r_then ?_
   refine r_seq ?_
   refine r_block ?_
   refine r_seq ?_
   refine r_region ?_
   refine o_q _ rfl rfl rfl (v_move rfl rfl) ?_
   refine o_q _ rfl rfl rfl (v_assign rfl rfl) ?_
   refine o_nil ?_
   with_reducible refine r_then ?_
   refine r_par' 7 mixed (by kernel_rfl) (by rfl) ?_
   refine p_q _ rfl rfl rfl (fun _ _ => v_ld1 rfl Try.underlying127 rfl rfl rfl) ?_
   refine p_q _ rfl rfl rfl (fun _ _ => v_lf1 rfl Try.underlying82 rfl rfl rfl) ?_
   refine p_q _ rfl rfl rfl (fun _ _ => v_move rfl rfl) ?_
   refine p_q _ rfl rfl rfl (fun _ _ => v_bS0 rfl Try.underlying97 inf97 plt97 rfl rfl) ?_
   refine p_q _ rfl rfl rfl (fun _ _ => v_makeIface rfl Try.underlying97 rfl rfl) ?_
   refine p_fn (sure_n F ro ho rc hc fb k (by omega) hb) rfl rfl rfl rfl rfl SubRC.sub ?_
   refine p_acc (by simp only [List.nil_append, List.cons_append]; rfl) ?_
   refine p_depSl 5 rfl rfl (by kernel_rfl) rfl rfl rfl rfl rfl Try.underlying127 inf48 rfl rfl ?_
   refine p_nil2 (by simp only [List.nil_append, List.cons_append]; rfl) rfl ?_
   refine f_q rfl ?_
   refine f_q rfl ?_
   refine f_q rfl ?_
   refine f_q rfl ?_
   refine f_q rfl ?_
   refine f_gf rfl (fun v25 hv25 => ?_)
   refine f_slsl rfl (fun b26 => ?_)
   refine f_nil ?_
   refine Imp.slF (b := b26) (e := 48) (m := (sureF selW F k).length) (sz := 3) (enc := encT) (ys := (sureF selW F k)) (fun oa cp => ?_)
   refine o_app1F (((oa, (sureF selW F k).length, cp) : Inner)) rfl Try.underlying127 inf48 rfl (by rfl) (by rfl) rfl rfl rfl rfl rfl (by rfl) (by rfl) (by rfl) (by first | omega | (constructor <;> first | omega | decide)) (fun v27 => ?_)
   refine Imp.own_is v27 (fun hs27 => ?_)
   obtain ⟨oa27, cp27, rfl⟩ := hs27
   refine o_st rfl inf127 rfl rfl rfl rfl rfl rfl rfl rfl ?_
   refine o_nil ?_
   with_reducible refine r_in_normal ?_; refine r_then ?_
   refine r_region ?_
   refine o_q _ rfl rfl rfl (v_add rfl rfl rfl (by omega)) ?_
   refine o_q _ rfl rfl rfl (v_move rfl rfl) ?_
   refine o_nil ?_
   with_reducible refine r_then ?_
   exact r_next ((k + 1, .slice oa27 (xs ++ [(oa, (sureF selW F k).length, cp)]).length cp27, xs ++ [(oa, (sureF selW F k).length, cp)])) (by refine Imp.box_to b6 [.slice oa27 (xs ++ [(oa, (sureF selW F k).length, cp)]).length cp27] rfl ?_; refine Imp.derive (ψ := allRows F (xs ++ [(oa, (sureF selW F k).length, cp)])) ?_ (fun V hV => allRows_add (hV (allRows F xs) InR.mem) (by rw [hlx]; exact hV (rowD oa 3 encT (sureF selW F k)) InR.mem)); exact r_here (by repeat (first | exact FSub.nil | refine FSub.cons rfl ?_)) SelMC.sel SubRC.sub) (by exact ⟨by show k + 1 ≤ _; omega, by simp [hlx], Rows_add hR (by omega) (by rw [hlx])⟩) (by show _ - (k + 1) < _ - k; omega)
  ·
   refine r_exit ?_
   with_reducible refine r_then_exit ?_; refine r_then_exit ?_; refine r_in_here ?_; refine r_then ?_
   refine r_seq ?_
   refine Imp.settleS v encO_len (fun sa sc hv => ?_)
   subst hv
   have hxl : xs.length = F.heaps.length := by omega
   refine Imp.box_to b6 [.slice sa xs.length sc] rfl ?_
   refine Imp.sealB b6 ?_
   refine r_region ?_
   refine o_makeMap (k := 89) (okW F men) rfl rfl rfl rfl (fun mb => ?_)
   refine o_alloc rfl inf128 rfl rfl rfl rfl rfl (fun b8 => ?_)
   refine o_st rfl inf128 rfl rfl rfl rfl rfl rfl rfl rfl ?_
   refine o_nil ?_
   with_reducible refine r_then ?_
   refine r_seq ?_
   refine Imp.box_to b8 [.map (some mb)] rfl ?_
   refine Imp.sealB b8 ?_
   refine r_region ?_
   refine o_alloc rfl inf84 rfl rfl rfl rfl rfl (fun b9 => ?_)
   refine o_nil ?_
   with_reducible refine r_then ?_
   refine r_seq ?_
   refine r_region ?_
   refine o_q _ rfl rfl rfl (v_makeFunc rfl rfl rfl) ?_
   refine o_st rfl inf84 rfl rfl rfl rfl rfl rfl rfl rfl ?_
   refine o_nil ?_
   with_reducible refine r_then ?_
   refine r_seq ?_
   refine Imp.box_to b9 [.func (.func 60) #[] #[pt b2 0, pt b8 0, pt b9 0, pt b5 0, pt b6 0, pt b3 0]] rfl ?_
   refine Imp.sealB b9 ?_
   refine r_region ?_
   refine o_q _ rfl rfl rfl (v_lf1 rfl Try.underlying84 rfl rfl rfl) ?_
   refine o_q _ rfl rfl rfl (v_assign rfl rfl) ?_
   refine o_nil ?_
   with_reducible refine r_then ?_
   refine r_ret ?_
   exact r_rete [memo Try.prog 89 (okW F men) mb] [boxF b2 82 [pt fb 0], boxF b8 128 [.map (some mb)], boxF b9 84 [.func (.func 60) #[] #[pt b2 0, pt b8 0, pt b9 0, pt b5 0, pt b6 0, pt b3 0]], boxF b5 55 [i64 (-1), i64 (-1), i64 (-1)], boxF b6 127 [.slice sa xs.length sc], boxF b3 3 [i64 men], rowD sa 1 encO xs, allRows F xs, boxF fb 126 (cellsF F ro rc ho hc), rowD ro 2 encS F.rain, rowD ho 3 encH F.heaps] (Rd.tmp rfl rfl) ⟨_, _, rfl, rfl, _, [pt b2 0, pt b8 0, pt b9 0, pt b5 0, pt b6 0, pt b3 0], rfl, fun x hx => best1_m F ro ho rc hc fb men hg b2 b8 b9 b5 b6 b3 mb sa sc xs hxl hR x.2.1 x.1 x.2.2 hx.1 hx.2.1 hx.2.2⟩ SelMC.sel (SubR.append SubRC.sub SubRC.sub)
theorem oneCells_cons (x : Int) (xs : List Int) : oneCells (i64 x :: xs.map iv) = true := oneCells_map (x :: xs)
set_option maxHeartbeats 4000000 in
theorem Best_s (F : Work) (ro ho : Option Addr) (rc hc : Nat) (hr : F.rain.length ≤ 40) (hh : F.heaps.length ≤ 40) : FnS Try.prog 10 [valF F ro rc ho hc] [] [rowD ro 2 encS F.rain, rowD ho 3 encH F.heaps] (fun e M' R' => ∃ v, e = .returned (.tuple #[i64 (bestP F).1, v, i64 (bestP F).2.2]) ∧ M' = [ownL v 55 3 encT (bestP F).2.1] ∧ R' = []) := by
 refine FnS.introD0 Try.call10 Try.func10 rfl Try.ntmps10 rfl ?_
 intro W M Rf
 refine r_seq ?_
 refine r_region ?_
 refine o_boxA rfl rfl rfl rfl rfl (fun b1 => ?_)
 refine o_q _ rfl rfl rfl (v_assign rfl rfl) ?_
 refine o_q _ rfl rfl rfl (v_assign rfl rfl) ?_
 refine o_alloc rfl inf43 rfl rfl rfl rfl rfl (fun b4 => ?_)
 refine o_nil ?_
 with_reducible refine r_then ?_
 refine r_seq ?_
 refine r_region ?_
 refine o_defer rfl rfl rfl rfl ?_
 refine o_nil ?_
 with_reducible refine r_then ?_
 refine r_seq ?_
 refine Imp.sealB b1 ?_
 refine r_region ?_
 refine o_q _ rfl rfl rfl (v_lfW rfl Try.underlying26 rfl inf26 rfl rfl) ?_
 by_cases hg : GoodF F
 all_goals
  first | refine o_fnp (open_ok F ro ho rc hc hr hh hg) rfl rfl rfl rfl rfl SubRC.sub (fun fb => ?_) | refine o_fnx (open_x F ro ho rc hc _ hr hh (by exact chk_ne hg)) rfl rfl rfl SubRC.sub ?_
  all_goals
   repeat (first | with_reducible refine r_then_panic ?_)
   try (refine Imp.nilL 55 3 encT ?_; exact d_pane [ownL (.slice none 0 0) 55 3 encT []] [] answer_ans (Rd.three rfl (RdI.tmp rfl) (RdI.tmp rfl) (RdI.cell1 Try.underlying43 rfl rfl rfl)) (by rw [bestP_bad hg]; exact ⟨_, by rw [chk_1 hg], rfl, rfl⟩) SelMC.sel SubRC.sub)
   all_goals
    refine o_q _ rfl rfl rfl (v_assign rfl rfl) ?_
    refine o_nil ?_
    with_reducible refine r_then ?_
    refine r_seq ?_
    have hb := hg.bnd
    have hl3 := hg.2.2.1
    refine r_region ?_
    refine o_q _ rfl rfl rfl (v_move rfl rfl) ?_
    refine o_q _ rfl rfl rfl (v_fieldAddr rfl Try.underlying26 inf3 rfl rfl rfl rfl) ?_
    refine o_q _ rfl rfl rfl (v_lf1 rfl Try.underlying3 rfl rfl rfl) ?_
    refine o_fnk (best_s F ro ho rc hc fb F.men hg) rfl rfl rfl rfl rfl SubRC.sub (fun kk caps m Rs hk => ?_)
    all_goals
     refine o_q _ rfl rfl rfl (v_assign rfl rfl) ?_
     refine o_nil ?_
     with_reducible refine r_then ?_
     refine r_seq ?_
     refine r_region ?_
     refine o_alloc rfl inf89 rfl rfl rfl rfl rfl (fun b7 => ?_)
     refine o_nil ?_
     with_reducible refine r_then ?_
     refine r_seq ?_
     refine r_region ?_
     refine o_q _ rfl rfl rfl (v_fieldAddr rfl Try.underlying26 inf24 rfl rfl rfl rfl) ?_
     refine o_q _ rfl rfl rfl (v_lf1 rfl Try.underlying24 rfl rfl rfl) ?_
     refine o_q _ rfl rfl rfl (v_len rfl rfl Try.underlying24 rfl) ?_
     refine o_make (enc := encT) (sz := 3) (⟨0, 0, 0⟩ : T3) rfl Try.underlying48 inf55 rfl rfl rfl rfl rfl rfl rfl (l := 0) rfl rfl (by omega) (by constructor <;> first | omega | decide) (fun b21 => ?_)
     all_goals
      refine o_q _ rfl rfl rfl (v_assign rfl rfl) ?_
      refine o_nil ?_
      with_reducible refine r_then ?_
      refine r_seq ?_
      refine r_region ?_
      refine o_q _ rfl rfl rfl (v_move rfl rfl) ?_
      refine o_q _ rfl rfl rfl (v_ldW rfl Try.underlying89 rfl inf89 rfl rfl) ?_
      refine o_q _ rfl rfl rfl (OpQ.fnm (hk (0, F.heaps.length, zeros) ⟨by simp, rfl, small_zeros _ (by simp)⟩) rfl [] caps rfl rfl rfl SubRC.sub) ?_
      refine o_q _ rfl rfl rfl (v_field rfl Try.underlying91 Try.underlying3 inf3 rfl rfl rfl rfl) ?_
      refine o_q _ rfl rfl rfl (v_assign rfl rfl) ?_
      refine o_nil ?_
      with_reducible refine r_then ?_
      refine r_seq ?_
      refine r_block ?_
      refine r_loop (ι := Nat × Value) (fun gh => gh.1 ≤ F.heaps.length) (fun gh => [(1, pt b1 0), (4, pt b4 0), (6, .func (.func kk) #[] caps.toArray), (7, pt b7 0), (8, gh.2), (9, i64 (bestS F F.men))]) (fun gh => ownL gh.2 55 3 encT (stW F F.men gh.1).2 :: bx b7 89 (i64 ((gh.1 : Nat) : Int) :: (stW F F.men gh.1).1.map iv) :: bx b4 43 [i64 0] :: m :: M) (fun gh => Rs ++ (boxF fb 126 (cellsF F ro rc ho hc) :: boxF b1 26 (cellsF F ro rc ho hc) :: ([rowD ro 2 encS F.rain, rowD ho 3 encH F.heaps] ++ Rf))) (fun gh => F.heaps.length - gh.1) (0, .slice (some ⟨b21, 0, none⟩) 0 F.heaps.length) ?_ ?_ ?_
      ·
       refine Imp.own_to (.slice (some ⟨b21, 0, none⟩) 0 F.heaps.length) (stW F F.men 0).2 rfl ?_
       refine Imp.box_to b7 (i64 ((0 : Nat) : Int) :: (stW F F.men 0).1.map iv) rfl ?_
       refine Imp.box_to b4 [i64 0] rfl ?_
       exact r_here (by repeat (first | exact FSub.nil | refine FSub.cons rfl ?_)) SelMC.sel SubRC.sub
      ·
       exact Nat.zero_le _
      ·
       rintro ⟨k, v⟩ hI0
       dsimp only at hI0
       dsimp only
       have hI : k ≤ F.heaps.length := hI0
       have hsl := (stW_len F F.men k).2
       refine r_seq ?_
       refine r_seq ?_
       refine r_region ?_
       refine o_q _ rfl rfl rfl (v_fieldAddr rfl Try.underlying89 inf3 rfl rfl rfl rfl) ?_
       refine o_q _ rfl rfl rfl (v_ld1 rfl Try.underlying3 rfl rfl rfl) ?_
       refine o_q _ rfl rfl rfl (v_fieldAddr rfl Try.underlying26 inf24 rfl rfl rfl rfl) ?_
       refine o_q _ rfl rfl rfl (v_lf1 rfl Try.underlying24 rfl rfl rfl) ?_
       refine o_q _ rfl rfl rfl (v_len rfl rfl Try.underlying24 rfl) ?_
       refine o_q _ rfl rfl rfl (v_lss rfl rfl rfl) ?_
       refine o_nil ?_
       with_reducible refine r_then ?_
       refine r_condd rfl (fun hc31 => ?_) (fun hc31 => ?_)
       ·
        refine r_skip ?_
        with_reducible refine r_then ?_
        refine r_block ?_
        refine r_seq ?_
        refine r_region ?_
        refine o_q _ rfl rfl rfl (v_move rfl rfl) ?_
        refine o_q _ rfl rfl rfl (v_ldW rfl Try.underlying89 rfl inf89 rfl (by rw [List.length_cons, List.length_map, (stW_len F F.men k).1]; rfl)) ?_
        refine o_q _ rfl rfl rfl (OpQ.fnm (hk (k, F.heaps.length - k, (stW F F.men k).1) ⟨by show k + (F.heaps.length - k) = _; omega, (stW_len F F.men k).1, stW_small F F.men k⟩) rfl [] caps rfl rfl rfl SubRC.sub) ?_
        refine o_alloc rfl inf91 rfl rfl rfl rfl rfl (fun b10 => ?_)
        refine o_st rfl inf91 rfl rfl rfl rfl rfl rfl rfl rfl ?_
        refine o_nil ?_
        with_reducible refine r_then ?_
        refine r_seq ?_
        refine r_region ?_
        refine o_q _ rfl rfl rfl (v_move rfl rfl) ?_
        refine o_q _ rfl rfl rfl (v_fieldAddr rfl Try.underlying91 inf55 rfl rfl rfl rfl) ?_
        refine o_q _ rfl rfl rfl (v_ldN rfl Try.underlying55 rfl inf55 rfl rfl rfl) ?_
        refine o_lit rfl Try.underlying48 inf55 rfl rfl rfl rfl rfl rfl rfl rfl (by repeat (first | exact trivial | refine ⟨rfl, ?_⟩)) (by rfl) (fun b38 => ?_)
        refine o_app1 ((bestW F F.men (F.heaps.length - k) (stW F F.men k).1).plan) rfl Try.underlying48 inf55 rfl (by rfl) (by rfl) rfl rfl rfl rfl rfl (by rfl) (by rfl) (by rfl) (by first | omega | (constructor <;> first | omega | decide)) (fun v39 => ?_)
        refine o_q _ rfl rfl rfl (v_assign rfl rfl) ?_
        refine o_nil ?_
        with_reducible refine r_then ?_
        refine r_par' 8 mixed (by kernel_rfl) (by rfl) ?_
        refine p_q _ rfl rfl rfl (fun _ _ => v_fieldAddr rfl Try.underlying89 inf3 rfl rfl rfl rfl) ?_
        refine p_q _ rfl rfl rfl (fun _ _ => v_ld1 rfl Try.underlying3 rfl rfl rfl) ?_
        refine p_q _ rfl rfl rfl (fun _ _ => v_add rfl rfl rfl (by omega)) ?_
        refine p_q _ rfl rfl rfl (fun _ _ => v_fieldAddr rfl Try.underlying89 inf87 rfl rfl rfl rfl) ?_
        refine p_q _ rfl rfl rfl (fun _ _ => v_ldN (us := (stW F F.men k).1.map iv) rfl Try.underlying87 rfl inf87 rfl (take8 (stW_len F F.men k).1) (by rw [List.length_map, (stW_len F F.men k).1]; rfl)) ?_
        refine p_q _ rfl rfl rfl (fun _ _ => v_fieldAddr rfl Try.underlying91 inf55 rfl rfl rfl rfl) ?_
        refine p_q _ rfl rfl rfl (fun _ _ => v_ldN rfl Try.underlying55 rfl inf55 rfl rfl rfl) ?_
        refine p_q _ rfl rfl rfl (fun _ _ => OpQ.fn (with_v (stW F F.men k).1 _ _ _ (stW_len F F.men k).1 (fun i => by have := stW_small F F.men k i; omega) (fun j hj => (bestW_plan hb.len F.men (F.heaps.length - k) (stW F F.men k).1 (by omega) j hj).2)) rfl rfl SubRC.sub) ?_
        refine p_nil2 (by simp only [List.nil_append, List.cons_append]; rfl) rfl ?_
        refine f_q rfl ?_
        refine f_q rfl ?_
        refine f_q rfl ?_
        refine f_q rfl ?_
        refine f_q rfl ?_
        refine f_q rfl ?_
        refine f_q rfl ?_
        refine f_q rfl ?_
        refine f_nil ?_
        refine o_q _ rfl rfl rfl (mk115 rfl rfl rfl (by rw [with_len, (stW_len F F.men k).1])) ?_
        refine o_st (B := 89) (vs := (i64 ((k : Nat) : Int) :: (stW F F.men k).1.map iv)) (us := i64 ((k + 1 : Nat) : Int) :: (with_ (stW F F.men k).1 (bestW F F.men (F.heaps.length - k) (stW F F.men k).1).plan).map iv) rfl inf89 rfl rfl rfl rfl rfl (by rw [List.length_cons, List.length_map, with_len, (stW_len F F.men k).1]; rfl) (oneCells_cons _ _) (by rw [List.length_cons, List.length_cons, List.length_map, List.length_map, with_len]; simp [(stW_len F F.men k).1]) ?_
        refine o_nil ?_
        with_reducible refine r_in_normal ?_; refine r_then ?_
        exact r_next ((k + 1, v39)) (by refine Imp.box_to b7 (i64 (((k + 1) : Nat) : Int) :: (stW F F.men (k + 1)).1.map iv) (by show splice _ 0 _ = _; rw [splice_all (by rw [List.length_cons, List.length_cons, List.length_map, List.length_map, with_len])]; rfl) ?_; refine Imp.own_to v39 (stW F F.men (k + 1)).2 rfl ?_; exact r_here (by repeat (first | exact FSub.nil | refine FSub.cons rfl ?_)) SelMC.sel SubRC.sub) (by first | omega | (show _ + 1 ≤ _; omega)) (by first | omega | (show _ - (_ + 1) < _ - _; omega))
       ·
        refine r_exit ?_
        with_reducible refine r_then_exit ?_; refine r_then_exit ?_; refine r_in_here ?_; refine r_then ?_
        refine r_seq ?_
        refine Imp.own_to v (stW F F.men F.heaps.length).2 (by rw [show k = F.heaps.length from by omega]) ?_
        refine Imp.settleS v encT_len (fun oa cp hv => ?_)
        subst hv
        have hsl := (stW_len F F.men F.heaps.length).2
        refine r_region ?_
        refine o_q _ rfl rfl rfl (v_move rfl rfl) ?_
        refine o_q _ rfl rfl rfl (v_len rfl rfl Try.underlying48 rfl) ?_
        refine o_make (enc := encT) (sz := 3) (⟨0, 0, 0⟩ : T3) rfl Try.underlying48 inf55 rfl rfl rfl rfl rfl rfl rfl rfl rfl (by omega) (by constructor <;> first | omega | decide) (fun b51 => ?_)
        all_goals
         refine o_q _ rfl rfl rfl (v_assign rfl rfl) ?_
         refine o_nil ?_
         with_reducible refine r_then ?_
         refine r_seq ?_
         refine r_region ?_
         refine o_q _ rfl rfl rfl (v_move rfl rfl) ?_
         refine o_q _ rfl rfl rfl (v_move rfl rfl) ?_
         refine o_copy (enc := encT) (sz := 3) (xs := List.replicate (stW F F.men F.heaps.length).2.length ⟨0, 0, 0⟩) (ys := (stW F F.men F.heaps.length).2) rfl Try.underlying48 inf55 rfl rfl rfl rfl encT_len oneT rfl rfl rfl (by simp) ?_
         all_goals
          refine o_nil ?_
          with_reducible refine r_then ?_
          refine r_seq ?_
          refine r_region ?_
          refine o_q _ rfl rfl rfl (v_move rfl rfl) ?_
          refine o_q _ rfl rfl rfl (v_move rfl rfl) ?_
          refine o_q _ rfl rfl rfl (v_assign rfl rfl) ?_
          refine o_q _ rfl rfl rfl (v_assign rfl rfl) ?_
          refine o_st rfl inf43 rfl rfl rfl rfl rfl rfl rfl rfl ?_
          refine o_nil ?_
          with_reducible refine r_then ?_
          refine r_ret ?_
          exact d_rete [ownL (.slice (some ⟨b51, 0, none⟩) (stW F F.men F.heaps.length).2.length (stW F F.men F.heaps.length).2.length) 55 3 encT (stW F F.men F.heaps.length).2] [] answer_ans (Rd.three rfl (RdI.tmp rfl) (RdI.tmp rfl) (RdI.cell1 Try.underlying43 rfl rfl rfl)) (by rw [bestP_ok hg]; exact ⟨_, rfl, rfl, rfl⟩) SelMC.sel SubRC.sub
end Go.Proofs.Ytpndeonmmcaikaa.FootW


namespace Go.Proofs.Ytpndeonmmcaikaa.FootW
open Go.G Foot4
set_option maxRecDepth 1000000
theorem guard31 : Try.prog.eqGuardType Try.prog.depth 42 = false := by kernel_rfl
theorem pc3 {w : World} {us : Array Value} {k : Nat} {v : Value} (h : us[k]? = some v) : (part 3 us k).run Try.prog w = .ok v w := run_partC Try.underlying3 rfl h
theorem eqIn31 (dd : Nat) (a b c d : Int) (w : World) : (Op.equalIn (dd + 1 + 1) 42 (.agg #[i64 a, i64 b]) (.agg #[i64 c, i64 d])).run Try.prog w = .ok (decide (a = c ∧ b = d ∧ True)) w := by
  refine eq_struct Try.underlying42 (by kernel_rfl) ?_
  exact fields_cons rfl (pc3 rfl) (pc3 rfl) (eq_int Try.underlying3) (fields_cons rfl (pc3 rfl) (pc3 rfl) (eq_int Try.underlying3) fields_nil)
theorem eq31 (a b c d : Int) (w : World) : (Op.equal 42 (.agg #[i64 a, i64 b]) (.agg #[i64 c, i64 d])).run Try.prog w = .ok (decide ((⟨a, b⟩ : Span) = ⟨c, d⟩)) w :=
  eq_to (fun w => eqIn31 9998 a b c d w) (by simp) w
end Go.Proofs.Ytpndeonmmcaikaa.FootW


namespace Foot4
open Go Go.G
/-! ### how many steps of the first heaps there are on a day -/
def cnt (p : T3) (day : Int) : Nat → Int
  | 0 => 0
  | k + 1 => cnt p day k + (if p.at k = day then 1 else 0)
theorem cnt_bd (p : T3) (day : Int) : ∀ k : Nat, 0 ≤ cnt p day k ∧ cnt p day k ≤ k
  | 0 => by simp [cnt]
  | k + 1 => by have := cnt_bd p day k; simp only [cnt]; split <;> omega
/-! ### a plan as far as it goes -/
section
variable {F : Work} {l : List T3} {men : Int} {h i : Nat} {p : T3}
end
/-! ### which heaps can be clamped -/
/-! ### how many sods plans clamp -/
def Whole (p : T3) : Prop := 0 ≤ p.at 0 ∧ 0 ≤ p.at 1 ∧ 0 ≤ p.at 2
instance (p : T3) : Decidable (Whole p) := by unfold Whole; infer_instance
def sodsTo (F : Work) (l : List T3) : Nat → Int
  | 0 => 0
  | k + 1 => sodsTo F l k + (if Whole (l.getD k default) then (F.heaps.getD k default).sods else 0)
def sodsR (F : Work) (l : List T3) : Int := sodsTo F l l.length
end Foot4


namespace Go.Proofs.Ytpndeonmmcaikaa.FootW
open Go.G Foot4
set_option maxRecDepth 1000000
attribute [local irreducible] G.ParO G.Fin
end Go.Proofs.Ytpndeonmmcaikaa.FootW


namespace Foot4
open Go Go.G
/-- As many steps are done, day by day. -/
theorem wet_same {F : Work} {heap n : Nat} {p q : T3} (hadv : ∀ d k : Nat, d < n → k ≤ 3 → (∀ j, j < k → 0 ≤ p.at j ∧ p.at j ≤ d) → ((adv p d k : Nat) : Int) = Done q d) :
    wetF selW F heap p n = worstTo F heap q n ∧ wetF selD F heap p n = bestTo F heap q n := by
  have key : ∀ (sel : Int → Int → Int) (x : Nat → Int) , (x 0 = sel (F.heaps.getD heap default).lo (F.heaps.getD heap default).hi) →
      (∀ d, x (d + 1) = if Done q d < 3 then step (x d) (sel (F.rain.getD d default).lo (F.rain.getD d default).hi) (F.dr.at (Done q d).toNat) else x d) →
      ∀ m, m ≤ n → (wetS sel F heap p m).1 = x m ∧ (wetS sel F heap p m).2 ≤ 3 ∧ (∀ j, j < (wetS sel F heap p m).2 → 0 ≤ p.at j ∧ p.at j ≤ (m : Int) - 1) := by
    intro sel x h0 hs m
    induction m with
    | zero =>
      intro _
      exact ⟨h0.symm, Nat.zero_le _, fun j hj => absurd hj (Nat.not_lt_zero _)⟩
    | succ m ih =>
      intro hm
      obtain ⟨i1, i2, i3⟩ := ih (by omega)
      have ha := hadv m (wetS sel F heap p m).2 (by omega) i2 (fun j hj => by have := i3 j hj; omega)
      have hd : ∀ f k, (∀ j, j < k → 0 ≤ p.at j ∧ p.at j ≤ (m : Int)) → ∀ j, j < advF p m f k → 0 ≤ p.at j ∧ p.at j ≤ (m : Int) := by
        intro f
        induction f with
        | zero => intro k h j hj; exact h j hj
        | succ f ihf =>
          intro k h j hj
          simp only [advF] at hj
          split at hj
          · rename_i hc
            exact ihf (k + 1) (fun j hj => by
              by_cases e : j = k
              · subst e; exact hc
              · exact h j (by omega)) j hj
          · exact h j hj
      have hdone : ∀ j, j < adv p m (wetS sel F heap p m).2 → 0 ≤ p.at j ∧ p.at j ≤ (m : Int) := hd _ _ (fun j hj => by have := i3 j hj; omega)
      have hle := adv_le (p := p) (d := (m : Int)) i2
      simp only [wetS, hs, ← ha]
      by_cases h3 : adv p m (wetS sel F heap p m).2 = 3
      · rw [if_pos h3, if_neg (by omega)]
        refine ⟨i1, Nat.le_refl 3, fun j hj => ?_⟩
        have := hdone j (by rw [h3]; exact hj)
        omega
      · rw [if_neg h3, if_pos (by omega), i1]
        refine ⟨by simp, hle, fun j hj => ?_⟩
        have := hdone j hj
        omega
  exact ⟨(key selW (worstTo F heap q) rfl (fun d => rfl) n (Nat.le_refl n)).1, (key selD (bestTo F heap q) rfl (fun d => rfl) n (Nat.le_refl n)).1⟩
theorem Done_eq {q : T3} {d : Int} : Done q d = (if 0 ≤ q.a ∧ q.a ≤ d then 1 else 0) + (if 0 ≤ q.b ∧ q.b ≤ d then 1 else 0) + (if 0 ≤ q.c ∧ q.c ≤ d then 1 else 0) := by
  simp [Done, doneTo, T3.at]
theorem adv_eq {p : T3} {d : Int} {k : Nat} (hk : k ≤ 3) (h : ∀ j, j < k → 0 ≤ p.at j ∧ p.at j ≤ d) : adv p d k = adv p d 0 := by
  induction k with
  | zero => rfl
  | succ k ih =>
    rw [← ih (by omega) (fun j hj => h j (by omega))]
    exact (adv_go ⟨by omega, h k (by omega)⟩).symm
theorem adv_0 {p : T3} {d : Int} : adv p d 0 = if 0 ≤ p.a ∧ p.a ≤ d then (if 0 ≤ p.b ∧ p.b ≤ d then (if 0 ≤ p.c ∧ p.c ≤ d then 3 else 2) else 1) else 0 := by
  simp [adv, advF, T3.at]
theorem adv_done {A B C : Prop} [Decidable A] [Decidable B] [Decidable C] (h1 : B → A) (h2 : C → B) : ((if A then if B then if C then 3 else 2 else 1 else 0 : Nat) : Int) = (if A then 1 else 0) + (if B then 1 else 0) + (if C then 1 else 0) := by
  by_cases a : A <;> by_cases b : B <;> by_cases c : C <;> simp_all
theorem ord1 {p : T3} : Ordered p 1 ↔ p.b < 0 ∨ (0 ≤ p.a ∧ p.a < p.b) := by simp [Ordered, T3.at]
theorem ord2 {p : T3} : Ordered p 2 ↔ p.c < 0 ∨ (0 ≤ p.b ∧ p.b < p.c) := by simp [Ordered, T3.at]
theorem plan_wet {F : Work} {heap n m : Nat} {p : T3} (h : IsPlan m p) : wetF selW F heap p n = worstTo F heap p n ∧ wetF selD F heap p n = bestTo F heap p n := by
  refine wet_same fun d k _ hk hj => ?_
  rw [adv_eq hk hj, adv_0, Done_eq]
  have h1 := ord1.1 h.2.2.1
  have h2 := ord2.1 h.2.2.2
  exact adv_done (by omega) (by omega)
theorem can_ok {F : Work} {heap m : Nat} {p : T3} (h : IsPlan m p) (k : Nat) : (canF selW F heap p k ↔ okStep F worstTo heap p k) ∧ (canF selD F heap p k ↔ okStep F bestTo heap p k) := by
  obtain ⟨h1, h2⟩ := plan_wet (F := F) (heap := heap) (n := (p.at k).toNat) h
  unfold canF okStep
  rw [h1, h2]
  exact ⟨Iff.rfl, Iff.rfl⟩
/-! ### the driest truth is no wetter -/
/-! ### what is wrong with plans -/
theorem withTo_at {B : List Int} {p : T3} {d : Int} (hB : B.length = 8) (hd : 0 ≤ d ∧ d ≤ 7) (hp : ∀ k, k < 3 → p.at k ≤ 7) : ∀ k, k ≤ 3 → (withTo B p k).getD d.toNat 0 = B.getD d.toNat 0 + cnt p d k
  | 0, _ => by simp [withTo, cnt]
  | k + 1, hk => by
    have ih := withTo_at hB hd hp k (by omega)
    have hl := withTo_len B p k
    have h7 := hp k (by omega)
    simp only [withTo, cnt]
    by_cases h0 : 0 ≤ p.at k
    · rw [if_pos h0]
      by_cases e : p.at k = d
      · rw [if_pos e, e]
        simp only [List.getD_eq_getElem?_getD]
        rw [List.getElem?_set_self (by omega)]
        simp only [List.getD_eq_getElem?_getD] at ih
        simp only [Option.getD_some]
        rw [ih]; omega
      · rw [if_neg e]
        simp only [List.getD_eq_getElem?_getD]
        rw [List.getElem?_set_ne (by omega)]
        simp only [List.getD_eq_getElem?_getD] at ih
        rw [ih]; omega
    · rw [if_neg h0, if_neg (by omega), ih]; omega
end Foot4


namespace Foot4
open Go Go.G
@[reducible] def sampleF (men : Int) : Work := ⟨[⟨0, 2⟩, ⟨1, 3⟩, ⟨0, 0⟩, ⟨0, 4⟩, ⟨0, 1⟩, ⟨0, 2⟩], men, ⟨12, 8, 4⟩, ⟨2, 3, 4⟩, [⟨8, 11, 100⟩, ⟨10, 10, 60⟩, ⟨30, 31, 40⟩]⟩
theorem smp_best : bestP (sampleF 2) = (160, [⟨0, 3, 5⟩, ⟨0, 3, 5⟩, ⟨-1, -1, -1⟩], 0) := by decide +kernel
end Foot4


namespace Go.Proofs.Ytpndeonmmcaikaa.FootW
open Go.G Foot4
set_option maxRecDepth 1000000
attribute [local irreducible] G.ParO G.Fin
end Go.Proofs.Ytpndeonmmcaikaa.FootW


namespace Foot4
open Go Go.G
def T3.put (t : T3) (k : Nat) (x : Int) : T3 := if k = 0 then ⟨x, t.b, t.c⟩ else if k = 1 then ⟨t.a, x, t.c⟩ else ⟨t.a, t.b, x⟩
@[reducible] def encI (x : Int) : List Value := [i64 x]
@[reducible] def encU (x : Int) : List Value := [.int .u16 x]
def U16s (by_ : List Int) : Prop := ∀ x ∈ by_, 0 ≤ x ∧ x ≤ 65535
/-- A truth: how much it rains, how wet heaps are at first. -/
structure Tru where
  rain : List Int
  first : List Int
@[reducible] def valT (t : Tru) (ra fa : Option Addr) (rc fc : Nat) : Value := .agg #[.slice ra t.rain.length rc, .slice fa t.first.length fc]
/-- A truth that fits. -/
structure GoodT (F : Work) (t : Tru) : Prop where
  rl : t.rain.length = F.rain.length
  fl : t.first.length = F.heaps.length
  rain : ∀ k, k < F.rain.length → (F.rain.getD k default).lo ≤ t.rain.getD k 0 ∧ t.rain.getD k 0 ≤ (F.rain.getD k default).hi
  first : ∀ k, k < F.heaps.length → (F.heaps.getD k default).lo ≤ t.first.getD k 0 ∧ t.first.getD k 0 ≤ (F.heaps.getD k default).hi
/-- How wet a heap is, and how many steps are done, in a truth. -/
def wS (F : Work) (t : Tru) (heap : Nat) (p : T3) : Nat → Int × Nat
  | 0 => (t.first.getD heap 0, 0)
  | d + 1 =>
    let s := wS F t heap p d
    let k := if s.2 < 3 ∧ p.at s.2 = d then s.2 + 1 else s.2
    (if k < 3 then step s.1 (t.rain.getD d 0) (F.dr.at k) else s.1, k)
def wetT (F : Work) (t : Tru) (heap : Nat) (p : T3) (d : Nat) : Int := (wS F t heap p d).1
def keepsB (F : Work) (t : Tru) (heap : Nat) (p : T3) (i : Nat) : Prop := p.at i < 0 ∨ wetT F t heap p (p.at i).toNat ≤ F.lim.at i
instance (F : Work) (t : Tru) (heap : Nat) (p : T3) (i : Nat) : Decidable (keepsB F t heap p i) := by unfold keepsB; infer_instance
def keepsT (F : Work) (t : Tru) (heap : Nat) (p : T3) : Prop := ∀ i, i < 3 → keepsB F t heap p i
instance (F : Work) (t : Tru) (heap : Nat) (p : T3) : Decidable (keepsT F t heap p) := by unfold keepsT; infer_instance
theorem encI_len (x : Int) : (encI x).length = 1 := rfl
end Foot4
namespace Foot4
open Go Go.G
section
variable {F : Work} {t : Tru} {heap : Nat} {p : T3} {k w : Nat} {n : Int}
end
end Foot4


namespace Go.Proofs.Ytpndeonmmcaikaa.FootW
open Go.G Foot4
set_option maxRecDepth 1000000
attribute [local irreducible] G.ParO G.Fin
theorem tmod_nat {a b : Nat} : ((a : Int)).tmod (b : Int) = ((a % b : Nat) : Int) := by
  rw [Int.tmod_eq_emod_of_nonneg (by omega)]; rfl
theorem u16_at {bys : List Int} (hu : U16s bys) (i : Nat) : 0 ≤ bys.getD i 0 ∧ bys.getD i 0 ≤ 65535 := by
  by_cases hl : i < bys.length
  · have hm : bys.getD i 0 ∈ bys := by simp [List.getD_eq_getElem?_getD, hl]
    exact hu _ hm
  · simp [List.getD_eq_getElem?_getD, List.getElem?_eq_none (by omega : bys.length ≤ i)]
end Go.Proofs.Ytpndeonmmcaikaa.FootW


namespace Go.Proofs.Ytpndeonmmcaikaa.FootW
open Go.G Foot4
set_option maxRecDepth 1000000
attribute [local irreducible] G.ParO G.Fin
end Go.Proofs.Ytpndeonmmcaikaa.FootW


namespace Go.Proofs.Ytpndeonmmcaikaa.FootW
open Go.G Foot4
set_option maxRecDepth 1000000
attribute [local irreducible] G.ParO G.Fin
end Go.Proofs.Ytpndeonmmcaikaa.FootW


namespace Foot4
open Go Go.G
/-! ### what the program answers, where all is right -/
theorem canP_at {F : Work} (hg : GoodF F) {heap : Nat} {p : T3} (hh : heap < F.heaps.length) (hp : IsPlan F.rain.length p) : canP F heap p = (keptP F heap p, 0) := by
  rw [canP_ok hg (by simp [hp]; omega)]
  simp
theorem none_plan (n : Nat) (hn : 1 ≤ n) : IsPlan n noneT := by
  refine ⟨fun k hk => ?_, .inr (.inl rfl), ord1.2 (.inl (by decide)), ord2.2 (.inl (by decide))⟩
  obtain rfl | rfl | rfl : k = 0 ∨ k = 1 ∨ k = 2 := by omega
  all_goals (show -1 ≤ (-1 : Int) ∧ (-1 : Int) ≤ n - 1; omega)
theorem kept_2 {F : Work} {heap : Nat} {p : T3} : keptP F heap p = 2 ↔ keptF selW F heap p := by
  unfold keptP
  by_cases h : keptF selW F heap p
  · simp [h]
  · by_cases h' : keptF selD F heap p <;> simp [h, h']
end Foot4


namespace Go.Proofs.Ytpndeonmmcaikaa.FootW
open Go.G Foot4
set_option maxRecDepth 1000000
attribute [local irreducible] G.ParO G.Fin
variable (F : Work) (ro ho : Option Addr) (rc hc : Nat)
theorem ECan_v (hg : GoodF F) (heap : Nat) (p : T3) (hp : IsPlan F.rain.length p) (hh : heap < F.heaps.length) {k : Int} (hk : keptP F heap p = k) : FnV Try.prog 13 [valF F ro rc ho hc, i64 heap, .agg #[i64 p.a, i64 p.b, i64 p.c]] [rowD ro 2 encS F.rain, rowD ho 3 encH F.heaps] (.tuple #[i64 k, i64 0]) := by
  have h := CanP_v F ro ho rc hc heap p.a p.b p.c (by have := hg.1; omega) (by have := hg.2.2.1; omega)
  rw [show (⟨p.a, p.b, p.c⟩ : T3) = p from rfl, canP_at hg hh hp, hk] at h; exact h
end Go.Proofs.Ytpndeonmmcaikaa.FootW


namespace Foot4
open Go Go.G
theorem bit_at (x k : Nat) : (x >>> k) &&& 1 = if x.testBit k then 1 else 0 := by
  rw [Nat.and_one_is_mod, Nat.shiftRight_eq_div_pow, Nat.testBit_eq_decide_div_mod_eq]
  rcases Nat.mod_two_eq_zero_or_one (x / 2 ^ k) with h | h <;> simp [h]
theorem clampB_bit (q : Nat → Bool) (k : Nat) : ∀ n, (clampB q n).testBit k = (decide (k < n) && q k)
  | 0 => by simp [clampB]
  | n + 1 => by
    have ih := clampB_bit q k n
    simp only [clampB]
    rw [Nat.testBit_or, ih]
    by_cases e : n = k
    · subst e
      by_cases h : q n = true
      · simp [h]
      · simp [h]
    · by_cases h : q n = true
      · simp only [h, if_true, Nat.testBit_two_pow, e, decide_false, Bool.or_false]
        by_cases hk : k < n
        · simp [hk, show k < n + 1 from by omega]
        · simp [hk, show ¬ k < n + 1 from by omega]
      · simp only [h]
        by_cases hk : k < n
        · simp [hk, show k < n + 1 from by omega]
        · simp [hk, show ¬ k < n + 1 from by omega]
theorem clampB_at {q : Nat → Bool} {n k : Nat} {b : Bool} (h : k < n) (hq : q k = b) : (clampB q n >>> k) &&& 1 = if b then 1 else 0 := by
  rw [bit_at, clampB_bit, decide_eq_true h, Bool.true_and, hq]
theorem whole_in {n : Nat} {p : T3} (hp : IsPlan n p) (hw : 0 ≤ p.a ∧ 0 ≤ p.b ∧ 0 ≤ p.c) : p ∈ whole n := by
  have h1 := ord1.1 hp.2.2.1
  have h2 := ord2.1 hp.2.2.2
  have h3 : -1 ≤ p.c ∧ p.c ≤ (n : Int) - 1 := hp.1 2 (by omega)
  obtain ⟨a, b, c⟩ := p
  dsimp only at *
  have := whole_at (n := n) (a := a.toNat) (b := b.toNat) (c := c.toNat) (by omega) (by omega) (by omega)
  rw [show ((a.toNat : Nat) : Int) = a from by omega, show ((b.toNat : Nat) : Int) = b from by omega, show ((c.toNat : Nat) : Int) = c from by omega] at this
  exact List.mem_of_getElem? this
theorem whole_plan' {n : Nat} {p : T3} (h : p ∈ whole n) : IsPlan n p ∧ (0 ≤ p.a ∧ 0 ≤ p.b ∧ 0 ≤ p.c) := by
  obtain ⟨a, b, c, rfl, h1, h2, h3⟩ := whole_mem h
  refine ⟨⟨fun k hk => ?_, .inr (.inl rfl), ord1.2 (.inr ⟨by show (0 : Int) ≤ a; omega, by show (a : Int) < b; omega⟩), ord2.2 (.inr ⟨by show (0 : Int) ≤ b; omega, by show (b : Int) < c; omega⟩)⟩, by show (0 : Int) ≤ a; omega, by show (0 : Int) ≤ b; omega, by show (0 : Int) ≤ c; omega⟩
  have := whole_days h k hk
  omega
theorem sure_of {sel : Int → Int → Int} {F : Work} {heap : Nat} {p : T3} (hp : IsPlan F.rain.length p) (hw : 0 ≤ p.a ∧ 0 ≤ p.b ∧ 0 ≤ p.c) (hk : keptF sel F heap p) : p ∈ sureF sel F heap :=
  List.mem_filter.2 ⟨whole_in hp hw, by simp [keptB, hk]⟩
theorem sureQ_of {sel : Int → Int → Int} {F : Work} {heap : Nat} {p : T3} (h : p ∈ sureF sel F heap) : sureQ sel F heap = true := by
  have := List.length_pos_of_mem h
  simp [sureQ]; omega
def lex (p q : T3) : Prop := p.a < q.a ∨ p.a = q.a ∧ (p.b < q.b ∨ p.b = q.b ∧ p.c < q.c)
theorem whole_sorted (n : Nat) : (whole n).Pairwise lex := by
  have hcs : ∀ a b : Nat, (cs3 n a b).Pairwise lex := by
    intro a b
    unfold cs3
    rw [List.pairwise_map]
    refine List.Pairwise.imp ?_ (List.pairwise_lt_range' 1)
    intro c d h
    exact .inr ⟨rfl, .inr ⟨rfl, by show (c : Int) < d; omega⟩⟩
  have hbs : ∀ a : Nat, (bs3 n a).Pairwise lex := by
    intro a
    unfold bs3
    rw [List.pairwise_flatMap]
    refine ⟨fun b _ => hcs a b, List.Pairwise.imp ?_ (List.pairwise_lt_range' 1)⟩
    intro b b' h x hx y hy
    unfold cs3 at hx hy
    obtain ⟨c, _, rfl⟩ := List.mem_map.1 hx
    obtain ⟨c', _, rfl⟩ := List.mem_map.1 hy
    exact .inr ⟨rfl, .inl (by show (b : Int) < b'; omega)⟩
  unfold whole
  rw [List.pairwise_flatMap]
  refine ⟨fun a _ => hbs a, List.pairwise_lt_range.imp ?_⟩
  intro a a' h x hx y hy
  unfold bs3 at hx hy
  obtain ⟨b, _, hx⟩ := List.mem_flatMap.1 hx
  obtain ⟨b', _, hy⟩ := List.mem_flatMap.1 hy
  unfold cs3 at hx hy
  obtain ⟨c, _, rfl⟩ := List.mem_map.1 hx
  obtain ⟨c', _, rfl⟩ := List.mem_map.1 hy
  exact .inl (by show (a : Int) < a'; omega)
end Foot4


namespace Go.Proofs.Ytpndeonmmcaikaa.FootW
open Go.G Foot4
set_option maxRecDepth 1000000
attribute [local irreducible] G.ParO G.Fin
variable (F : Work) (ro ho : Option Addr) (rc hc : Nat)
theorem EClamp_v (hg : GoodF F) : FnV Try.prog 11 [valF F ro rc ho hc] [rowD ro 2 encS F.rain, rowD ho 3 encH F.heaps] (.tuple #[i64 ((clampB (sureQ selW F) F.heaps.length : Nat) : Int), i64 ((clampB (sureQ selD F) F.heaps.length : Nat) : Int), i64 0]) := by
  have h := ClampP_v F ro ho rc hc (by have := hg.1; omega) (by have := hg.2.2.1; omega)
  rw [clampP_ok hg] at h; exact h
omit F ro ho rc hc in
theorem bit1 {q : Nat → Bool} {n k : Nat} (h : k < n) (hq : q k = true) : Value.int .i64 (((clampB q n >>> k) &&& 1 : Nat) : Int) = i64 1 := by rw [clampB_at h hq]; rfl
omit F ro ho rc hc in
theorem clamp_sm {q : Nat → Bool} {n : Nat} (h : n ≤ 3) : clampB q n < 2 ^ 62 := Nat.lt_of_lt_of_le (clampB_sm q h) (by decide)
omit F ro ho rc hc in
theorem clamp_sh {q : Nat → Bool} {n k : Nat} (h : n ≤ 3) : clampB q n >>> k < 2 ^ 62 := Nat.lt_of_le_of_lt (Nat.shiftRight_le _ _) (clamp_sm h)
end Go.Proofs.Ytpndeonmmcaikaa.FootW


namespace Foot4
open Go Go.G
end Foot4


namespace Go.Proofs.Ytpndeonmmcaikaa.FootW
open Go.G Foot4
set_option maxRecDepth 1000000
attribute [local irreducible] G.ParO G.Fin
variable (F : Work) (ro ho : Option Addr) (rc hc : Nat)
end Go.Proofs.Ytpndeonmmcaikaa.FootW


namespace Foot4
open Go Go.G
@[reducible] def encB (x : Int) : List Value := [.int .i8 x]
def pick (rl : Nat) (bys : List Int) (h i : Nat) : Int := if 3 * h + i < bys.length then ((bys.getD (3 * h + i) 0).tmod (rl + 1) + rl + 1).tmod (rl + 1) - 1 else -1
/-! ### the first one -/
/-! ### a plan as far as it goes -/
/-! ### how many there are on each day -/
end Foot4


namespace Go.Proofs.Ytpndeonmmcaikaa.FootW
open Go.G Foot4
set_option maxRecDepth 1000000
attribute [local irreducible] G.ParO G.Fin
variable (F : Work) (ro ho : Option Addr) (rc hc : Nat)
end Go.Proofs.Ytpndeonmmcaikaa.FootW

