/- Part 6 of 6 of what the proofs of this seat stand on: a small logic for walks, what the functions come to, and the walks themselves. No condition of its own. -/
import Derived.Test.YtpfgiednfjfdmaaDoorQ5
import Derived.Test.YtpfgiednfjfdmaaDoorQ2
set_option linter.unusedVariables false
set_option linter.unusedSimpArgs false
set_option linter.unusedSectionVars false
namespace Go.Proofs.YtpfgiednfjfdmaaDoor
open Go.G Debt10
set_option maxRecDepth 1000000
attribute [local irreducible] G.ParO G.Fin
theorem tmod_natE {a b : Nat} : Value.int .i64 ((a : Int).tmod (b : Int)) = i64 ((a % b : Nat) : Int) := congrArg (Value.int .i64) tmod_nat
theorem boxI_get {c : List Int} {j : Nat} (h : j < c.length) : (c.flatMap encI)[j * 1]? = some (i64 (c.getD j default)) := flat_get0 encI_len h (show 0 < 1 by decide)
theorem boxI_set {c : List Int} {j : Nat} {x : Int} (h : j < c.length) : splice (c.flatMap encI) (j * 1) [i64 x] = (c.set j x).flatMap encI := flat_set0 (j := 0) (v := i64 x) (y := x) encI_len h (by decide) rfl
theorem boxI_ble {c : List Int} {j : Nat} (h : j < c.length) : Nat.ble (j * 1 + 1) (c.flatMap encI).length = true := by
  refine Nat.ble_eq_true_of_le ?_
  rw [flat_len encI_len]; omega
theorem Imp.boxOwn2 {α : Type} {enc : α → List Value} {sz : Nat} {T : TypeId} {xs : List α} {W : World} {n : Nat} {Df : List Deferred} {L : Tm} {M M' : List Res} {R : List Fact} {X : Act → World → Prop} (b m : Nat) [hd : HasOwn (.slice (some ⟨b, 0, none⟩) m m) M T sz enc xs M'] (hm : m = xs.length) (h : Imp W n Df L (bx b T (xs.flatMap enc) :: M') R X) : Imp W n Df L M R X := by
  subst hm; exact Imp.boxOwn (hd := hd) h
set_option maxHeartbeats 4000000 in
theorem draws_s (bys : List Int) (ba : Option Addr) (bc : Nat) : FnS Tryd.prog 67 [.slice ba bys.length bc] [] [] (fun e M' R' => ∃ ab bb, e = .returned (.func (.func 81) #[] #[pt ab 0, pt bb 0]) ∧ M' = [bx ab 3 [i64 ((0 : Nat) : Int)]] ∧ R' = [boxF bb 40 [.slice ba bys.length bc]]) := by
  refine FnS.intro0 Tryd.call67 Tryd.func67 rfl Tryd.ntmps67 rfl ?_
  intro W M Rf
  refine r_seq ?_
  refine r_region ?_
  refine o_box1 rfl rfl rfl rfl rfl rfl (fun b1 => ?_)
  refine o_q _ rfl rfl rfl (v_assign rfl rfl) ?_
  refine o_nil ?_
  repeat (first | with_reducible refine r_then ?_ | with_reducible refine r_in_normal ?_ | with_reducible refine r_sc_normal ?_)
  refine r_seq ?_
  refine r_region ?_
  refine o_alloc rfl inf3 rfl rfl rfl rfl rfl (fun b3 => ?_)
  refine o_st rfl inf3 rfl rfl rfl rfl rfl rfl rfl rfl ?_
  refine o_nil ?_
  repeat (first | with_reducible refine r_then ?_ | with_reducible refine r_in_normal ?_ | with_reducible refine r_sc_normal ?_)
  refine r_seq ?_
  refine Imp.sealB b1 ?_
  refine r_region ?_
  refine o_q _ rfl rfl rfl (v_makeFunc rfl rfl rfl) ?_
  refine o_q _ rfl rfl rfl (v_assign rfl rfl) ?_
  refine o_nil ?_
  repeat (first | with_reducible refine r_then ?_ | with_reducible refine r_in_normal ?_ | with_reducible refine r_sc_normal ?_)
  refine r_ret ?_
  repeat (first | with_reducible refine r_then_ret ?_ | with_reducible refine r_in_ret ?_ | with_reducible refine r_sc_ret ?_)
  refine Imp.box_to b3 [i64 ((0 : Nat) : Int)] rfl ?_
  exact r_rete [bx b3 3 [i64 ((0 : Nat) : Int)]] [boxF b1 40 [.slice ba bys.length bc]] (Rd.tmp rfl rfl) ⟨b3, b1, rfl, rfl, rfl⟩ SelMC.sel SubRC.sub
theorem o_draws {W : World} {n : Nat} {Df : List Deferred} {L : Tm} {M : List Res} {R : List Fact} {Q : Exit → Act → World → Prop} {o : Oper} {ops : Array Oper} {rest : List Oper} {xs : List Operand} {ts : Array TypeId} {d : Nat} (bys : List Int) (ba : Option Addr) (bc : Nat)
    (ho : o.op = .call { callee := .value (.func 67), args := xs.toArray, argTypes := ts }) (hx : evs L xs = some [.slice ba bys.length bc]) (hg : o.guard = none) (hdst : o.dst = some d) (hd : Nat.blt d n = true)
    (hret : ∀ ab bb, Imp W n Df ((d, .func (.func 81) #[] #[pt ab 0, pt bb 0]) :: L) (bx ab 3 [i64 ((0 : Nat) : Int)] :: M) (boxF bb 40 [.slice ba bys.length bc] :: R) (wpList Tryd.prog ops Q rest)) : Imp W n Df L M R (wpList Tryd.prog ops Q (o :: rest)) := by
  refine o_call (draws_s bys ba bc) ho [] [] rfl hx (by simp) hg (by simp [okD, hdst, hd]) SelM.refl SubR.nil ?_ ?_ ?_
  · rintro v M' R' ⟨ab, bb, he, rfl, rfl⟩
    cases he
    rw [hdst]
    exact hret ab bb
  · rintro c M' R' ⟨ab, bb, he, _⟩; cases he
  · rintro M' R' ⟨ab, bb, he, _⟩; cases he
set_option maxHeartbeats 4000000 in
theorem draw1_c (bys : List Int) (ba : Option Addr) (bc : Nat) (hu : U16l bys) (hbl : bys.length ≤ 9223372036854775807) (ab bb k : Nat) (s : Debt10.Span) (hk : k ≤ 1000) (hs : s.lo ≤ s.hi) (h0 : -1000 ≤ s.lo) (h1 : s.hi ≤ 1000) : FnC Tryd.prog 81 [.agg #[i64 s.lo, i64 s.hi], pt ab 0, pt bb 0] (bx ab 3 [i64 k]) [boxF bb 40 [.slice ba bys.length bc], rowD ba 1 encH bys] (i64 (drawP bys (k + 1) s)) (bx ab 3 [i64 ((k + 1 : Nat) : Int)]) := by
  refine FnC.intro Tryd.call81 Tryd.func81 rfl Tryd.ntmps81 rfl ?_
  intro W M Rf
  refine r_seq ?_
  refine r_region ?_
  refine o_boxA rfl rfl rfl rfl rfl (fun b3 => ?_)
  refine o_q _ rfl rfl rfl (v_assign rfl rfl) ?_
  refine o_nil ?_
  repeat (first | with_reducible refine r_then ?_ | with_reducible refine r_in_normal ?_ | with_reducible refine r_sc_normal ?_)
  refine r_seq ?_
  refine Imp.box_to ab [i64 k] rfl ?_
  refine r_region ?_
  first | refine o_q _ rfl rfl rfl (v_ld1 rfl Tryd.underlying3 rfl rfl rfl) ?_ | refine o_q _ rfl rfl rfl (v_lf1 rfl Tryd.underlying3 rfl rfl rfl) ?_ | refine o_q _ rfl rfl rfl (v_loadE1 rfl Tryd.underlying3 rfl rfl (by omega) rfl rfl) ?_
  refine o_q _ rfl rfl rfl (v_add rfl rfl rfl (by omega)) ?_
  refine o_st rfl inf3 rfl rfl rfl rfl rfl rfl rfl rfl ?_
  refine o_nil ?_
  repeat (first | with_reducible refine r_then ?_ | with_reducible refine r_in_normal ?_ | with_reducible refine r_sc_normal ?_)
  refine r_seq ?_
  refine r_seq ?_
  refine r_region ?_
  first | refine o_q _ rfl rfl rfl (v_ld1 rfl Tryd.underlying40 rfl rfl rfl) ?_ | refine o_q _ rfl rfl rfl (v_lf1 rfl Tryd.underlying40 rfl rfl rfl) ?_ | refine o_q _ rfl rfl rfl (v_loadE1 rfl Tryd.underlying40 rfl rfl (by omega) rfl rfl) ?_
  refine o_q _ rfl rfl rfl (v_len rfl rfl Tryd.underlying40 rfl) ?_
  refine o_q _ rfl rfl rfl (v_eql rfl rfl rfl) ?_
  refine o_nil ?_
  repeat (first | with_reducible refine r_then ?_ | with_reducible refine r_in_normal ?_ | with_reducible refine r_sc_normal ?_)
  first | refine r_condd rfl (fun hc9 => ?_) (fun hc9 => ?_) | refine r_cond rfl (fun hc9 => ?_) (fun hc9 => ?_)
  ·
    first
    | (exfalso; revert hc9; decide)
    | (exfalso; omega)
    | skip
      refine r_seq ?_
      refine Imp.box_to ab [i64 ((k + 1 : Nat) : Int)] rfl ?_
      refine r_region ?_
      first | refine o_q _ rfl rfl rfl (v_fieldAddr rfl Tryd.underlying29 inf3 rfl rfl rfl rfl) ?_ | refine o_q _ rfl rfl rfl (v_fieldAddrE rfl Tryd.underlying29 inf3 rfl rfl rfl rfl) ?_
      first | refine o_q _ rfl rfl rfl (v_ld1 rfl Tryd.underlying3 rfl rfl rfl) ?_ | refine o_q _ rfl rfl rfl (v_lf1 rfl Tryd.underlying3 rfl rfl rfl) ?_ | refine o_q _ rfl rfl rfl (v_loadE1 rfl Tryd.underlying3 rfl rfl (by omega) rfl rfl) ?_
      refine o_q _ rfl rfl rfl (v_assign rfl rfl) ?_
      refine o_nil ?_
      repeat (first | with_reducible refine r_then ?_ | with_reducible refine r_in_normal ?_ | with_reducible refine r_sc_normal ?_)
      refine r_ret ?_
      repeat (first | with_reducible refine r_then_ret ?_ | with_reducible refine r_in_ret ?_ | with_reducible refine r_sc_ret ?_)
      first
      | exact r_rete [bx ab 3 [i64 ((k + 1 : Nat) : Int)]] [] (Rd.tmp rfl rfl) ⟨congrArg Ending.returned (congrArg (Value.int .i64) (drawP_0 (by assumption)).symm), rfl, rfl⟩ SelMC.sel SubRC.sub
      | exact r_rete [bx ab 3 [i64 ((k + 1 : Nat) : Int)]] [] (Rd.tmp rfl rfl) ⟨congrArg Ending.returned (congrArg (Value.int .i64) (drawP_1 (by assumption)).symm), rfl, rfl⟩ SelMC.sel SubRC.sub
  ·
    first
    | (exfalso; revert hc9; decide)
    | (exfalso; omega)
    | skip
      refine r_skip ?_
      repeat (first | with_reducible refine r_then ?_ | with_reducible refine r_in_normal ?_ | with_reducible refine r_sc_normal ?_)
      refine r_seq ?_
      have hpos : 0 < bys.length := by omega
      have hlt : (k + 1) % bys.length < bys.length := Nat.mod_lt _ hpos
      have hat := u16_at hu ((k + 1) % bys.length)
      refine Imp.box_to ab [i64 ((k + 1 : Nat) : Int)] rfl ?_
      refine r_region_q mixed (by kernel_rfl) ?_
      first | refine q_q _ rfl rfl rfl (v_fieldAddr rfl Tryd.underlying29 inf3 rfl rfl rfl rfl) ?_ | refine q_q _ rfl rfl rfl (v_fieldAddrE rfl Tryd.underlying29 inf3 rfl rfl rfl rfl) ?_
      first | refine q_q _ rfl rfl rfl (v_ld1 rfl Tryd.underlying3 rfl rfl rfl) ?_ | refine q_q _ rfl rfl rfl (v_lf1 rfl Tryd.underlying3 rfl rfl rfl) ?_ | refine q_q _ rfl rfl rfl (v_loadE1 rfl Tryd.underlying3 rfl rfl (by omega) rfl rfl) ?_
      first | refine q_q _ rfl rfl rfl (v_ld1 rfl Tryd.underlying40 rfl rfl rfl) ?_ | refine q_q _ rfl rfl rfl (v_lf1 rfl Tryd.underlying40 rfl rfl rfl) ?_ | refine q_q _ rfl rfl rfl (v_loadE1 rfl Tryd.underlying40 rfl rfl (by omega) rfl rfl) ?_
      first | refine q_q _ rfl rfl rfl (v_ld1 rfl Tryd.underlying3 rfl rfl rfl) ?_ | refine q_q _ rfl rfl rfl (v_lf1 rfl Tryd.underlying3 rfl rfl rfl) ?_ | refine q_q _ rfl rfl rfl (v_loadE1 rfl Tryd.underlying3 rfl rfl (by omega) rfl rfl) ?_
      first | refine q_q _ rfl rfl rfl (v_ld1 rfl Tryd.underlying40 rfl rfl rfl) ?_ | refine q_q _ rfl rfl rfl (v_lf1 rfl Tryd.underlying40 rfl rfl rfl) ?_ | refine q_q _ rfl rfl rfl (v_loadE1 rfl Tryd.underlying40 rfl rfl (by omega) rfl rfl) ?_
      refine q_q _ rfl rfl rfl (v_len rfl rfl Tryd.underlying40 rfl) ?_
      refine q_q _ rfl rfl rfl (v_cast (v := i64 (((k + 1) % bys.length : Nat) : Int)) (v_rem rfl rfl rfl (by omega)) (tmod_natE (a := k + 1) (b := bys.length))) ?_
      first | refine q_q _ rfl rfl rfl (v_indexAddrSn rfl Tryd.underlying40 inf56 rfl rfl rfl (by omega) rfl) ?_ | refine q_q _ rfl rfl rfl (v_indexAddrS rfl Tryd.underlying40 inf56 rfl rfl rfl (by omega) (by omega) rfl) ?_
      refine q_q _ rfl rfl rfl (v_loadE1 (v := .int .u16 (bys.getD ((k + 1) % bys.length) 0)) rfl Tryd.underlying56 rfl rfl hlt rfl rfl) ?_
      refine q_q _ rfl rfl rfl (v_conv rfl Tryd.underlying56 Tryd.underlying3 rfl (IntWalk.i64_in _ (by omega))) ?_
      first | refine q_q _ rfl rfl rfl (v_ld1 rfl Tryd.underlying3 rfl rfl rfl) ?_ | refine q_q _ rfl rfl rfl (v_lf1 rfl Tryd.underlying3 rfl rfl rfl) ?_ | refine q_q _ rfl rfl rfl (v_loadE1 rfl Tryd.underlying3 rfl rfl (by omega) rfl rfl) ?_
      refine q_q _ rfl rfl rfl (v_mul rfl rfl rfl (by omega)) ?_
      refine q_q _ rfl rfl rfl (v_add rfl rfl rfl (by omega)) ?_
      first | refine q_q _ rfl rfl rfl (v_fieldAddr rfl Tryd.underlying29 inf3 rfl rfl rfl rfl) ?_ | refine q_q _ rfl rfl rfl (v_fieldAddrE rfl Tryd.underlying29 inf3 rfl rfl rfl rfl) ?_
      first | refine q_q _ rfl rfl rfl (v_ld1 rfl Tryd.underlying3 rfl rfl rfl) ?_ | refine q_q _ rfl rfl rfl (v_lf1 rfl Tryd.underlying3 rfl rfl rfl) ?_ | refine q_q _ rfl rfl rfl (v_loadE1 rfl Tryd.underlying3 rfl rfl (by omega) rfl rfl) ?_
      first | refine q_q _ rfl rfl rfl (v_fieldAddr rfl Tryd.underlying29 inf3 rfl rfl rfl rfl) ?_ | refine q_q _ rfl rfl rfl (v_fieldAddrE rfl Tryd.underlying29 inf3 rfl rfl rfl rfl) ?_
      first | refine q_q _ rfl rfl rfl (v_ld1 rfl Tryd.underlying3 rfl rfl rfl) ?_ | refine q_q _ rfl rfl rfl (v_lf1 rfl Tryd.underlying3 rfl rfl rfl) ?_ | refine q_q _ rfl rfl rfl (v_loadE1 rfl Tryd.underlying3 rfl rfl (by omega) rfl rfl) ?_
      refine q_q _ rfl rfl rfl (v_sub rfl rfl rfl (by omega)) ?_
      refine q_q _ rfl rfl rfl (v_add rfl rfl rfl (by omega)) ?_
      refine q_q _ rfl rfl rfl (v_rem rfl rfl rfl (by omega)) ?_
      refine q_q _ rfl rfl rfl (v_add rfl rfl rfl (by have h2 := Int.tmod_nonneg (s.hi - s.lo + 1) (show 0 ≤ (bys.getD ((k + 1) % bys.length) 0) + 61 * ((k + 1 : Nat) : Int) by omega); have h3 := Int.tmod_lt_of_pos ((bys.getD ((k + 1) % bys.length) 0) + 61 * ((k + 1 : Nat) : Int)) (show 0 < s.hi - s.lo + 1 by omega); omega)) ?_
      refine q_q _ rfl rfl rfl (v_assign rfl rfl) ?_
      refine q_nil ?_
      repeat (first | with_reducible refine r_then ?_ | with_reducible refine r_in_normal ?_ | with_reducible refine r_sc_normal ?_)
      refine r_ret ?_
      repeat (first | with_reducible refine r_then_ret ?_ | with_reducible refine r_in_ret ?_ | with_reducible refine r_sc_ret ?_)
      first
      | exact r_rete [bx ab 3 [i64 ((k + 1 : Nat) : Int)]] [] (Rd.tmp rfl rfl) ⟨congrArg Ending.returned (congrArg (Value.int .i64) (drawP_0 (by assumption)).symm), rfl, rfl⟩ SelMC.sel SubRC.sub
      | exact r_rete [bx ab 3 [i64 ((k + 1 : Nat) : Int)]] [] (Rd.tmp rfl rfl) ⟨congrArg Ending.returned (congrArg (Value.int .i64) (drawP_1 (by assumption)).symm), rfl, rfl⟩ SelMC.sel SubRC.sub
variable (D : Debt) (uo po : Option Addr) (uc pc : Nat)
set_option maxHeartbeats 4000000 in
theorem truly_r (hg : GoodD D) (bys : List Int) (ba : Option Addr) (bc : Nat) (hu : U16l bys) (hbl : bys.length ≤ 9223372036854775807) : FnR Tryd.prog 31 [valD D uo po uc pc, .slice ba bys.length bc] [rowD ba 1 encH bys, rowD uo 5 encD D.dues, rowD po 4 encP D.paid] (isTr (trA D bys D.dues.length) (trP D bys D.paid.length)) (facTr (trA D bys D.dues.length) (trP D bys D.paid.length)) := by
  have hp1 := hg.np
  have hp2 := hg.nd
  have hp3 := hg.ny
  refine FnR.intro Tryd.call31 Tryd.func31 rfl Tryd.ntmps31 rfl ?_
  intro W M Rf
  refine r_seq ?_
  refine r_region ?_
  refine o_boxA rfl rfl rfl rfl rfl (fun b2 => ?_)
  refine o_alloc rfl inf43 rfl rfl rfl rfl rfl (fun b4 => ?_)
  refine o_nil ?_
  repeat (first | with_reducible refine r_then ?_ | with_reducible refine r_in_normal ?_ | with_reducible refine r_sc_normal ?_)
  refine r_seq ?_
  refine r_region ?_
  refine o_q _ rfl rfl rfl (v_move rfl rfl) ?_
  refine o_draws bys ba bc rfl rfl rfl rfl rfl (fun ab bb => ?_)
  all_goals
    refine o_q _ rfl rfl rfl (v_assign rfl rfl) ?_
    refine o_nil ?_
    repeat (first | with_reducible refine r_then ?_ | with_reducible refine r_in_normal ?_ | with_reducible refine r_sc_normal ?_)
    refine r_seq ?_
    refine r_seq ?_
    refine r_region ?_
    first | refine o_q _ rfl rfl rfl (v_fieldAddr rfl Tryd.underlying25 inf22 rfl rfl rfl rfl) ?_ | refine o_q _ rfl rfl rfl (v_fieldAddrE rfl Tryd.underlying25 inf22 rfl rfl rfl rfl) ?_
    first | refine o_q _ rfl rfl rfl (v_ld1 rfl Tryd.underlying22 rfl rfl rfl) ?_ | refine o_q _ rfl rfl rfl (v_lf1 rfl Tryd.underlying22 rfl rfl rfl) ?_ | refine o_q _ rfl rfl rfl (v_loadE1 rfl Tryd.underlying22 rfl rfl (by omega) rfl rfl) ?_
    refine o_q _ rfl rfl rfl (v_len rfl rfl Tryd.underlying22 rfl) ?_
    refine o_q _ rfl rfl rfl (v_move rfl rfl) ?_
    refine o_nil ?_
    repeat (first | with_reducible refine r_then ?_ | with_reducible refine r_in_normal ?_ | with_reducible refine r_sc_normal ?_)
    refine r_block ?_
    refine r_loop (ι := Nat × Value) (fun gh => gh.1 ≤ D.dues.length) (fun gh => [(2, pt b2 0), (4, pt b4 0), (5, .func (.func 81) #[] #[pt ab 0, pt bb 0]), (13, .slice uo D.dues.length uc), (14, i64 D.dues.length), (15, i64 gh.1)]) (fun gh => ownL gh.2 3 1 encI (trA D bys gh.1) :: bx b4 43 [gh.2, .slice none 0 0] :: bx ab 3 [i64 ((gh.1 : Nat) : Int)] :: bx b2 25 (cellsD D uo po uc pc) :: M) (fun gh => boxF bb 40 [.slice ba bys.length bc] :: ([rowD ba 1 encH bys, rowD uo 5 encD D.dues, rowD po 4 encP D.paid] ++ Rf)) (fun gh => D.dues.length - gh.1) (0, .slice none 0 0) ?_ ?_ ?_
    ·
      refine Imp.nilL 3 1 encI ?_
      refine Imp.own_to (.slice none 0 0) (trA D bys 0) rfl ?_
      refine Imp.box_to b4 [.slice none 0 0, .slice none 0 0] rfl ?_
      exact r_here (by repeat (first | exact FSub.nil | refine FSub.cons rfl ?_)) SelMC.sel SubRC.sub
    ·
      exact Nat.zero_le _
    ·
      rintro ⟨k, v⟩ hI0
      dsimp only at hI0
      dsimp only
      have hI : k ≤ D.dues.length := hI0
      have hln := trA_len D bys k
      refine r_seq ?_
      refine r_region ?_
      refine o_q _ rfl rfl rfl (v_lss rfl rfl rfl) ?_
      refine o_nil ?_
      repeat (first | with_reducible refine r_then ?_ | with_reducible refine r_in_normal ?_ | with_reducible refine r_sc_normal ?_)
      refine r_seq ?_
      first | refine r_condd rfl (fun hc16 => ?_) (fun hc16 => ?_) | refine r_cond rfl (fun hc16 => ?_) (fun hc16 => ?_)
      ·
        first
        | (exfalso; revert hc16; decide)
        | (exfalso; omega)
        | skip
          refine r_skip ?_
          repeat (first | with_reducible refine r_then ?_ | with_reducible refine r_in_normal ?_ | with_reducible refine r_sc_normal ?_)
          refine r_seq ?_
          refine r_block ?_
          refine r_seq ?_
          refine r_region ?_
          first | refine o_q _ rfl rfl rfl (v_indexAddrSn rfl Tryd.underlying22 inf62 rfl rfl rfl (by omega) rfl) ?_ | refine o_q _ rfl rfl rfl (v_indexAddrS rfl Tryd.underlying22 inf62 rfl rfl rfl (by omega) (by omega) rfl) ?_
          refine o_q _ rfl rfl rfl (v_loadEN (us := encD (D.dues.getD k default)) rfl Tryd.underlying62 rfl inf62 rfl (by omega) rfl rfl rfl) ?_
          refine o_alloc rfl inf62 rfl rfl rfl rfl rfl (fun b7 => ?_)
          refine o_st rfl inf62 rfl rfl rfl rfl rfl rfl rfl rfl ?_
          refine o_nil ?_
          repeat (first | with_reducible refine r_then ?_ | with_reducible refine r_in_normal ?_ | with_reducible refine r_sc_normal ?_)
          refine Imp.box_to b7 (encD (D.dues.getD k default)) rfl ?_
          obtain ⟨_, _, ⟨hs1, hs2, hs3, hs4⟩, _⟩ := hg.dues k (by omega)
          refine r_parC1 (bx ab 3 [i64 ((k : Nat) : Int)]) 7 mixed (by kernel_rfl) (by rfl) ?_
          first | refine p_q _ rfl rfl rfl (fun _ _ => v_fieldAddr rfl Tryd.underlying43 inf41 rfl rfl rfl rfl) ?_ | refine p_q _ rfl rfl rfl (fun _ _ => v_fieldAddrE rfl Tryd.underlying43 inf41 rfl rfl rfl rfl) ?_
          first | refine p_q _ rfl rfl rfl (fun _ _ => v_ld1 rfl Tryd.underlying41 rfl rfl rfl) ?_ | refine p_q _ rfl rfl rfl (fun _ _ => v_lf1 rfl Tryd.underlying41 rfl rfl rfl) ?_ | refine p_q _ rfl rfl rfl (fun _ _ => v_loadE1 rfl Tryd.underlying41 rfl rfl (by omega) rfl rfl) ?_
          refine p_q _ rfl rfl rfl (fun _ _ => v_move rfl rfl) ?_
          first | refine p_q _ rfl rfl rfl (fun _ _ => v_fieldAddr rfl Tryd.underlying62 inf29 rfl rfl rfl rfl) ?_ | refine p_q _ rfl rfl rfl (fun _ _ => v_fieldAddrE rfl Tryd.underlying62 inf29 rfl rfl rfl rfl) ?_
          first | refine p_q _ rfl rfl rfl (fun _ _ => v_ldW rfl Tryd.underlying29 rfl inf29 rfl rfl) ?_ | refine p_q _ rfl rfl rfl (fun _ _ => v_lfW rfl Tryd.underlying29 rfl inf29 rfl rfl) ?_ | refine p_q _ rfl rfl rfl (fun _ _ => v_lfN rfl Tryd.underlying29 rfl inf29 rfl rfl rfl) ?_ | refine p_q _ rfl rfl rfl (fun _ _ => v_ldN rfl Tryd.underlying29 rfl inf29 rfl rfl rfl) ?_ | refine p_q _ rfl rfl rfl (fun _ _ => v_loadEN rfl Tryd.underlying29 rfl inf29 rfl (by omega) rfl rfl rfl) ?_
          refine p_fnc (draw1_c bys ba bc hu hbl ab bb (k) (D.dues.getD k default).sods (by omega) (by omega) (by omega) (by omega)) rfl [] [pt ab 0, pt bb 0] rfl rfl rfl rfl rfl rfl SubRC.sub ?_
          refine p_lit rfl Tryd.underlying41 inf3 rfl rfl rfl rfl rfl rfl rfl rfl (by repeat (first | exact trivial | refine ⟨rfl, ?_⟩)) (by rfl) ?_
          refine p_nil2 (by simp only [List.nil_append, List.cons_append]; rfl) rfl ?_
          refine f_q rfl ?_
          refine f_q rfl ?_
          refine f_q rfl ?_
          refine f_q rfl ?_
          refine f_q rfl ?_
          refine f_qc1 rfl ?_
          refine f_lit rfl (fun b25 => ?_)
          refine f_nil ?_
          refine o_app1F ((drawP bys (k + 1) (D.dues.getD k default).sods)) rfl Tryd.underlying41 inf3 rfl (by rfl) (by rfl) rfl rfl rfl rfl rfl (by rfl) (by rfl) (by rfl) (by first | omega | (constructor <;> first | omega | decide)) (fun v26 => ?_)
          refine Imp.own_is v26 (fun hs => ?_)
          obtain ⟨oan, cpn, rfl⟩ := hs
          first | refine o_q _ rfl rfl rfl (v_fieldAddr rfl Tryd.underlying43 inf41 rfl rfl rfl rfl) ?_ | refine o_q _ rfl rfl rfl (v_fieldAddrE rfl Tryd.underlying43 inf41 rfl rfl rfl rfl) ?_
          refine o_st rfl inf41 rfl rfl rfl rfl rfl rfl rfl rfl ?_
          refine o_nil ?_
          repeat (first | with_reducible refine r_then ?_ | with_reducible refine r_in_normal ?_ | with_reducible refine r_sc_normal ?_)
          refine r_region ?_
          refine o_q _ rfl rfl rfl (v_add rfl rfl rfl (by omega)) ?_
          refine o_q _ rfl rfl rfl (v_move rfl rfl) ?_
          refine o_nil ?_
          repeat (first | with_reducible refine r_then ?_ | with_reducible refine r_in_normal ?_ | with_reducible refine r_sc_normal ?_)
          first
          | exact r_next ((k + 1, .slice oan (trA D bys k ++ [(drawP bys (k + 1) (D.dues.getD k default).sods)]).length cpn)) (by refine Imp.own_to (.slice oan (trA D bys k ++ [(drawP bys (k + 1) (D.dues.getD k default).sods)]).length cpn) (trA D bys (k + 1)) (trA_s D bys k) ?_; refine Imp.box_to b4 [.slice oan (trA D bys k ++ [(drawP bys (k + 1) (D.dues.getD k default).sods)]).length cpn, .slice none 0 0] rfl ?_; refine Imp.box_to ab [i64 ((k + 1 : Nat) : Int)] rfl ?_; exact r_here (by repeat (first | exact FSub.nil | refine FSub.cons rfl ?_)) SelMC.sel SubRC.sub) (by first | omega | (show _ + 1 ≤ _; omega)) (by first | omega | (show _ - (_ + 1) < _ - _; omega))
      ·
        first
        | (exfalso; revert hc16; decide)
        | (exfalso; omega)
        | skip
          refine r_exit ?_
          repeat (first | with_reducible refine r_then_exit ?_ | with_reducible refine r_sc_exit ?_ | with_reducible refine r_in_here ?_ | (with_reducible refine r_in_past (by decide) ?_) | with_reducible refine r_then ?_ | with_reducible refine r_in_normal ?_ | with_reducible refine r_sc_normal ?_)
          refine r_seq ?_
          refine r_seq ?_
          obtain rfl : k = D.dues.length := by omega
          refine Imp.settleS v encI_len (fun ao ac hv => ?_)
          subst hv
          refine r_region ?_
          first | refine o_q _ rfl rfl rfl (v_fieldAddr rfl Tryd.underlying25 inf23 rfl rfl rfl rfl) ?_ | refine o_q _ rfl rfl rfl (v_fieldAddrE rfl Tryd.underlying25 inf23 rfl rfl rfl rfl) ?_
          first | refine o_q _ rfl rfl rfl (v_ld1 rfl Tryd.underlying23 rfl rfl rfl) ?_ | refine o_q _ rfl rfl rfl (v_lf1 rfl Tryd.underlying23 rfl rfl rfl) ?_ | refine o_q _ rfl rfl rfl (v_loadE1 rfl Tryd.underlying23 rfl rfl (by omega) rfl rfl) ?_
          refine o_q _ rfl rfl rfl (v_len rfl rfl Tryd.underlying23 rfl) ?_
          refine o_q _ rfl rfl rfl (v_move rfl rfl) ?_
          refine o_nil ?_
          repeat (first | with_reducible refine r_then ?_ | with_reducible refine r_in_normal ?_ | with_reducible refine r_sc_normal ?_)
          refine r_block ?_
          refine r_loop (ι := Nat × Value) (fun gh => gh.1 ≤ D.paid.length) (fun gh => [(2, pt b2 0), (4, pt b4 0), (5, .func (.func 81) #[] #[pt ab 0, pt bb 0]), (30, .slice po D.paid.length pc), (31, i64 D.paid.length), (32, i64 gh.1)]) (fun gh => ownL gh.2 3 1 encI (trP D bys gh.1) :: bx b4 43 [.slice ao (trA D bys D.dues.length).length ac, gh.2] :: bx ab 3 [i64 ((D.dues.length + gh.1 : Nat) : Int)] :: bx b2 25 (cellsD D uo po uc pc) :: M) (fun gh => rowD ao 1 encI (trA D bys D.dues.length) :: boxF bb 40 [.slice ba bys.length bc] :: ([rowD ba 1 encH bys, rowD uo 5 encD D.dues, rowD po 4 encP D.paid] ++ Rf)) (fun gh => D.paid.length - gh.1) (0, .slice none 0 0) ?_ ?_ ?_
          ·
            refine Imp.nilL 3 1 encI ?_
            refine Imp.own_to (.slice none 0 0) (trP D bys 0) rfl ?_
            refine Imp.box_to ab [i64 ((D.dues.length + 0 : Nat) : Int)] rfl ?_
            exact r_here (by repeat (first | exact FSub.nil | refine FSub.cons rfl ?_)) SelMC.sel SubRC.sub
          ·
            exact Nat.zero_le _
          ·
            rintro ⟨k, v⟩ hI1
            dsimp only at hI1
            dsimp only
            have hI : k ≤ D.paid.length := hI1
            have hln := trP_len D bys k
            refine r_seq ?_
            refine r_region ?_
            refine o_q _ rfl rfl rfl (v_lss rfl rfl rfl) ?_
            refine o_nil ?_
            repeat (first | with_reducible refine r_then ?_ | with_reducible refine r_in_normal ?_ | with_reducible refine r_sc_normal ?_)
            refine r_seq ?_
            first | refine r_condd rfl (fun hc33 => ?_) (fun hc33 => ?_) | refine r_cond rfl (fun hc33 => ?_) (fun hc33 => ?_)
            ·
              first
              | (exfalso; revert hc33; decide)
              | (exfalso; omega)
              | skip
                refine r_skip ?_
                repeat (first | with_reducible refine r_then ?_ | with_reducible refine r_in_normal ?_ | with_reducible refine r_sc_normal ?_)
                refine r_seq ?_
                refine r_block ?_
                refine r_seq ?_
                refine r_region ?_
                first | refine o_q _ rfl rfl rfl (v_indexAddrSn rfl Tryd.underlying23 inf54 rfl rfl rfl (by omega) rfl) ?_ | refine o_q _ rfl rfl rfl (v_indexAddrS rfl Tryd.underlying23 inf54 rfl rfl rfl (by omega) (by omega) rfl) ?_
                refine o_q _ rfl rfl rfl (v_loadEN (us := encP (D.paid.getD k default)) rfl Tryd.underlying54 rfl inf54 rfl (by omega) rfl rfl rfl) ?_
                refine o_alloc rfl inf54 rfl rfl rfl rfl rfl (fun b9 => ?_)
                refine o_st rfl inf54 rfl rfl rfl rfl rfl rfl rfl rfl ?_
                refine o_nil ?_
                repeat (first | with_reducible refine r_then ?_ | with_reducible refine r_in_normal ?_ | with_reducible refine r_sc_normal ?_)
                refine Imp.box_to b9 (encP (D.paid.getD k default)) rfl ?_
                obtain ⟨_, _, hs1, hs2, hs3, hs4⟩ := hg.paid k (by omega)
                refine r_parC1 (bx ab 3 [i64 ((D.dues.length + k : Nat) : Int)]) 7 mixed (by kernel_rfl) (by rfl) ?_
                first | refine p_q _ rfl rfl rfl (fun _ _ => v_fieldAddr rfl Tryd.underlying43 inf41 rfl rfl rfl rfl) ?_ | refine p_q _ rfl rfl rfl (fun _ _ => v_fieldAddrE rfl Tryd.underlying43 inf41 rfl rfl rfl rfl) ?_
                first | refine p_q _ rfl rfl rfl (fun _ _ => v_ld1 rfl Tryd.underlying41 rfl rfl rfl) ?_ | refine p_q _ rfl rfl rfl (fun _ _ => v_lf1 rfl Tryd.underlying41 rfl rfl rfl) ?_ | refine p_q _ rfl rfl rfl (fun _ _ => v_loadE1 rfl Tryd.underlying41 rfl rfl (by omega) rfl rfl) ?_
                refine p_q _ rfl rfl rfl (fun _ _ => v_move rfl rfl) ?_
                first | refine p_q _ rfl rfl rfl (fun _ _ => v_fieldAddr rfl Tryd.underlying54 inf29 rfl rfl rfl rfl) ?_ | refine p_q _ rfl rfl rfl (fun _ _ => v_fieldAddrE rfl Tryd.underlying54 inf29 rfl rfl rfl rfl) ?_
                first | refine p_q _ rfl rfl rfl (fun _ _ => v_ldW rfl Tryd.underlying29 rfl inf29 rfl rfl) ?_ | refine p_q _ rfl rfl rfl (fun _ _ => v_lfW rfl Tryd.underlying29 rfl inf29 rfl rfl) ?_ | refine p_q _ rfl rfl rfl (fun _ _ => v_lfN rfl Tryd.underlying29 rfl inf29 rfl rfl rfl) ?_ | refine p_q _ rfl rfl rfl (fun _ _ => v_ldN rfl Tryd.underlying29 rfl inf29 rfl rfl rfl) ?_ | refine p_q _ rfl rfl rfl (fun _ _ => v_loadEN rfl Tryd.underlying29 rfl inf29 rfl (by omega) rfl rfl rfl) ?_
                refine p_fnc (draw1_c bys ba bc hu hbl ab bb (D.dues.length + k) (D.paid.getD k default).sods (by omega) (by omega) (by omega) (by omega)) rfl [] [pt ab 0, pt bb 0] rfl rfl rfl rfl rfl rfl SubRC.sub ?_
                refine p_lit rfl Tryd.underlying41 inf3 rfl rfl rfl rfl rfl rfl rfl rfl (by repeat (first | exact trivial | refine ⟨rfl, ?_⟩)) (by rfl) ?_
                refine p_nil2 (by simp only [List.nil_append, List.cons_append]; rfl) rfl ?_
                refine f_q rfl ?_
                refine f_q rfl ?_
                refine f_q rfl ?_
                refine f_q rfl ?_
                refine f_q rfl ?_
                refine f_qc1 rfl ?_
                refine f_lit rfl (fun b42 => ?_)
                refine f_nil ?_
                refine o_app1F ((drawP bys (D.dues.length + k + 1) (D.paid.getD k default).sods)) rfl Tryd.underlying41 inf3 rfl (by rfl) (by rfl) rfl rfl rfl rfl rfl (by rfl) (by rfl) (by rfl) (by first | omega | (constructor <;> first | omega | decide)) (fun v43 => ?_)
                refine Imp.own_is v43 (fun hs => ?_)
                obtain ⟨oan, cpn, rfl⟩ := hs
                first | refine o_q _ rfl rfl rfl (v_fieldAddr rfl Tryd.underlying43 inf41 rfl rfl rfl rfl) ?_ | refine o_q _ rfl rfl rfl (v_fieldAddrE rfl Tryd.underlying43 inf41 rfl rfl rfl rfl) ?_
                refine o_st rfl inf41 rfl rfl rfl rfl rfl rfl rfl rfl ?_
                refine o_nil ?_
                repeat (first | with_reducible refine r_then ?_ | with_reducible refine r_in_normal ?_ | with_reducible refine r_sc_normal ?_)
                refine r_region ?_
                refine o_q _ rfl rfl rfl (v_add rfl rfl rfl (by omega)) ?_
                refine o_q _ rfl rfl rfl (v_move rfl rfl) ?_
                refine o_nil ?_
                repeat (first | with_reducible refine r_then ?_ | with_reducible refine r_in_normal ?_ | with_reducible refine r_sc_normal ?_)
                first
                | exact r_next ((k + 1, .slice oan (trP D bys k ++ [(drawP bys (D.dues.length + k + 1) (D.paid.getD k default).sods)]).length cpn)) (by refine Imp.own_to (.slice oan (trP D bys k ++ [(drawP bys (D.dues.length + k + 1) (D.paid.getD k default).sods)]).length cpn) (trP D bys (k + 1)) (trP_s D bys k) ?_; refine Imp.box_to b4 [.slice ao (trA D bys D.dues.length).length ac, .slice oan (trP D bys k ++ [(drawP bys (D.dues.length + k + 1) (D.paid.getD k default).sods)]).length cpn] rfl ?_; refine Imp.box_to ab [i64 ((D.dues.length + (k + 1) : Nat) : Int)] rfl ?_; exact r_here (by repeat (first | exact FSub.nil | refine FSub.cons rfl ?_)) SelMC.sel SubRC.sub) (by first | omega | (show _ + 1 ≤ _; omega)) (by first | omega | (show _ - (_ + 1) < _ - _; omega))
            ·
              first
              | (exfalso; revert hc33; decide)
              | (exfalso; omega)
              | skip
                refine r_exit ?_
                repeat (first | with_reducible refine r_then_exit ?_ | with_reducible refine r_sc_exit ?_ | with_reducible refine r_in_here ?_ | (with_reducible refine r_in_past (by decide) ?_) | with_reducible refine r_then ?_ | with_reducible refine r_in_normal ?_ | with_reducible refine r_sc_normal ?_)
                refine r_seq ?_
                obtain rfl : k = D.paid.length := by omega
                refine Imp.settleS v encI_len (fun qo qc hv => ?_)
                subst hv
                refine r_region ?_
                first | refine o_q _ rfl rfl rfl (v_ldW rfl Tryd.underlying43 rfl inf43 rfl rfl) ?_ | refine o_q _ rfl rfl rfl (v_lfW rfl Tryd.underlying43 rfl inf43 rfl rfl) ?_ | refine o_q _ rfl rfl rfl (v_lfN rfl Tryd.underlying43 rfl inf43 rfl rfl rfl) ?_ | refine o_q _ rfl rfl rfl (v_ldN rfl Tryd.underlying43 rfl inf43 rfl rfl rfl) ?_ | refine o_q _ rfl rfl rfl (v_loadEN rfl Tryd.underlying43 rfl inf43 rfl (by omega) rfl rfl rfl) ?_
                refine o_st rfl inf43 rfl rfl rfl rfl rfl rfl rfl rfl ?_
                refine o_nil ?_
                repeat (first | with_reducible refine r_then ?_ | with_reducible refine r_in_normal ?_ | with_reducible refine r_sc_normal ?_)
                refine r_ret ?_
                repeat (first | with_reducible refine r_then_ret ?_ | with_reducible refine r_in_ret ?_ | with_reducible refine r_sc_ret ?_)
                refine Imp.box_to b4 [.slice ao (trA D bys D.dues.length).length ac, .slice qo (trP D bys D.paid.length).length qc] rfl ?_
                exact r_retr (Rd.one rfl (RdI.cellW Tryd.underlying43 rfl inf43 rfl rfl)) ⟨ao, ac, qo, qc, rfl⟩ SelMC.sel (by show SubR _ ([rowD ao 1 encI (trA D bys D.dues.length), rowD qo 1 encI (trP D bys D.paid.length)] ++ _); exact SubRC.sub)
end Go.Proofs.YtpfgiednfjfdmaaDoor


namespace Go.Proofs.YtpfgiednfjfdmaaDoor
open Go.G Debt10
set_option maxRecDepth 1000000
attribute [local irreducible] G.ParO G.Fin
theorem openK_y {f : Nat → Int} {k : Nat} (h : 0 < f k) : openK f (k + 1) = openK f k ||| 2 ^ k := if_pos h
theorem openK_n {f : Nat → Int} {k : Nat} (h : ¬ 0 < f k) : openK f (k + 1) = openK f k := if_neg h
theorem pos_00 (D : Debt) (who : Int) : posN D who 0 0 = 0 := rfl
theorem add_y {A p x q : Int} (h : q = p + x) : A + p + x = A + q := by omega
theorem add_n {A p q : Int} (h : q = p) : A + p = A + q := by rw [h]
theorem box_next {c c' : List Int} {k : Nat} {x : Int} (hk : k < c.length) (h : c.set k x = c') : splice (c.flatMap encI) (k * 1) [i64 x] = c'.flatMap encI := by rw [boxI_set hk, h]
theorem i64c {a b : Int} (h : a = b) : i64 a = i64 b := congrArg (Value.int .i64) h
theorem i64n {a b : Nat} (h : a = b) : i64 (a : Int) = i64 (b : Int) := by rw [h]
variable (D : Debt) (uo po : Option Addr) (uc pc : Nat)
set_option maxHeartbeats 4000000 in
theorem day32_v (am pa : List Int) (ao qo : Option Addr) (ac qc : Nat) (hg : GoodD D) (h : TruD D am pa) (who : Int) (d : Nat) (hd : d ≤ 30) : FnV Tryd.prog 32 [valD D uo po uc pc, vTr ao am.length ac qo pa.length qc, i64 who, i64 (d : Int)] [rowD uo 5 encD D.dues, rowD po 4 encP D.paid, rowD ao 1 encI am, rowD qo 1 encI pa] (.tuple #[i64 (total (accT D am pa who (d + 1)).1), i64 (accT D am pa who (d + 1)).2, i64 (setT ((accT D am pa who (d + 1)).1.filter isOpen) : Nat)]) := by
  have hp1 := hg.np
  have hp2 := hg.nd
  have hp3 := hg.ny
  have hna := h.na
  have hnp := h.np
  refine FnV.intro Tryd.call32 Tryd.func32 rfl Tryd.ntmps32 rfl ?_
  intro W M Rf
  refine r_seq ?_
  refine r_region ?_
  refine o_boxA rfl rfl rfl rfl rfl (fun b4 => ?_)
  refine o_boxA rfl rfl rfl rfl rfl (fun b5 => ?_)
  refine o_q _ rfl rfl rfl (v_assign rfl rfl) ?_
  refine o_q _ rfl rfl rfl (v_assign rfl rfl) ?_
  refine o_q _ rfl rfl rfl (v_assign rfl rfl) ?_
  refine o_nil ?_
  repeat (first | with_reducible refine r_then ?_ | with_reducible refine r_in_normal ?_ | with_reducible refine r_sc_normal ?_)
  refine r_seq ?_
  refine r_region ?_
  first | refine o_q _ rfl rfl rfl (v_fieldAddr rfl Tryd.underlying25 inf22 rfl rfl rfl rfl) ?_ | refine o_q _ rfl rfl rfl (v_fieldAddrE rfl Tryd.underlying25 inf22 rfl rfl rfl rfl) ?_
  first | refine o_q _ rfl rfl rfl (v_ld1 rfl Tryd.underlying22 rfl rfl rfl) ?_ | refine o_q _ rfl rfl rfl (v_lf1 rfl Tryd.underlying22 rfl rfl rfl) ?_ | refine o_q _ rfl rfl rfl (v_loadE1 rfl Tryd.underlying22 rfl rfl (by omega) rfl rfl) ?_
  refine o_q _ rfl rfl rfl (v_len rfl rfl Tryd.underlying22 rfl) ?_
  refine o_make (enc := encI) (sz := 1) (0 : Int) rfl Tryd.underlying41 inf3 rfl rfl rfl rfl rfl rfl rfl rfl rfl (Nat.le_refl _) ⟨by omega, by decide⟩ (fun b28 => ?_)
  refine o_q _ rfl rfl rfl (v_assign rfl rfl) ?_
  refine o_nil ?_
  repeat (first | with_reducible refine r_then ?_ | with_reducible refine r_in_normal ?_ | with_reducible refine r_sc_normal ?_)
  refine r_seq ?_
  refine r_seq ?_
  refine Imp.own_to (.slice (some ⟨b28, 0, none⟩) D.dues.length D.dues.length) (arrL [] D.dues.length) (arr_nil _) ?_
  refine Imp.boxOwn2 b28 D.dues.length (arr_len _ _).symm ?_
  refine r_region ?_
  refine o_q _ rfl rfl rfl (v_move rfl rfl) ?_
  refine o_q _ rfl rfl rfl (v_add rfl rfl rfl (by omega)) ?_
  refine o_q _ rfl rfl rfl (v_move rfl rfl) ?_
  refine o_nil ?_
  repeat (first | with_reducible refine r_then ?_ | with_reducible refine r_in_normal ?_ | with_reducible refine r_sc_normal ?_)
  refine r_block ?_
  refine r_loop (ι := Nat) (fun dd => dd ≤ d + 1) (fun dd => [(2, i64 who), (3, i64 (d : Int)), (4, pt b4 0), (5, pt b5 0), (8, i64 0), (9, i64 (accT D am pa who dd).2), (10, i64 0), (11, .slice (some ⟨b28, 0, none⟩) D.dues.length D.dues.length), (30, i64 ((d : Int) + 1)), (31, i64 (dd : Int))]) (fun dd => bx b28 3 ((arrL (accT D am pa who dd).1 D.dues.length).flatMap encI) :: bx b5 43 [.slice ao am.length ac, .slice qo pa.length qc] :: bx b4 25 (cellsD D uo po uc pc) :: M) (fun dd => [rowD uo 5 encD D.dues, rowD po 4 encP D.paid, rowD ao 1 encI am, rowD qo 1 encI pa] ++ Rf) (fun dd => d + 1 - dd) 0 ?_ ?_ ?_
  ·
    refine Imp.box_to b28 ((arrL (accT D am pa who 0).1 D.dues.length).flatMap encI) rfl ?_
    refine Imp.box_to b5 [.slice ao am.length ac, .slice qo pa.length qc] rfl ?_
    exact r_here (by (repeat (first | exact FSub.nil | refine FSub.cons rfl ?_)); first | done | fail) SelMC.sel SubRC.sub
  ·
    omega
  ·
    rintro dd hI0
    refine r_seq ?_
    refine r_region ?_
    refine o_q _ rfl rfl rfl (v_lss rfl rfl rfl) ?_
    refine o_nil ?_
    repeat (first | with_reducible refine r_then ?_ | with_reducible refine r_in_normal ?_ | with_reducible refine r_sc_normal ?_)
    refine r_seq ?_
    first | refine r_condd rfl (fun hc32 => ?_) (fun hc32 => ?_) | refine r_cond rfl (fun hc32 => ?_) (fun hc32 => ?_)
    ·
      first
      | (exfalso; revert hc32; decide)
      | (exfalso; omega)
      | skip
        refine r_skip ?_
        repeat (first | with_reducible refine r_then ?_ | with_reducible refine r_in_normal ?_ | with_reducible refine r_sc_normal ?_)
        refine r_seq ?_
        refine r_block ?_
        refine r_seq ?_
        refine r_region ?_
        refine o_q _ rfl rfl rfl (v_move rfl rfl) ?_
        refine o_q _ rfl rfl rfl (v_assign rfl rfl) ?_
        refine o_nil ?_
        repeat (first | with_reducible refine r_then ?_ | with_reducible refine r_in_normal ?_ | with_reducible refine r_sc_normal ?_)
        refine r_seq ?_
        refine r_seq ?_
        refine r_region ?_
        first | refine o_q _ rfl rfl rfl (v_fieldAddr rfl Tryd.underlying25 inf22 rfl rfl rfl rfl) ?_ | refine o_q _ rfl rfl rfl (v_fieldAddrE rfl Tryd.underlying25 inf22 rfl rfl rfl rfl) ?_
        first | refine o_q _ rfl rfl rfl (v_ld1 rfl Tryd.underlying22 rfl rfl rfl) ?_ | refine o_q _ rfl rfl rfl (v_lf1 rfl Tryd.underlying22 rfl rfl rfl) ?_ | refine o_q _ rfl rfl rfl (v_loadE1 rfl Tryd.underlying22 rfl rfl (by omega) rfl rfl) ?_
        refine o_q _ rfl rfl rfl (v_len rfl rfl Tryd.underlying22 rfl) ?_
        refine o_q _ rfl rfl rfl (v_move rfl rfl) ?_
        refine o_nil ?_
        repeat (first | with_reducible refine r_then ?_ | with_reducible refine r_in_normal ?_ | with_reducible refine r_sc_normal ?_)
        refine r_block ?_
        refine r_loop (ι := Nat) (fun k => k ≤ D.dues.length) (fun k => [(2, i64 who), (3, i64 (d : Int)), (4, pt b4 0), (5, pt b5 0), (8, i64 0), (9, i64 (accT D am pa who dd).2), (10, i64 0), (11, .slice (some ⟨b28, 0, none⟩) D.dues.length D.dues.length), (30, i64 ((d : Int) + 1)), (31, i64 (dd : Int)), (12, i64 (dd : Int)), (35, .slice uo D.dues.length uc), (36, i64 D.dues.length), (37, i64 (k : Int))]) (fun k => bx b28 3 ((arrL ((accT D am pa who dd).1 ++ newTo D (amF am) who dd k) D.dues.length).flatMap encI) :: bx b5 43 [.slice ao am.length ac, .slice qo pa.length qc] :: bx b4 25 (cellsD D uo po uc pc) :: M) (fun k => [rowD uo 5 encD D.dues, rowD po 4 encP D.paid, rowD ao 1 encI am, rowD qo 1 encI pa] ++ Rf) (fun k => D.dues.length - k) 0 ?_ ?_ ?_
        ·
          refine Imp.box_to b28 ((arrL ((accT D am pa who dd).1 ++ newTo D (amF am) who dd 0) D.dues.length).flatMap encI) (by rw [show newTo D (amF am) who dd 0 = [] from rfl, List.append_nil]) ?_
          exact r_here (by (repeat (first | exact FSub.nil | refine FSub.cons rfl ?_)); first | done | fail) SelMC.sel SubRC.sub
        ·
          omega
        ·
          rintro k hI1
          refine r_seq ?_
          refine r_region ?_
          refine o_q _ rfl rfl rfl (v_lss rfl rfl rfl) ?_
          refine o_nil ?_
          repeat (first | with_reducible refine r_then ?_ | with_reducible refine r_in_normal ?_ | with_reducible refine r_sc_normal ?_)
          refine r_seq ?_
          first | refine r_condd rfl (fun hc38 => ?_) (fun hc38 => ?_) | refine r_cond rfl (fun hc38 => ?_) (fun hc38 => ?_)
          ·
            first
            | (exfalso; revert hc38; decide)
            | (exfalso; omega)
            | skip
              refine r_skip ?_
              repeat (first | with_reducible refine r_then ?_ | with_reducible refine r_in_normal ?_ | with_reducible refine r_sc_normal ?_)
              refine r_seq ?_
              refine r_block ?_
              refine r_seq ?_
              refine r_region ?_
              refine o_q _ rfl rfl rfl (v_move rfl rfl) ?_
              first | refine o_q _ rfl rfl rfl (v_indexAddrSn rfl Tryd.underlying22 inf62 rfl rfl rfl (by omega) rfl) ?_ | refine o_q _ rfl rfl rfl (v_indexAddrS rfl Tryd.underlying22 inf62 rfl rfl rfl (by omega) (by omega) rfl) ?_
              refine o_q _ rfl rfl rfl (v_loadEN (us := encD (D.dues.getD k default)) rfl Tryd.underlying62 rfl inf62 rfl (by omega) rfl rfl rfl) ?_
              refine o_alloc rfl inf62 rfl rfl rfl rfl rfl (fun b14 => ?_)
              refine o_q _ rfl rfl rfl (v_assign rfl rfl) ?_
              refine o_st rfl inf62 rfl rfl rfl rfl rfl rfl rfl rfl ?_
              refine o_nil ?_
              repeat (first | with_reducible refine r_then ?_ | with_reducible refine r_in_normal ?_ | with_reducible refine r_sc_normal ?_)
              refine r_seq ?_
              refine Imp.box_to b14 (encD (D.dues.getD k default)) rfl ?_
              refine r_region ?_
              first | refine o_q _ rfl rfl rfl (v_fieldAddr rfl Tryd.underlying62 inf3 rfl rfl rfl rfl) ?_ | refine o_q _ rfl rfl rfl (v_fieldAddrE rfl Tryd.underlying62 inf3 rfl rfl rfl rfl) ?_
              first | refine o_q _ rfl rfl rfl (v_ld1 rfl Tryd.underlying3 rfl rfl rfl) ?_ | refine o_q _ rfl rfl rfl (v_lf1 rfl Tryd.underlying3 rfl rfl rfl) ?_ | refine o_q _ rfl rfl rfl (v_loadE1 rfl Tryd.underlying3 rfl rfl (by omega) rfl rfl) ?_
              refine o_q _ rfl rfl rfl (v_move rfl rfl) ?_
              first | refine o_q _ rfl rfl rfl (v_true (v_eql rfl rfl rfl) (by omega)) ?_ | refine o_q _ rfl rfl rfl (v_false (v_eql rfl rfl rfl) (by omega)) ?_ | refine o_test rfl rfl rfl (v_eql rfl rfl rfl) (fun h45 => ?_) (fun h45 => ?_)
              all_goals
                refine o_q _ rfl rfl rfl (v_move rfl rfl) ?_
                first | refine o_gn rfl rfl rfl rfl ?_ | refine o_g _ rfl rfl rfl rfl (v_fieldAddr rfl Tryd.underlying62 inf3 rfl rfl rfl rfl) ?_ | refine o_g _ rfl rfl rfl rfl (v_fieldAddrE rfl Tryd.underlying62 inf3 rfl rfl rfl rfl) ?_
                first | refine o_gn rfl rfl rfl rfl ?_ | refine o_g _ rfl rfl rfl rfl (v_ld1 rfl Tryd.underlying3 rfl rfl rfl) ?_ | refine o_g _ rfl rfl rfl rfl (v_lf1 rfl Tryd.underlying3 rfl rfl rfl) ?_ | refine o_g _ rfl rfl rfl rfl (v_loadE1 rfl Tryd.underlying3 rfl rfl (by omega) rfl rfl) ?_
                first | refine o_gn rfl rfl rfl rfl ?_ | refine o_g _ rfl rfl rfl rfl (v_move rfl rfl) ?_
                first | refine o_gn rfl rfl rfl rfl ?_ | refine o_g _ rfl rfl rfl rfl (v_true (v_eql rfl rfl rfl) (by omega)) ?_ | refine o_g _ rfl rfl rfl rfl (v_false (v_eql rfl rfl rfl) (by omega)) ?_ | refine o_gtest rfl rfl rfl rfl (v_eql rfl rfl rfl) (fun h50 => ?_) (fun h50 => ?_)
                all_goals
                  first | refine o_q _ rfl rfl rfl (v_pick_t rfl rfl rfl) ?_ | refine o_q _ rfl rfl rfl (v_pick_f rfl rfl rfl) ?_
                  refine o_nil ?_
                  repeat (first | with_reducible refine r_then ?_ | with_reducible refine r_in_normal ?_ | with_reducible refine r_sc_normal ?_)
                  first | refine r_condd rfl (fun hc51 => ?_) (fun hc51 => ?_) | refine r_cond rfl (fun hc51 => ?_) (fun hc51 => ?_)
                  ·
                    first
                    | (exfalso; revert hc51; decide)
                    | (exfalso; omega)
                    | skip
                      refine r_region ?_
                      refine o_q _ rfl rfl rfl (v_move rfl rfl) ?_
                      refine o_q _ rfl rfl rfl (v_move rfl rfl) ?_
                      first | refine o_q _ rfl rfl rfl (v_fieldAddr rfl Tryd.underlying43 inf41 rfl rfl rfl rfl) ?_ | refine o_q _ rfl rfl rfl (v_fieldAddrE rfl Tryd.underlying43 inf41 rfl rfl rfl rfl) ?_
                      first | refine o_q _ rfl rfl rfl (v_ld1 rfl Tryd.underlying41 rfl rfl rfl) ?_ | refine o_q _ rfl rfl rfl (v_lf1 rfl Tryd.underlying41 rfl rfl rfl) ?_ | refine o_q _ rfl rfl rfl (v_loadE1 rfl Tryd.underlying41 rfl rfl (by omega) rfl rfl) ?_
                      refine o_q _ rfl rfl rfl (v_move rfl rfl) ?_
                      first | refine o_q _ rfl rfl rfl (v_indexAddrSn rfl Tryd.underlying41 inf3 rfl rfl rfl (by omega) rfl) ?_ | refine o_q _ rfl rfl rfl (v_indexAddrS rfl Tryd.underlying41 inf3 rfl rfl rfl (by omega) (by omega) rfl) ?_
                      refine o_q _ rfl rfl rfl (v_loadE1 (v := i64 (am.getD k default)) rfl Tryd.underlying3 rfl rfl (by omega) rfl rfl) ?_
                      refine o_q _ rfl rfl rfl (v_indexAddrB rfl Tryd.underlying41 inf3 rfl rfl (by omega)) ?_
                      refine o_st rfl inf3 rfl rfl rfl rfl rfl rfl rfl (boxI_ble (by rw [arr_len]; omega)) ?_
                      refine o_nil ?_
                      repeat (first | with_reducible refine r_then ?_ | with_reducible refine r_in_normal ?_ | with_reducible refine r_sc_normal ?_)
                      refine r_region ?_
                      refine o_q _ rfl rfl rfl (v_add rfl rfl rfl (by omega)) ?_
                      refine o_q _ rfl rfl rfl (v_move rfl rfl) ?_
                      refine o_nil ?_
                      repeat (first | with_reducible refine r_then ?_ | with_reducible refine r_in_normal ?_ | with_reducible refine r_sc_normal ?_)
                      first
                      | exact r_next (k + 1) (by refine Imp.box_to b28 ((arrL ((accT D am pa who dd).1 ++ newTo D (amF am) who dd (k + 1)) D.dues.length).flatMap encI) (by exact box_next (by rw [arr_len]; omega) (new_arrT hg h who dd (k := k) (by omega) (by omega) (by omega))) ?_; exact r_here (by (repeat (first | exact FSub.nil | refine FSub.cons rfl ?_)); first | done | fail) SelMC.sel SubRC.sub) (by first | omega | (show _ + 1 ≤ _; omega)) (by first | omega | (show _ - (_ + 1) < _ - _; omega))
                      | exact r_next (k + 1) (by refine Imp.box_to b28 ((arrL ((accT D am pa who dd).1 ++ newTo D (amF am) who dd (k + 1)) D.dues.length).flatMap encI) (by rw [newTo_n (D := D) (am := amF am) (who := who) (d := dd) (k := k) (by omega)]) ?_; exact r_here (by (repeat (first | exact FSub.nil | refine FSub.cons rfl ?_)); first | done | fail) SelMC.sel SubRC.sub) (by first | omega | (show _ + 1 ≤ _; omega)) (by first | omega | (show _ - (_ + 1) < _ - _; omega))
                  ·
                    first
                    | (exfalso; revert hc51; decide)
                    | (exfalso; omega)
                    | skip
                      refine r_skip ?_
                      repeat (first | with_reducible refine r_then ?_ | with_reducible refine r_in_normal ?_ | with_reducible refine r_sc_normal ?_)
                      refine r_region ?_
                      refine o_q _ rfl rfl rfl (v_add rfl rfl rfl (by omega)) ?_
                      refine o_q _ rfl rfl rfl (v_move rfl rfl) ?_
                      refine o_nil ?_
                      repeat (first | with_reducible refine r_then ?_ | with_reducible refine r_in_normal ?_ | with_reducible refine r_sc_normal ?_)
                      first
                      | exact r_next (k + 1) (by refine Imp.box_to b28 ((arrL ((accT D am pa who dd).1 ++ newTo D (amF am) who dd (k + 1)) D.dues.length).flatMap encI) (by exact box_next (by rw [arr_len]; omega) (new_arrT hg h who dd (k := k) (by omega) (by omega) (by omega))) ?_; exact r_here (by (repeat (first | exact FSub.nil | refine FSub.cons rfl ?_)); first | done | fail) SelMC.sel SubRC.sub) (by first | omega | (show _ + 1 ≤ _; omega)) (by first | omega | (show _ - (_ + 1) < _ - _; omega))
                      | exact r_next (k + 1) (by refine Imp.box_to b28 ((arrL ((accT D am pa who dd).1 ++ newTo D (amF am) who dd (k + 1)) D.dues.length).flatMap encI) (by rw [newTo_n (D := D) (am := amF am) (who := who) (d := dd) (k := k) (by omega)]) ?_; exact r_here (by (repeat (first | exact FSub.nil | refine FSub.cons rfl ?_)); first | done | fail) SelMC.sel SubRC.sub) (by first | omega | (show _ + 1 ≤ _; omega)) (by first | omega | (show _ - (_ + 1) < _ - _; omega))
          ·
            first
            | (exfalso; revert hc38; decide)
            | (exfalso; omega)
            | skip
              refine r_exit ?_
              repeat (first | with_reducible refine r_then_exit ?_ | with_reducible refine r_sc_exit ?_ | with_reducible refine r_in_here ?_ | (with_reducible refine r_in_past (by decide) ?_) | with_reducible refine r_then ?_ | with_reducible refine r_in_normal ?_ | with_reducible refine r_sc_normal ?_)
              refine r_seq ?_
              refine r_seq ?_
              obtain rfl : k = D.dues.length := by omega
              refine r_region ?_
              first | refine o_q _ rfl rfl rfl (v_fieldAddr rfl Tryd.underlying25 inf23 rfl rfl rfl rfl) ?_ | refine o_q _ rfl rfl rfl (v_fieldAddrE rfl Tryd.underlying25 inf23 rfl rfl rfl rfl) ?_
              first | refine o_q _ rfl rfl rfl (v_ld1 rfl Tryd.underlying23 rfl rfl rfl) ?_ | refine o_q _ rfl rfl rfl (v_lf1 rfl Tryd.underlying23 rfl rfl rfl) ?_ | refine o_q _ rfl rfl rfl (v_loadE1 rfl Tryd.underlying23 rfl rfl (by omega) rfl rfl) ?_
              refine o_q _ rfl rfl rfl (v_len rfl rfl Tryd.underlying23 rfl) ?_
              refine o_q _ rfl rfl rfl (v_move rfl rfl) ?_
              refine o_nil ?_
              repeat (first | with_reducible refine r_then ?_ | with_reducible refine r_in_normal ?_ | with_reducible refine r_sc_normal ?_)
              refine r_block ?_
              refine r_loop (ι := Nat) (fun k => k ≤ D.paid.length) (fun k => [(2, i64 who), (3, i64 (d : Int)), (4, pt b4 0), (5, pt b5 0), (8, i64 0), (9, i64 ((accT D am pa who dd).2 + (paidTo D (amF pa) who dd k))), (10, i64 0), (11, .slice (some ⟨b28, 0, none⟩) D.dues.length D.dues.length), (30, i64 ((d : Int) + 1)), (31, i64 (dd : Int)), (12, i64 (dd : Int)), (62, .slice po D.paid.length pc), (63, i64 D.paid.length), (64, i64 (k : Int))]) (fun k => bx b28 3 ((arrL (lstT D am pa who dd) D.dues.length).flatMap encI) :: bx b5 43 [.slice ao am.length ac, .slice qo pa.length qc] :: bx b4 25 (cellsD D uo po uc pc) :: M) (fun k => [rowD uo 5 encD D.dues, rowD po 4 encP D.paid, rowD ao 1 encI am, rowD qo 1 encI pa] ++ Rf) (fun k => D.paid.length - k) 0 ?_ ?_ ?_
              ·
                refine Imp.box_to b28 ((arrL (lstT D am pa who dd) D.dues.length).flatMap encI) (by rfl) ?_
                exact r_here (by (repeat (first | exact FSub.nil | refine FSub.cons rfl ?_ | refine FSub.cons2 rfl (i64c (Int.add_zero _).symm) ?_)); first | done | fail) SelMC.sel SubRC.sub
              ·
                omega
              ·
                rintro k hI2
                refine r_seq ?_
                refine r_region ?_
                refine o_q _ rfl rfl rfl (v_lss rfl rfl rfl) ?_
                refine o_nil ?_
                repeat (first | with_reducible refine r_then ?_ | with_reducible refine r_in_normal ?_ | with_reducible refine r_sc_normal ?_)
                refine r_seq ?_
                first | refine r_condd rfl (fun hc65 => ?_) (fun hc65 => ?_) | refine r_cond rfl (fun hc65 => ?_) (fun hc65 => ?_)
                ·
                  first
                  | (exfalso; revert hc65; decide)
                  | (exfalso; omega)
                  | skip
                    refine r_skip ?_
                    repeat (first | with_reducible refine r_then ?_ | with_reducible refine r_in_normal ?_ | with_reducible refine r_sc_normal ?_)
                    refine r_seq ?_
                    refine r_block ?_
                    refine r_seq ?_
                    refine r_region ?_
                    refine o_q _ rfl rfl rfl (v_move rfl rfl) ?_
                    first | refine o_q _ rfl rfl rfl (v_indexAddrSn rfl Tryd.underlying23 inf54 rfl rfl rfl (by omega) rfl) ?_ | refine o_q _ rfl rfl rfl (v_indexAddrS rfl Tryd.underlying23 inf54 rfl rfl rfl (by omega) (by omega) rfl) ?_
                    refine o_q _ rfl rfl rfl (v_loadEN (us := encP (D.paid.getD k default)) rfl Tryd.underlying54 rfl inf54 rfl (by omega) rfl rfl rfl) ?_
                    refine o_alloc rfl inf54 rfl rfl rfl rfl rfl (fun b16 => ?_)
                    refine o_q _ rfl rfl rfl (v_assign rfl rfl) ?_
                    refine o_st rfl inf54 rfl rfl rfl rfl rfl rfl rfl rfl ?_
                    refine o_nil ?_
                    repeat (first | with_reducible refine r_then ?_ | with_reducible refine r_in_normal ?_ | with_reducible refine r_sc_normal ?_)
                    refine r_seq ?_
                    refine Imp.box_to b16 (encP (D.paid.getD k default)) rfl ?_
                    refine r_region ?_
                    first | refine o_q _ rfl rfl rfl (v_fieldAddr rfl Tryd.underlying54 inf3 rfl rfl rfl rfl) ?_ | refine o_q _ rfl rfl rfl (v_fieldAddrE rfl Tryd.underlying54 inf3 rfl rfl rfl rfl) ?_
                    first | refine o_q _ rfl rfl rfl (v_ld1 rfl Tryd.underlying3 rfl rfl rfl) ?_ | refine o_q _ rfl rfl rfl (v_lf1 rfl Tryd.underlying3 rfl rfl rfl) ?_ | refine o_q _ rfl rfl rfl (v_loadE1 rfl Tryd.underlying3 rfl rfl (by omega) rfl rfl) ?_
                    refine o_q _ rfl rfl rfl (v_move rfl rfl) ?_
                    first | refine o_q _ rfl rfl rfl (v_true (v_eql rfl rfl rfl) (by omega)) ?_ | refine o_q _ rfl rfl rfl (v_false (v_eql rfl rfl rfl) (by omega)) ?_ | refine o_test rfl rfl rfl (v_eql rfl rfl rfl) (fun h72 => ?_) (fun h72 => ?_)
                    all_goals
                      refine o_q _ rfl rfl rfl (v_move rfl rfl) ?_
                      first | refine o_gn rfl rfl rfl rfl ?_ | refine o_g _ rfl rfl rfl rfl (v_fieldAddr rfl Tryd.underlying54 inf3 rfl rfl rfl rfl) ?_ | refine o_g _ rfl rfl rfl rfl (v_fieldAddrE rfl Tryd.underlying54 inf3 rfl rfl rfl rfl) ?_
                      first | refine o_gn rfl rfl rfl rfl ?_ | refine o_g _ rfl rfl rfl rfl (v_ld1 rfl Tryd.underlying3 rfl rfl rfl) ?_ | refine o_g _ rfl rfl rfl rfl (v_lf1 rfl Tryd.underlying3 rfl rfl rfl) ?_ | refine o_g _ rfl rfl rfl rfl (v_loadE1 rfl Tryd.underlying3 rfl rfl (by omega) rfl rfl) ?_
                      first | refine o_gn rfl rfl rfl rfl ?_ | refine o_g _ rfl rfl rfl rfl (v_move rfl rfl) ?_
                      first | refine o_gn rfl rfl rfl rfl ?_ | refine o_g _ rfl rfl rfl rfl (v_true (v_eql rfl rfl rfl) (by omega)) ?_ | refine o_g _ rfl rfl rfl rfl (v_false (v_eql rfl rfl rfl) (by omega)) ?_ | refine o_gtest rfl rfl rfl rfl (v_eql rfl rfl rfl) (fun h77 => ?_) (fun h77 => ?_)
                      all_goals
                        first | refine o_q _ rfl rfl rfl (v_pick_t rfl rfl rfl) ?_ | refine o_q _ rfl rfl rfl (v_pick_f rfl rfl rfl) ?_
                        refine o_nil ?_
                        repeat (first | with_reducible refine r_then ?_ | with_reducible refine r_in_normal ?_ | with_reducible refine r_sc_normal ?_)
                        first | refine r_condd rfl (fun hc78 => ?_) (fun hc78 => ?_) | refine r_cond rfl (fun hc78 => ?_) (fun hc78 => ?_)
                        ·
                          first
                          | (exfalso; revert hc78; decide)
                          | (exfalso; omega)
                          | skip
                            have hpb := paid_bdT hg h who dd (n := k) (by omega)
                            have hpa := h.bdP hg k (by omega)
                            have hac := accT_fit hg h who dd
                            refine r_region ?_
                            refine o_q _ rfl rfl rfl (v_move rfl rfl) ?_
                            first | refine o_q _ rfl rfl rfl (v_fieldAddr rfl Tryd.underlying43 inf41 rfl rfl rfl rfl) ?_ | refine o_q _ rfl rfl rfl (v_fieldAddrE rfl Tryd.underlying43 inf41 rfl rfl rfl rfl) ?_
                            first | refine o_q _ rfl rfl rfl (v_ld1 rfl Tryd.underlying41 rfl rfl rfl) ?_ | refine o_q _ rfl rfl rfl (v_lf1 rfl Tryd.underlying41 rfl rfl rfl) ?_ | refine o_q _ rfl rfl rfl (v_loadE1 rfl Tryd.underlying41 rfl rfl (by omega) rfl rfl) ?_
                            refine o_q _ rfl rfl rfl (v_move rfl rfl) ?_
                            first | refine o_q _ rfl rfl rfl (v_indexAddrSn rfl Tryd.underlying41 inf3 rfl rfl rfl (by omega) rfl) ?_ | refine o_q _ rfl rfl rfl (v_indexAddrS rfl Tryd.underlying41 inf3 rfl rfl rfl (by omega) (by omega) rfl) ?_
                            refine o_q _ rfl rfl rfl (v_loadE1 (v := i64 (pa.getD k default)) rfl Tryd.underlying3 rfl rfl (by omega) rfl rfl) ?_
                            refine o_q _ rfl rfl rfl (v_add rfl rfl rfl (by omega)) ?_
                            refine o_q _ rfl rfl rfl (v_assign rfl rfl) ?_
                            refine o_nil ?_
                            repeat (first | with_reducible refine r_then ?_ | with_reducible refine r_in_normal ?_ | with_reducible refine r_sc_normal ?_)
                            refine r_region ?_
                            refine o_q _ rfl rfl rfl (v_add rfl rfl rfl (by omega)) ?_
                            refine o_q _ rfl rfl rfl (v_move rfl rfl) ?_
                            refine o_nil ?_
                            repeat (first | with_reducible refine r_then ?_ | with_reducible refine r_in_normal ?_ | with_reducible refine r_sc_normal ?_)
                            first
                            | exact r_next (k + 1) (by exact r_here (by (repeat (first | exact FSub.nil | refine FSub.cons rfl ?_ | refine FSub.cons2 rfl (i64c (add_y (paidTo_y (D := D) (pa := amF pa) (who := who) (d := dd) (k := k) (by omega) (by omega)))) ?_)); first | done | fail) SelMC.sel SubRC.sub) (by first | omega | (show _ + 1 ≤ _; omega)) (by first | omega | (show _ - (_ + 1) < _ - _; omega))
                            | exact r_next (k + 1) (by exact r_here (by (repeat (first | exact FSub.nil | refine FSub.cons rfl ?_ | refine FSub.cons2 rfl (i64c (add_n (paidTo_n (D := D) (pa := amF pa) (who := who) (d := dd) (k := k) (by omega)))) ?_)); first | done | fail) SelMC.sel SubRC.sub) (by first | omega | (show _ + 1 ≤ _; omega)) (by first | omega | (show _ - (_ + 1) < _ - _; omega))
                        ·
                          first
                          | (exfalso; revert hc78; decide)
                          | (exfalso; omega)
                          | skip
                            refine r_skip ?_
                            repeat (first | with_reducible refine r_then ?_ | with_reducible refine r_in_normal ?_ | with_reducible refine r_sc_normal ?_)
                            refine r_region ?_
                            refine o_q _ rfl rfl rfl (v_add rfl rfl rfl (by omega)) ?_
                            refine o_q _ rfl rfl rfl (v_move rfl rfl) ?_
                            refine o_nil ?_
                            repeat (first | with_reducible refine r_then ?_ | with_reducible refine r_in_normal ?_ | with_reducible refine r_sc_normal ?_)
                            first
                            | exact r_next (k + 1) (by exact r_here (by (repeat (first | exact FSub.nil | refine FSub.cons rfl ?_ | refine FSub.cons2 rfl (i64c (add_y (paidTo_y (D := D) (pa := amF pa) (who := who) (d := dd) (k := k) (by omega) (by omega)))) ?_)); first | done | fail) SelMC.sel SubRC.sub) (by first | omega | (show _ + 1 ≤ _; omega)) (by first | omega | (show _ - (_ + 1) < _ - _; omega))
                            | exact r_next (k + 1) (by exact r_here (by (repeat (first | exact FSub.nil | refine FSub.cons rfl ?_ | refine FSub.cons2 rfl (i64c (add_n (paidTo_n (D := D) (pa := amF pa) (who := who) (d := dd) (k := k) (by omega)))) ?_)); first | done | fail) SelMC.sel SubRC.sub) (by first | omega | (show _ + 1 ≤ _; omega)) (by first | omega | (show _ - (_ + 1) < _ - _; omega))
                ·
                  first
                  | (exfalso; revert hc65; decide)
                  | (exfalso; omega)
                  | skip
                    refine r_exit ?_
                    repeat (first | with_reducible refine r_then_exit ?_ | with_reducible refine r_sc_exit ?_ | with_reducible refine r_in_here ?_ | (with_reducible refine r_in_past (by decide) ?_) | with_reducible refine r_then ?_ | with_reducible refine r_in_normal ?_ | with_reducible refine r_sc_normal ?_)
                    refine r_seq ?_
                    refine r_seq ?_
                    obtain rfl : k = D.paid.length := by omega
                    refine r_region ?_
                    refine o_q _ rfl rfl rfl (v_move rfl rfl) ?_
                    refine o_q _ rfl rfl rfl (v_add rfl rfl rfl (by omega)) ?_
                    refine o_q _ rfl rfl rfl (v_move rfl rfl) ?_
                    refine o_nil ?_
                    repeat (first | with_reducible refine r_then ?_ | with_reducible refine r_in_normal ?_ | with_reducible refine r_sc_normal ?_)
                    refine r_block ?_
                    refine r_loop (ι := Nat) (fun e => e ≤ dd + 1) (fun e => [(2, i64 who), (3, i64 (d : Int)), (4, pt b4 0), (5, pt b5 0), (8, i64 0), (9, i64 (stA (lstT D am pa who dd) (bagT D am pa who dd) (posN D who e 0))), (10, i64 0), (11, .slice (some ⟨b28, 0, none⟩) D.dues.length D.dues.length), (30, i64 ((d : Int) + 1)), (31, i64 (dd : Int)), (12, i64 (dd : Int)), (88, i64 ((dd : Int) + 1)), (89, i64 (e : Int))]) (fun e => bx b28 3 ((arrL (stP (lstT D am pa who dd) (bagT D am pa who dd) (posN D who e 0)) D.dues.length).flatMap encI) :: bx b5 43 [.slice ao am.length ac, .slice qo pa.length qc] :: bx b4 25 (cellsD D uo po uc pc) :: M) (fun e => [rowD uo 5 encD D.dues, rowD po 4 encP D.paid, rowD ao 1 encI am, rowD qo 1 encI pa] ++ Rf) (fun e => dd + 1 - e) 0 ?_ ?_ ?_
                    ·
                      rw [pos_00]
                      refine Imp.box_to b28 ((arrL (stP (lstT D am pa who dd) (bagT D am pa who dd) 0) D.dues.length).flatMap encI) (by rfl) ?_
                      exact r_here (by (repeat (first | exact FSub.nil | refine FSub.cons rfl ?_ | refine FSub.cons2 rfl (i64c rfl) ?_)); first | done | fail) SelMC.sel SubRC.sub
                    ·
                      omega
                    ·
                      rintro e hI3
                      refine r_seq ?_
                      refine r_region ?_
                      refine o_q _ rfl rfl rfl (v_lss rfl rfl rfl) ?_
                      refine o_nil ?_
                      repeat (first | with_reducible refine r_then ?_ | with_reducible refine r_in_normal ?_ | with_reducible refine r_sc_normal ?_)
                      refine r_seq ?_
                      first | refine r_condd rfl (fun hc90 => ?_) (fun hc90 => ?_) | refine r_cond rfl (fun hc90 => ?_) (fun hc90 => ?_)
                      ·
                        first
                        | (exfalso; revert hc90; decide)
                        | (exfalso; omega)
                        | skip
                          refine r_skip ?_
                          repeat (first | with_reducible refine r_then ?_ | with_reducible refine r_in_normal ?_ | with_reducible refine r_sc_normal ?_)
                          refine r_seq ?_
                          refine r_block ?_
                          refine r_seq ?_
                          refine r_region ?_
                          refine o_q _ rfl rfl rfl (v_move rfl rfl) ?_
                          refine o_q _ rfl rfl rfl (v_assign rfl rfl) ?_
                          refine o_nil ?_
                          repeat (first | with_reducible refine r_then ?_ | with_reducible refine r_in_normal ?_ | with_reducible refine r_sc_normal ?_)
                          refine r_seq ?_
                          refine r_region ?_
                          first | refine o_q _ rfl rfl rfl (v_fieldAddr rfl Tryd.underlying25 inf22 rfl rfl rfl rfl) ?_ | refine o_q _ rfl rfl rfl (v_fieldAddrE rfl Tryd.underlying25 inf22 rfl rfl rfl rfl) ?_
                          first | refine o_q _ rfl rfl rfl (v_ld1 rfl Tryd.underlying22 rfl rfl rfl) ?_ | refine o_q _ rfl rfl rfl (v_lf1 rfl Tryd.underlying22 rfl rfl rfl) ?_ | refine o_q _ rfl rfl rfl (v_loadE1 rfl Tryd.underlying22 rfl rfl (by omega) rfl rfl) ?_
                          refine o_q _ rfl rfl rfl (v_len rfl rfl Tryd.underlying22 rfl) ?_
                          refine o_q _ rfl rfl rfl (v_move rfl rfl) ?_
                          refine o_nil ?_
                          repeat (first | with_reducible refine r_then ?_ | with_reducible refine r_in_normal ?_ | with_reducible refine r_sc_normal ?_)
                          refine r_block ?_
                          refine r_loop (ι := Nat) (fun i => i ≤ D.dues.length) (fun i => [(2, i64 who), (3, i64 (d : Int)), (4, pt b4 0), (5, pt b5 0), (8, i64 0), (9, i64 (stA (lstT D am pa who dd) (bagT D am pa who dd) (posN D who e i))), (10, i64 0), (11, .slice (some ⟨b28, 0, none⟩) D.dues.length D.dues.length), (30, i64 ((d : Int) + 1)), (31, i64 (dd : Int)), (12, i64 (dd : Int)), (88, i64 ((dd : Int) + 1)), (89, i64 (e : Int)), (17, i64 (e : Int)), (93, .slice uo D.dues.length uc), (94, i64 D.dues.length), (95, i64 (i : Int))]) (fun i => bx b28 3 ((arrL (stP (lstT D am pa who dd) (bagT D am pa who dd) (posN D who e i)) D.dues.length).flatMap encI) :: bx b5 43 [.slice ao am.length ac, .slice qo pa.length qc] :: bx b4 25 (cellsD D uo po uc pc) :: M) (fun i => [rowD uo 5 encD D.dues, rowD po 4 encP D.paid, rowD ao 1 encI am, rowD qo 1 encI pa] ++ Rf) (fun i => D.dues.length - i) 0 ?_ ?_ ?_
                          ·
                            exact r_here (by (repeat (first | exact FSub.nil | refine FSub.cons rfl ?_)); first | done | fail) SelMC.sel SubRC.sub
                          ·
                            omega
                          ·
                            rintro i hI4
                            refine r_seq ?_
                            refine r_region ?_
                            refine o_q _ rfl rfl rfl (v_lss rfl rfl rfl) ?_
                            refine o_nil ?_
                            repeat (first | with_reducible refine r_then ?_ | with_reducible refine r_in_normal ?_ | with_reducible refine r_sc_normal ?_)
                            refine r_seq ?_
                            first | refine r_condd rfl (fun hc96 => ?_) (fun hc96 => ?_) | refine r_cond rfl (fun hc96 => ?_) (fun hc96 => ?_)
                            ·
                              first
                              | (exfalso; revert hc96; decide)
                              | (exfalso; omega)
                              | skip
                                refine r_skip ?_
                                repeat (first | with_reducible refine r_then ?_ | with_reducible refine r_in_normal ?_ | with_reducible refine r_sc_normal ?_)
                                refine r_seq ?_
                                refine r_block ?_
                                refine r_seq ?_
                                refine r_region ?_
                                refine o_q _ rfl rfl rfl (v_move rfl rfl) ?_
                                first | refine o_q _ rfl rfl rfl (v_indexAddrSn rfl Tryd.underlying22 inf62 rfl rfl rfl (by omega) rfl) ?_ | refine o_q _ rfl rfl rfl (v_indexAddrS rfl Tryd.underlying22 inf62 rfl rfl rfl (by omega) (by omega) rfl) ?_
                                refine o_q _ rfl rfl rfl (v_loadEN (us := encD (D.dues.getD i default)) rfl Tryd.underlying62 rfl inf62 rfl (by omega) rfl rfl rfl) ?_
                                refine o_alloc rfl inf62 rfl rfl rfl rfl rfl (fun b19 => ?_)
                                refine o_q _ rfl rfl rfl (v_assign rfl rfl) ?_
                                refine o_st rfl inf62 rfl rfl rfl rfl rfl rfl rfl rfl ?_
                                refine o_nil ?_
                                repeat (first | with_reducible refine r_then ?_ | with_reducible refine r_in_normal ?_ | with_reducible refine r_sc_normal ?_)
                                refine r_seq ?_
                                refine Imp.box_to b19 (encD (D.dues.getD i default)) rfl ?_
                                refine r_region ?_
                                first | refine o_q _ rfl rfl rfl (v_fieldAddr rfl Tryd.underlying62 inf3 rfl rfl rfl rfl) ?_ | refine o_q _ rfl rfl rfl (v_fieldAddrE rfl Tryd.underlying62 inf3 rfl rfl rfl rfl) ?_
                                first | refine o_q _ rfl rfl rfl (v_ld1 rfl Tryd.underlying3 rfl rfl rfl) ?_ | refine o_q _ rfl rfl rfl (v_lf1 rfl Tryd.underlying3 rfl rfl rfl) ?_ | refine o_q _ rfl rfl rfl (v_loadE1 rfl Tryd.underlying3 rfl rfl (by omega) rfl rfl) ?_
                                refine o_q _ rfl rfl rfl (v_move rfl rfl) ?_
                                first | refine o_q _ rfl rfl rfl (v_true (v_eql rfl rfl rfl) (by omega)) ?_ | refine o_q _ rfl rfl rfl (v_false (v_eql rfl rfl rfl) (by omega)) ?_ | refine o_test rfl rfl rfl (v_eql rfl rfl rfl) (fun h103 => ?_) (fun h103 => ?_)
                                all_goals
                                  refine o_q _ rfl rfl rfl (v_move rfl rfl) ?_
                                  first | refine o_gn rfl rfl rfl rfl ?_ | refine o_g _ rfl rfl rfl rfl (v_fieldAddr rfl Tryd.underlying62 inf3 rfl rfl rfl rfl) ?_ | refine o_g _ rfl rfl rfl rfl (v_fieldAddrE rfl Tryd.underlying62 inf3 rfl rfl rfl rfl) ?_
                                  first | refine o_gn rfl rfl rfl rfl ?_ | refine o_g _ rfl rfl rfl rfl (v_ld1 rfl Tryd.underlying3 rfl rfl rfl) ?_ | refine o_g _ rfl rfl rfl rfl (v_lf1 rfl Tryd.underlying3 rfl rfl rfl) ?_ | refine o_g _ rfl rfl rfl rfl (v_loadE1 rfl Tryd.underlying3 rfl rfl (by omega) rfl rfl) ?_
                                  first | refine o_gn rfl rfl rfl rfl ?_ | refine o_g _ rfl rfl rfl rfl (v_move rfl rfl) ?_
                                  first | refine o_gn rfl rfl rfl rfl ?_ | refine o_g _ rfl rfl rfl rfl (v_true (v_eql rfl rfl rfl) (by omega)) ?_ | refine o_g _ rfl rfl rfl rfl (v_false (v_eql rfl rfl rfl) (by omega)) ?_ | refine o_gtest rfl rfl rfl rfl (v_eql rfl rfl rfl) (fun h108 => ?_) (fun h108 => ?_)
                                  all_goals
                                    first | refine o_q _ rfl rfl rfl (v_pick_t rfl rfl rfl) ?_ | refine o_q _ rfl rfl rfl (v_pick_f rfl rfl rfl) ?_
                                    refine o_nil ?_
                                    repeat (first | with_reducible refine r_then ?_ | with_reducible refine r_in_normal ?_ | with_reducible refine r_sc_normal ?_)
                                    first | refine r_condd rfl (fun hc109 => ?_) (fun hc109 => ?_) | refine r_cond rfl (fun hc109 => ?_) (fun hc109 => ?_)
                                    ·
                                      first
                                      | (exfalso; revert hc109; decide)
                                      | (exfalso; omega)
                                      | skip
                                        refine r_seq ?_
                                        obtain ⟨L, hL, hL1, hsA, hsP⟩ := pay_stepT hg h who dd (by omega) (e := e) (i := i) (by omega) (by omega) (by omega) (by omega)
                                        have hAb := stA_bd hg h who dd (by omega) (posN D who e i)
                                        refine r_region ?_
                                        refine o_q _ rfl rfl rfl (v_move rfl rfl) ?_
                                        refine o_q _ rfl rfl rfl (v_move rfl rfl) ?_
                                        refine o_q _ rfl rfl rfl (v_indexAddrB rfl Tryd.underlying41 inf3 rfl rfl (by omega)) ?_
                                        refine o_q _ rfl rfl rfl (v_cast (v := i64 L) (v_ld1 rfl Tryd.underlying3 rfl rfl (boxI_get (by rw [arr_len]; omega))) (i64c ((arr_at (by omega)).trans (hL)))) ?_
                                        refine o_q _ rfl rfl rfl (v_move rfl rfl) ?_
                                        first | refine o_q _ rfl rfl rfl (v_min2 rfl rfl rfl) ?_ | refine o_q _ rfl rfl rfl (v_min3 rfl rfl rfl rfl) ?_
                                        refine o_q _ rfl rfl rfl (v_assign rfl rfl) ?_
                                        refine o_nil ?_
                                        repeat (first | with_reducible refine r_then ?_ | with_reducible refine r_in_normal ?_ | with_reducible refine r_sc_normal ?_)
                                        refine r_region ?_
                                        refine o_q _ rfl rfl rfl (v_move rfl rfl) ?_
                                        refine o_q _ rfl rfl rfl (v_move rfl rfl) ?_
                                        refine o_q _ rfl rfl rfl (v_move rfl rfl) ?_
                                        refine o_q _ rfl rfl rfl (v_move rfl rfl) ?_
                                        refine o_q _ rfl rfl rfl (v_indexAddrB rfl Tryd.underlying41 inf3 rfl rfl (by omega)) ?_
                                        refine o_q _ rfl rfl rfl (v_cast (v := i64 L) (v_ld1 rfl Tryd.underlying3 rfl rfl (boxI_get (by rw [arr_len]; omega))) (i64c ((arr_at (by omega)).trans (hL)))) ?_
                                        refine o_q _ rfl rfl rfl (v_move rfl rfl) ?_
                                        refine o_q _ rfl rfl rfl (v_sub rfl rfl rfl (by omega)) ?_
                                        refine o_q _ rfl rfl rfl (v_move rfl rfl) ?_
                                        refine o_q _ rfl rfl rfl (v_move rfl rfl) ?_
                                        refine o_q _ rfl rfl rfl (v_sub rfl rfl rfl (by omega)) ?_
                                        refine o_q _ rfl rfl rfl (v_indexAddrB rfl Tryd.underlying41 inf3 rfl rfl (by omega)) ?_
                                        refine o_st rfl inf3 rfl rfl rfl rfl rfl rfl rfl (boxI_ble (by rw [arr_len]; omega)) ?_
                                        refine o_q _ rfl rfl rfl (v_assign rfl rfl) ?_
                                        refine o_nil ?_
                                        repeat (first | with_reducible refine r_then ?_ | with_reducible refine r_in_normal ?_ | with_reducible refine r_sc_normal ?_)
                                        refine r_region ?_
                                        refine o_q _ rfl rfl rfl (v_add rfl rfl rfl (by omega)) ?_
                                        refine o_q _ rfl rfl rfl (v_move rfl rfl) ?_
                                        refine o_nil ?_
                                        repeat (first | with_reducible refine r_then ?_ | with_reducible refine r_in_normal ?_ | with_reducible refine r_sc_normal ?_)
                                        first
                                        | exact r_next (i + 1) (by refine Imp.box_to b28 ((arrL (stP (lstT D am pa who dd) (bagT D am pa who dd) (posN D who e (i + 1))) D.dues.length).flatMap encI) (by exact box_next (by rw [arr_len]; omega) hsP) ?_; exact r_here (by (repeat (first | exact FSub.nil | refine FSub.cons rfl ?_ | refine FSub.cons2 rfl (i64c hsA.symm) ?_)); first | done | fail) SelMC.sel SubRC.sub) (by first | omega | (show _ + 1 ≤ _; omega)) (by first | omega | (show _ - (_ + 1) < _ - _; omega))
                                        | exact r_next (i + 1) (by rw [pos_n (D := D) (who := who) (e := e) (i := i) (fun hN => by have := of_decide_eq_true hN; omega)]; exact r_here (by (repeat (first | exact FSub.nil | refine FSub.cons rfl ?_)); first | done | fail) SelMC.sel SubRC.sub) (by first | omega | (show _ + 1 ≤ _; omega)) (by first | omega | (show _ - (_ + 1) < _ - _; omega))
                                    ·
                                      first
                                      | (exfalso; revert hc109; decide)
                                      | (exfalso; omega)
                                      | skip
                                        refine r_skip ?_
                                        repeat (first | with_reducible refine r_then ?_ | with_reducible refine r_in_normal ?_ | with_reducible refine r_sc_normal ?_)
                                        refine r_region ?_
                                        refine o_q _ rfl rfl rfl (v_add rfl rfl rfl (by omega)) ?_
                                        refine o_q _ rfl rfl rfl (v_move rfl rfl) ?_
                                        refine o_nil ?_
                                        repeat (first | with_reducible refine r_then ?_ | with_reducible refine r_in_normal ?_ | with_reducible refine r_sc_normal ?_)
                                        first
                                        | exact r_next (i + 1) (by refine Imp.box_to b28 ((arrL (stP (lstT D am pa who dd) (bagT D am pa who dd) (posN D who e (i + 1))) D.dues.length).flatMap encI) (by exact box_next (by rw [arr_len]; omega) hsP) ?_; exact r_here (by (repeat (first | exact FSub.nil | refine FSub.cons rfl ?_ | refine FSub.cons2 rfl (i64c hsA.symm) ?_)); first | done | fail) SelMC.sel SubRC.sub) (by first | omega | (show _ + 1 ≤ _; omega)) (by first | omega | (show _ - (_ + 1) < _ - _; omega))
                                        | exact r_next (i + 1) (by rw [pos_n (D := D) (who := who) (e := e) (i := i) (fun hN => by have := of_decide_eq_true hN; omega)]; exact r_here (by (repeat (first | exact FSub.nil | refine FSub.cons rfl ?_)); first | done | fail) SelMC.sel SubRC.sub) (by first | omega | (show _ + 1 ≤ _; omega)) (by first | omega | (show _ - (_ + 1) < _ - _; omega))
                            ·
                              first
                              | (exfalso; revert hc96; decide)
                              | (exfalso; omega)
                              | skip
                                refine r_exit ?_
                                repeat (first | with_reducible refine r_then_exit ?_ | with_reducible refine r_sc_exit ?_ | with_reducible refine r_in_here ?_ | (with_reducible refine r_in_past (by decide) ?_) | with_reducible refine r_then ?_ | with_reducible refine r_in_normal ?_ | with_reducible refine r_sc_normal ?_)
                                obtain rfl : i = D.dues.length := by omega
                                refine r_region ?_
                                refine o_q _ rfl rfl rfl (v_add rfl rfl rfl (by omega)) ?_
                                refine o_q _ rfl rfl rfl (v_move rfl rfl) ?_
                                refine o_nil ?_
                                repeat (first | with_reducible refine r_then ?_ | with_reducible refine r_in_normal ?_ | with_reducible refine r_sc_normal ?_)
                                refine r_next (e + 1) ?_ ?_ ?_
                                ·
                                  rw [← pos_next]
                                  exact r_here (by (repeat (first | exact FSub.nil | refine FSub.cons rfl ?_)); first | done | fail) SelMC.sel SubRC.sub
                                ·
                                  omega
                                ·
                                  omega
                      ·
                        first
                        | (exfalso; revert hc90; decide)
                        | (exfalso; omega)
                        | skip
                          refine r_exit ?_
                          repeat (first | with_reducible refine r_then_exit ?_ | with_reducible refine r_sc_exit ?_ | with_reducible refine r_in_here ?_ | (with_reducible refine r_in_past (by decide) ?_) | with_reducible refine r_then ?_ | with_reducible refine r_in_normal ?_ | with_reducible refine r_sc_normal ?_)
                          refine r_seq ?_
                          obtain rfl : e = dd + 1 := by omega
                          obtain ⟨hp1, hp2⟩ := pay_allT hg h who dd (by omega)
                          rw [hp1, hp2]
                          refine r_region ?_
                          first | refine o_q _ rfl rfl rfl (v_fieldAddr rfl Tryd.underlying25 inf22 rfl rfl rfl rfl) ?_ | refine o_q _ rfl rfl rfl (v_fieldAddrE rfl Tryd.underlying25 inf22 rfl rfl rfl rfl) ?_
                          first | refine o_q _ rfl rfl rfl (v_ld1 rfl Tryd.underlying22 rfl rfl rfl) ?_ | refine o_q _ rfl rfl rfl (v_lf1 rfl Tryd.underlying22 rfl rfl rfl) ?_ | refine o_q _ rfl rfl rfl (v_loadE1 rfl Tryd.underlying22 rfl rfl (by omega) rfl rfl) ?_
                          refine o_q _ rfl rfl rfl (v_len rfl rfl Tryd.underlying22 rfl) ?_
                          refine o_q _ rfl rfl rfl (v_move rfl rfl) ?_
                          refine o_nil ?_
                          repeat (first | with_reducible refine r_then ?_ | with_reducible refine r_in_normal ?_ | with_reducible refine r_sc_normal ?_)
                          refine r_block ?_
                          refine r_loop (ι := Nat) (fun k => k ≤ D.dues.length) (fun k => [(2, i64 who), (3, i64 (d : Int)), (4, pt b4 0), (5, pt b5 0), (8, i64 0), (9, i64 (restF (lstT D am pa who dd) (bagT D am pa who dd))), (10, i64 0), (11, .slice (some ⟨b28, 0, none⟩) D.dues.length D.dues.length), (30, i64 ((d : Int) + 1)), (31, i64 (dd : Int)), (12, i64 (dd : Int)), (131, .slice uo D.dues.length uc), (132, i64 D.dues.length), (133, i64 (k : Int))]) (fun k => bx b28 3 ((arrL (growN dd k (payF (lstT D am pa who dd) (bagT D am pa who dd))) D.dues.length).flatMap encI) :: bx b5 43 [.slice ao am.length ac, .slice qo pa.length qc] :: bx b4 25 (cellsD D uo po uc pc) :: M) (fun k => [rowD uo 5 encD D.dues, rowD po 4 encP D.paid, rowD ao 1 encI am, rowD qo 1 encI pa] ++ Rf) (fun k => D.dues.length - k) 0 ?_ ?_ ?_
                          ·
                            refine Imp.box_to b28 ((arrL (growN dd 0 (payF (lstT D am pa who dd) (bagT D am pa who dd))) D.dues.length).flatMap encI) (by rw [growN_0]) ?_
                            exact r_here (by (repeat (first | exact FSub.nil | refine FSub.cons rfl ?_)); first | done | fail) SelMC.sel SubRC.sub
                          ·
                            omega
                          ·
                            rintro k hI5
                            refine r_seq ?_
                            refine r_region ?_
                            refine o_q _ rfl rfl rfl (v_lss rfl rfl rfl) ?_
                            refine o_nil ?_
                            repeat (first | with_reducible refine r_then ?_ | with_reducible refine r_in_normal ?_ | with_reducible refine r_sc_normal ?_)
                            refine r_seq ?_
                            first | refine r_condd rfl (fun hc134 => ?_) (fun hc134 => ?_) | refine r_cond rfl (fun hc134 => ?_) (fun hc134 => ?_)
                            ·
                              first
                              | (exfalso; revert hc134; decide)
                              | (exfalso; omega)
                              | skip
                                refine r_skip ?_
                                repeat (first | with_reducible refine r_then ?_ | with_reducible refine r_in_normal ?_ | with_reducible refine r_sc_normal ?_)
                                refine r_seq ?_
                                refine r_block ?_
                                refine r_seq ?_
                                refine r_region ?_
                                refine o_q _ rfl rfl rfl (v_move rfl rfl) ?_
                                first | refine o_q _ rfl rfl rfl (v_indexAddrSn rfl Tryd.underlying22 inf62 rfl rfl rfl (by omega) rfl) ?_ | refine o_q _ rfl rfl rfl (v_indexAddrS rfl Tryd.underlying22 inf62 rfl rfl rfl (by omega) (by omega) rfl) ?_
                                refine o_q _ rfl rfl rfl (v_loadEN (us := encD (D.dues.getD k default)) rfl Tryd.underlying62 rfl inf62 rfl (by omega) rfl rfl rfl) ?_
                                refine o_alloc rfl inf62 rfl rfl rfl rfl rfl (fun b22 => ?_)
                                refine o_q _ rfl rfl rfl (v_assign rfl rfl) ?_
                                refine o_st rfl inf62 rfl rfl rfl rfl rfl rfl rfl rfl ?_
                                refine o_nil ?_
                                repeat (first | with_reducible refine r_then ?_ | with_reducible refine r_in_normal ?_ | with_reducible refine r_sc_normal ?_)
                                refine r_seq ?_
                                refine Imp.box_to b22 (encD (D.dues.getD k default)) rfl ?_
                                have hgb := pay_bdT hg h who dd (by omega) k
                                obtain ⟨_, _, _, hlate⟩ := hg.dues k (by omega)
                                refine r_region ?_
                                refine o_q _ rfl rfl rfl (v_move rfl rfl) ?_
                                refine o_q _ rfl rfl rfl (v_move rfl rfl) ?_
                                refine o_q _ rfl rfl rfl (v_indexAddrB rfl Tryd.underlying41 inf3 rfl rfl (by omega)) ?_
                                refine o_q _ rfl rfl rfl (v_cast (v := i64 (valF (payF (lstT D am pa who dd) (bagT D am pa who dd)) k)) (v_ld1 rfl Tryd.underlying3 rfl rfl (boxI_get (by rw [arr_len]; omega))) (i64c ((arr_at (by omega)).trans (grow_valT hg h who dd k)))) ?_
                                first | refine o_q _ rfl rfl rfl (v_true (v_gtr rfl rfl rfl) (by omega)) ?_ | refine o_q _ rfl rfl rfl (v_false (v_gtr rfl rfl rfl) (by omega)) ?_ | refine o_test rfl rfl rfl (v_gtr rfl rfl rfl) (fun h142 => ?_) (fun h142 => ?_)
                                all_goals
                                  refine o_q _ rfl rfl rfl (v_move rfl rfl) ?_
                                  first | refine o_gn rfl rfl rfl rfl ?_ | refine o_g _ rfl rfl rfl rfl (v_fieldAddr rfl Tryd.underlying62 inf3 rfl rfl rfl rfl) ?_ | refine o_g _ rfl rfl rfl rfl (v_fieldAddrE rfl Tryd.underlying62 inf3 rfl rfl rfl rfl) ?_
                                  first | refine o_gn rfl rfl rfl rfl ?_ | refine o_g _ rfl rfl rfl rfl (v_ld1 rfl Tryd.underlying3 rfl rfl rfl) ?_ | refine o_g _ rfl rfl rfl rfl (v_lf1 rfl Tryd.underlying3 rfl rfl rfl) ?_ | refine o_g _ rfl rfl rfl rfl (v_loadE1 rfl Tryd.underlying3 rfl rfl (by omega) rfl rfl) ?_
                                  first | refine o_gn rfl rfl rfl rfl ?_ | refine o_g _ rfl rfl rfl rfl (v_move rfl rfl) ?_
                                  first | refine o_gn rfl rfl rfl rfl ?_ | refine o_g _ rfl rfl rfl rfl (v_true (v_lss rfl rfl rfl) (by omega)) ?_ | refine o_g _ rfl rfl rfl rfl (v_false (v_lss rfl rfl rfl) (by omega)) ?_ | refine o_gtest rfl rfl rfl rfl (v_lss rfl rfl rfl) (fun h147 => ?_) (fun h147 => ?_)
                                  all_goals
                                    first | refine o_q _ rfl rfl rfl (v_pick_t rfl rfl rfl) ?_ | refine o_q _ rfl rfl rfl (v_pick_f rfl rfl rfl) ?_
                                    refine o_nil ?_
                                    repeat (first | with_reducible refine r_then ?_ | with_reducible refine r_in_normal ?_ | with_reducible refine r_sc_normal ?_)
                                    first | refine r_condd rfl (fun hc148 => ?_) (fun hc148 => ?_) | refine r_cond rfl (fun hc148 => ?_) (fun hc148 => ?_)
                                    ·
                                      first
                                      | (exfalso; revert hc148; decide)
                                      | (exfalso; omega)
                                      | skip
                                        refine r_par' 7 mixed (by kernel_rfl) (by rfl) ?_
                                        refine p_q _ rfl rfl rfl (fun _ _ => v_move rfl rfl) ?_
                                        refine p_q _ rfl rfl rfl (fun _ _ => v_move rfl rfl) ?_
                                        refine p_q _ rfl rfl rfl (fun _ _ => v_indexAddrB rfl Tryd.underlying41 inf3 rfl rfl (by omega)) ?_
                                        refine p_q _ rfl rfl rfl (fun _ _ => v_cast (v := i64 (valF (payF (lstT D am pa who dd) (bagT D am pa who dd)) k)) (v_ld1 rfl Tryd.underlying3 rfl rfl (boxI_get (by rw [arr_len]; omega))) (i64c ((arr_at (by omega)).trans (grow_valT hg h who dd k)))) ?_
                                        first | refine p_q _ rfl rfl rfl (fun _ _ => v_fieldAddr rfl Tryd.underlying62 inf3 rfl rfl rfl rfl) ?_ | refine p_q _ rfl rfl rfl (fun _ _ => v_fieldAddrE rfl Tryd.underlying62 inf3 rfl rfl rfl rfl) ?_
                                        first | refine p_q _ rfl rfl rfl (fun _ _ => v_ld1 rfl Tryd.underlying3 rfl rfl rfl) ?_ | refine p_q _ rfl rfl rfl (fun _ _ => v_lf1 rfl Tryd.underlying3 rfl rfl rfl) ?_ | refine p_q _ rfl rfl rfl (fun _ _ => v_loadE1 rfl Tryd.underlying3 rfl rfl (by omega) rfl rfl) ?_
                                        refine p_q _ rfl rfl rfl (fun _ _ => v_add rfl rfl rfl (by omega)) ?_
                                        refine p_nil2 (by simp only [List.nil_append, List.cons_append]; rfl) rfl ?_
                                        refine f_q rfl ?_
                                        refine f_q rfl ?_
                                        refine f_q rfl ?_
                                        refine f_q rfl ?_
                                        refine f_q rfl ?_
                                        refine f_q rfl ?_
                                        refine f_q rfl ?_
                                        refine f_nil ?_
                                        refine o_q _ rfl rfl rfl (v_indexAddrB rfl Tryd.underlying41 inf3 rfl rfl (by omega)) ?_
                                        refine o_st rfl inf3 rfl rfl rfl rfl rfl rfl rfl (boxI_ble (by rw [arr_len]; omega)) ?_
                                        refine o_nil ?_
                                        repeat (first | with_reducible refine r_then ?_ | with_reducible refine r_in_normal ?_ | with_reducible refine r_sc_normal ?_)
                                        refine r_region ?_
                                        refine o_q _ rfl rfl rfl (v_add rfl rfl rfl (by omega)) ?_
                                        refine o_q _ rfl rfl rfl (v_move rfl rfl) ?_
                                        refine o_nil ?_
                                        repeat (first | with_reducible refine r_then ?_ | with_reducible refine r_in_normal ?_ | with_reducible refine r_sc_normal ?_)
                                        first
                                        | exact r_next (k + 1) (by refine Imp.box_to b28 ((arrL (growN dd (k + 1) (payF (lstT D am pa who dd) (bagT D am pa who dd))) D.dues.length).flatMap encI) (by exact box_next (by rw [arr_len]; omega) (grow_yT hg h who dd (k := k) (by omega) (by omega) (by omega))) ?_; exact r_here (by (repeat (first | exact FSub.nil | refine FSub.cons rfl ?_)); first | done | fail) SelMC.sel SubRC.sub) (by first | omega | (show _ + 1 ≤ _; omega)) (by first | omega | (show _ - (_ + 1) < _ - _; omega))
                                        | exact r_next (k + 1) (by refine Imp.box_to b28 ((arrL (growN dd (k + 1) (payF (lstT D am pa who dd) (bagT D am pa who dd))) D.dues.length).flatMap encI) (by rw [grow_nT hg h who dd (k := k) (by omega)]) ?_; exact r_here (by (repeat (first | exact FSub.nil | refine FSub.cons rfl ?_)); first | done | fail) SelMC.sel SubRC.sub) (by first | omega | (show _ + 1 ≤ _; omega)) (by first | omega | (show _ - (_ + 1) < _ - _; omega))
                                    ·
                                      first
                                      | (exfalso; revert hc148; decide)
                                      | (exfalso; omega)
                                      | skip
                                        refine r_skip ?_
                                        repeat (first | with_reducible refine r_then ?_ | with_reducible refine r_in_normal ?_ | with_reducible refine r_sc_normal ?_)
                                        refine r_region ?_
                                        refine o_q _ rfl rfl rfl (v_add rfl rfl rfl (by omega)) ?_
                                        refine o_q _ rfl rfl rfl (v_move rfl rfl) ?_
                                        refine o_nil ?_
                                        repeat (first | with_reducible refine r_then ?_ | with_reducible refine r_in_normal ?_ | with_reducible refine r_sc_normal ?_)
                                        first
                                        | exact r_next (k + 1) (by refine Imp.box_to b28 ((arrL (growN dd (k + 1) (payF (lstT D am pa who dd) (bagT D am pa who dd))) D.dues.length).flatMap encI) (by exact box_next (by rw [arr_len]; omega) (grow_yT hg h who dd (k := k) (by omega) (by omega) (by omega))) ?_; exact r_here (by (repeat (first | exact FSub.nil | refine FSub.cons rfl ?_)); first | done | fail) SelMC.sel SubRC.sub) (by first | omega | (show _ + 1 ≤ _; omega)) (by first | omega | (show _ - (_ + 1) < _ - _; omega))
                                        | exact r_next (k + 1) (by refine Imp.box_to b28 ((arrL (growN dd (k + 1) (payF (lstT D am pa who dd) (bagT D am pa who dd))) D.dues.length).flatMap encI) (by rw [grow_nT hg h who dd (k := k) (by omega)]) ?_; exact r_here (by (repeat (first | exact FSub.nil | refine FSub.cons rfl ?_)); first | done | fail) SelMC.sel SubRC.sub) (by first | omega | (show _ + 1 ≤ _; omega)) (by first | omega | (show _ - (_ + 1) < _ - _; omega))
                            ·
                              first
                              | (exfalso; revert hc134; decide)
                              | (exfalso; omega)
                              | skip
                                refine r_exit ?_
                                repeat (first | with_reducible refine r_then_exit ?_ | with_reducible refine r_sc_exit ?_ | with_reducible refine r_in_here ?_ | (with_reducible refine r_in_past (by decide) ?_) | with_reducible refine r_then ?_ | with_reducible refine r_in_normal ?_ | with_reducible refine r_sc_normal ?_)
                                obtain rfl : k = D.dues.length := by omega
                                obtain ⟨hd1, hd2⟩ := day_doneT hg h who dd (by omega)
                                rw [hd1, hd2]
                                refine r_region ?_
                                refine o_q _ rfl rfl rfl (v_add rfl rfl rfl (by omega)) ?_
                                refine o_q _ rfl rfl rfl (v_move rfl rfl) ?_
                                refine o_nil ?_
                                repeat (first | with_reducible refine r_then ?_ | with_reducible refine r_in_normal ?_ | with_reducible refine r_sc_normal ?_)
                                refine r_next (dd + 1) ?_ ?_ ?_
                                ·
                                  exact r_here (by (repeat (first | exact FSub.nil | refine FSub.cons rfl ?_)); first | done | fail) SelMC.sel SubRC.sub
                                ·
                                  omega
                                ·
                                  omega
    ·
      first
      | (exfalso; revert hc32; decide)
      | (exfalso; omega)
      | skip
        refine r_exit ?_
        repeat (first | with_reducible refine r_then_exit ?_ | with_reducible refine r_sc_exit ?_ | with_reducible refine r_in_here ?_ | (with_reducible refine r_in_past (by decide) ?_) | with_reducible refine r_then ?_ | with_reducible refine r_in_normal ?_ | with_reducible refine r_sc_normal ?_)
        refine r_seq ?_
        refine r_seq ?_
        obtain rfl : dd = d + 1 := by omega
        refine r_region ?_
        refine o_q _ rfl rfl rfl (v_move rfl rfl) ?_
        refine o_q _ rfl rfl rfl (v_len rfl rfl Tryd.underlying41 rfl) ?_
        refine o_q _ rfl rfl rfl (v_move rfl rfl) ?_
        refine o_nil ?_
        repeat (first | with_reducible refine r_then ?_ | with_reducible refine r_in_normal ?_ | with_reducible refine r_sc_normal ?_)
        refine r_block ?_
        refine r_loop (ι := Nat) (fun k => k ≤ D.dues.length) (fun k => [(8, i64 (sumTo (valF (accT D am pa who (d + 1)).1) k)), (9, i64 (accT D am pa who (d + 1)).2), (10, i64 (openK (valF (accT D am pa who (d + 1)).1) k : Nat)), (159, .slice (some ⟨b28, 0, none⟩) D.dues.length D.dues.length), (160, i64 D.dues.length), (161, i64 (k : Int))]) (fun k => bx b28 3 ((arrL (accT D am pa who (d + 1)).1 D.dues.length).flatMap encI) :: bx b5 43 [.slice ao am.length ac, .slice qo pa.length qc] :: bx b4 25 (cellsD D uo po uc pc) :: M) (fun k => [rowD uo 5 encD D.dues, rowD po 4 encP D.paid, rowD ao 1 encI am, rowD qo 1 encI pa] ++ Rf) (fun k => D.dues.length - k) 0 ?_ ?_ ?_
        ·
          exact r_here (by (repeat (first | exact FSub.nil | refine FSub.cons rfl ?_)); first | done | fail) SelMC.sel SubRC.sub
        ·
          omega
        ·
          rintro k hI6
          refine r_seq ?_
          refine r_region ?_
          refine o_q _ rfl rfl rfl (v_lss rfl rfl rfl) ?_
          refine o_nil ?_
          repeat (first | with_reducible refine r_then ?_ | with_reducible refine r_in_normal ?_ | with_reducible refine r_sc_normal ?_)
          refine r_seq ?_
          first | refine r_condd rfl (fun hc162 => ?_) (fun hc162 => ?_) | refine r_cond rfl (fun hc162 => ?_) (fun hc162 => ?_)
          ·
            first
            | (exfalso; revert hc162; decide)
            | (exfalso; omega)
            | skip
              refine r_skip ?_
              repeat (first | with_reducible refine r_then ?_ | with_reducible refine r_in_normal ?_ | with_reducible refine r_sc_normal ?_)
              refine r_seq ?_
              refine r_block ?_
              refine r_seq ?_
              refine r_region ?_
              refine o_q _ rfl rfl rfl (v_move rfl rfl) ?_
              refine o_q _ rfl rfl rfl (v_indexAddrB rfl Tryd.underlying41 inf3 rfl rfl (by omega)) ?_
              refine o_q _ rfl rfl rfl (v_cast (v := i64 (valF (accT D am pa who (d + 1)).1 k)) (v_ld1 rfl Tryd.underlying3 rfl rfl (boxI_get (by rw [arr_len]; omega))) (i64c ((arr_at (by omega)).trans (rfl)))) ?_
              refine o_q _ rfl rfl rfl (v_assign rfl rfl) ?_
              refine o_q _ rfl rfl rfl (v_assign rfl rfl) ?_
              refine o_nil ?_
              repeat (first | with_reducible refine r_then ?_ | with_reducible refine r_in_normal ?_ | with_reducible refine r_sc_normal ?_)
              refine r_seq ?_
              have hs1 := sum_bdT hg h who (d + 1) (by omega) k
              have hs2 := val_bdT hg h who (d + 1) (by omega) k
              refine r_region ?_
              refine o_q _ rfl rfl rfl (v_move rfl rfl) ?_
              refine o_q _ rfl rfl rfl (v_move rfl rfl) ?_
              refine o_q _ rfl rfl rfl (v_add rfl rfl rfl (by omega)) ?_
              refine o_q _ rfl rfl rfl (v_assign rfl rfl) ?_
              refine o_nil ?_
              repeat (first | with_reducible refine r_then ?_ | with_reducible refine r_in_normal ?_ | with_reducible refine r_sc_normal ?_)
              refine r_seq ?_
              refine r_region ?_
              refine o_q _ rfl rfl rfl (v_move rfl rfl) ?_
              refine o_q _ rfl rfl rfl (v_gtr rfl rfl rfl) ?_
              refine o_nil ?_
              repeat (first | with_reducible refine r_then ?_ | with_reducible refine r_in_normal ?_ | with_reducible refine r_sc_normal ?_)
              first | refine r_condd rfl (fun hc170 => ?_) (fun hc170 => ?_) | refine r_cond rfl (fun hc170 => ?_) (fun hc170 => ?_)
              ·
                first
                | (exfalso; revert hc170; decide)
                | (exfalso; omega)
                | skip
                  refine r_region ?_
                  refine o_q _ rfl rfl rfl (v_move rfl rfl) ?_
                  refine o_q _ rfl rfl rfl (v_move rfl rfl) ?_
                  refine o_q _ rfl rfl rfl (v_shl1 (h := k) rfl rfl rfl (by omega) rfl) ?_
                  refine o_q _ rfl rfl rfl (v_orn (a := openK (valF (accT D am pa who (d + 1)).1) k) (b := 2 ^ k) rfl rfl rfl (Nat.lt_of_lt_of_le (openK_lt _ _) (Nat.pow_le_pow_right (by decide) (by omega))) (Nat.pow_lt_pow_right (by decide) (by omega))) ?_
                  refine o_q _ rfl rfl rfl (v_assign rfl rfl) ?_
                  refine o_nil ?_
                  repeat (first | with_reducible refine r_then ?_ | with_reducible refine r_in_normal ?_ | with_reducible refine r_sc_normal ?_)
                  refine r_region ?_
                  refine o_q _ rfl rfl rfl (v_add rfl rfl rfl (by omega)) ?_
                  refine o_q _ rfl rfl rfl (v_move rfl rfl) ?_
                  refine o_nil ?_
                  repeat (first | with_reducible refine r_then ?_ | with_reducible refine r_in_normal ?_ | with_reducible refine r_sc_normal ?_)
                  first
                  | exact r_next (k + 1) (by exact r_here (by (repeat (first | exact FSub.nil | refine FSub.cons rfl ?_ | refine FSub.cons2 rfl (i64n (openK_y (by omega)).symm) ?_)); first | done | fail) SelMC.sel SubRC.sub) (by first | omega | (show _ + 1 ≤ _; omega)) (by first | omega | (show _ - (_ + 1) < _ - _; omega))
                  | exact r_next (k + 1) (by exact r_here (by (repeat (first | exact FSub.nil | refine FSub.cons rfl ?_ | refine FSub.cons2 rfl (i64n (openK_n (by omega)).symm) ?_)); first | done | fail) SelMC.sel SubRC.sub) (by first | omega | (show _ + 1 ≤ _; omega)) (by first | omega | (show _ - (_ + 1) < _ - _; omega))
              ·
                first
                | (exfalso; revert hc170; decide)
                | (exfalso; omega)
                | skip
                  refine r_skip ?_
                  repeat (first | with_reducible refine r_then ?_ | with_reducible refine r_in_normal ?_ | with_reducible refine r_sc_normal ?_)
                  refine r_region ?_
                  refine o_q _ rfl rfl rfl (v_add rfl rfl rfl (by omega)) ?_
                  refine o_q _ rfl rfl rfl (v_move rfl rfl) ?_
                  refine o_nil ?_
                  repeat (first | with_reducible refine r_then ?_ | with_reducible refine r_in_normal ?_ | with_reducible refine r_sc_normal ?_)
                  first
                  | exact r_next (k + 1) (by exact r_here (by (repeat (first | exact FSub.nil | refine FSub.cons rfl ?_ | refine FSub.cons2 rfl (i64n (openK_y (by omega)).symm) ?_)); first | done | fail) SelMC.sel SubRC.sub) (by first | omega | (show _ + 1 ≤ _; omega)) (by first | omega | (show _ - (_ + 1) < _ - _; omega))
                  | exact r_next (k + 1) (by exact r_here (by (repeat (first | exact FSub.nil | refine FSub.cons rfl ?_ | refine FSub.cons2 rfl (i64n (openK_n (by omega)).symm) ?_)); first | done | fail) SelMC.sel SubRC.sub) (by first | omega | (show _ + 1 ≤ _; omega)) (by first | omega | (show _ - (_ + 1) < _ - _; omega))
          ·
            first
            | (exfalso; revert hc162; decide)
            | (exfalso; omega)
            | skip
              refine r_exit ?_
              repeat (first | with_reducible refine r_then_exit ?_ | with_reducible refine r_sc_exit ?_ | with_reducible refine r_in_here ?_ | (with_reducible refine r_in_past (by decide) ?_) | with_reducible refine r_then ?_ | with_reducible refine r_in_normal ?_ | with_reducible refine r_sc_normal ?_)
              refine r_seq ?_
              refine r_region ?_
              refine o_q _ rfl rfl rfl (v_move rfl rfl) ?_
              refine o_q _ rfl rfl rfl (v_move rfl rfl) ?_
              refine o_q _ rfl rfl rfl (v_move rfl rfl) ?_
              refine o_q _ rfl rfl rfl (v_assign rfl rfl) ?_
              refine o_q _ rfl rfl rfl (v_assign rfl rfl) ?_
              refine o_q _ rfl rfl rfl (v_assign rfl rfl) ?_
              refine o_nil ?_
              repeat (first | with_reducible refine r_then ?_ | with_reducible refine r_in_normal ?_ | with_reducible refine r_sc_normal ?_)
              refine r_ret ?_
              repeat (first | with_reducible refine r_then_ret ?_ | with_reducible refine r_in_ret ?_ | with_reducible refine r_sc_ret ?_)
              obtain rfl : k = D.dues.length := by omega
              exact r_retv2 (Rd.three rfl (RdI.tmp rfl) (RdI.tmp rfl) (RdI.tmp rfl)) (by rw [sum_allT hg h, open_allT hg h]; rfl) SelMC.sel SubRC.sub
end Go.Proofs.YtpfgiednfjfdmaaDoor


namespace Go.Proofs.YtpfgiednfjfdmaaDoor
open Go.G Debt10
set_option maxRecDepth 1000000
attribute [local irreducible] G.ParO G.Fin
section
variable {D : Debt} {am pa : List Int} (hg : GoodD D) (h : TruD D am pa)
abbrev setX (D : Debt) (am pa : List Int) (who : Int) (d : Nat) : Nat := setT ((accT D am pa who (d + 1)).1.filter isOpen)
def sumX (D : Debt) (am pa : List Int) (d : Nat) : Nat → Int
  | 0 => 0
  | k + 1 => sumX D am pa d k + total (accT D am pa (k : Int) (d + 1)).1
include hg h
theorem tru_left (who : Int) (d : Nat) : (leftT D who d).lo ≤ total (accT D am pa who (d + 1)).1 ∧ total (accT D am pa who (d + 1)).1 ≤ (leftT D who d).hi := by
  obtain ⟨⟨h1, _⟩, h2, _⟩ := tru_mid hg h who (d + 1)
  show total (progA D 0 who (d + 1)).1 ≤ _ ∧ _ ≤ total (progA D 1 who (d + 1)).1
  rw [prog_total hg, prog_total hg]
  exact ⟨h1.total, h2.total⟩
theorem tru_ahead (who : Int) (d : Nat) : (aheadT D who d).lo ≤ (accT D am pa who (d + 1)).2 ∧ (accT D am pa who (d + 1)).2 ≤ (aheadT D who d).hi := by
  obtain ⟨⟨_, h1⟩, _, h2⟩ := tru_mid hg h who (d + 1)
  exact ⟨h2, h1⟩
theorem tru_open0 (who : Int) (d : Nat) : setT (progA D 0 who (d + 1)).1 &&& setX D am pa who d = setT (progA D 0 who (d + 1)).1 :=
  set_sub (open_sub (tru_mid hg h who (d + 1)).1.1 (by rw [nums_acc, nums_acc]))
theorem tru_open1 (who : Int) (d : Nat) : setX D am pa who d &&& setT (progA D 1 who (d + 1)).1 = setX D am pa who d :=
  set_sub (open_sub (tru_mid hg h who (d + 1)).2.1 (by rw [nums_acc, nums_acc]))
theorem sum_tru (d : Nat) : ∀ k : Nat, (sumT D d k).lo ≤ sumX D am pa d k ∧ sumX D am pa d k ≤ (sumT D d k).hi
  | 0 => ⟨Int.le_refl _, Int.le_refl _⟩
  | k + 1 => by
    have h1 := sum_tru d k
    have h2 := tru_left hg h (k : Int) d
    show (sumT D d k).lo + (leftT D k d).lo ≤ sumX D am pa d k + total (accT D am pa (k : Int) (d + 1)).1 ∧ sumX D am pa d k + total (accT D am pa (k : Int) (d + 1)).1 ≤ (sumT D d k).hi + (leftT D k d).hi
    omega
end
attribute [local irreducible] leftT aheadT gradeS setT sumT trA trP acc0
variable (D : Debt) (uo po : Option Addr) (uc pc : Nat)
set_option maxHeartbeats 4000000 in
theorem trues_not (w0 : Nat) (b0 : w0 ≤ 255) (w1 : Nat) (b1 : w1 ≤ 255) (bys : List Int) (ba : Option Addr) (bc : Nat) (hu : U16l bys) (hbl : bys.length ≤ 9223372036854775807) (hfg : ¬ (¬ farD D ∧ GoodD D)) : FnV Tryd.prog 5 [valD D uo po uc pc, .int .u8 w0, .int .u8 w1, .slice ba bys.length bc] [rowD uo 5 encD D.dues, rowD po 4 encP D.paid, rowD (some ⟨0, 0, none⟩) 1 encE ([0, 1] : List Nat), rowD ba 1 encH bys] (.bool true) := by
  refine FnV.intro Tryd.call5 Tryd.func5 rfl Tryd.ntmps5 rfl ?_
  intro W M Rf
  refine r_seq ?_
  refine r_region ?_
  refine o_boxA rfl rfl rfl rfl rfl (fun b4 => ?_)
  refine o_q _ rfl rfl rfl (v_assign rfl rfl) ?_
  refine o_nil ?_
  repeat (first | with_reducible refine r_then ?_ | with_reducible refine r_in_normal ?_ | with_reducible refine r_sc_normal ?_)
  refine r_seq ?_
  refine r_seq ?_
  refine r_region ?_
  first | refine o_q _ rfl rfl rfl (v_ldW rfl Tryd.underlying25 rfl inf25 rfl rfl) ?_ | refine o_q _ rfl rfl rfl (v_lfW rfl Tryd.underlying25 rfl inf25 rfl rfl) ?_ | refine o_q _ rfl rfl rfl (v_lfN rfl Tryd.underlying25 rfl inf25 rfl rfl rfl) ?_ | refine o_q _ rfl rfl rfl (v_ldN rfl Tryd.underlying25 rfl inf25 rfl rfl rfl) ?_ | refine o_q _ rfl rfl rfl (v_loadEN rfl Tryd.underlying25 rfl inf25 rfl (by omega) rfl rfl rfl) ?_
  refine o_q _ rfl rfl rfl (v_cast (v := .bool false) (OpQ.fn (fine_v D uo po uc pc) rfl rfl SubRC.sub) (congrArg Value.bool (decide_eq_false hfg))) ?_
  refine o_q _ rfl rfl rfl (v_not rfl rfl) ?_
  refine o_nil ?_
  repeat (first | with_reducible refine r_then ?_ | with_reducible refine r_in_normal ?_ | with_reducible refine r_sc_normal ?_)
  first | refine r_condd rfl (fun hc29 => ?_) (fun hc29 => ?_) | refine r_cond rfl (fun hc29 => ?_) (fun hc29 => ?_)
  ·
    first
    | (exfalso; revert hc29; decide)
    | (exfalso; omega)
    | skip
      refine r_seq ?_
      refine r_region ?_
      refine o_q _ rfl rfl rfl (OpQ.fn awake_v rfl rfl SubRC.sub) ?_
      refine o_q _ rfl rfl rfl (v_assign rfl rfl) ?_
      refine o_nil ?_
      repeat (first | with_reducible refine r_then ?_ | with_reducible refine r_in_normal ?_ | with_reducible refine r_sc_normal ?_)
      refine r_ret ?_
      repeat (first | with_reducible refine r_then_ret ?_ | with_reducible refine r_in_ret ?_ | with_reducible refine r_sc_ret ?_)
      exact r_retv2 (Rd.tmp rfl rfl) rfl SelMC.sel SubRC.sub
  ·
    first
    | (exfalso; revert hc29; decide)
    | (exfalso; omega)
    | skip
      refine r_skip ?_
      repeat (first | with_reducible refine r_then ?_ | with_reducible refine r_in_normal ?_ | with_reducible refine r_sc_normal ?_)
      refine r_seq ?_
      skip
set_option maxHeartbeats 4000000 in
theorem trues_ok (w0 : Nat) (b0 : w0 ≤ 255) (w1 : Nat) (b1 : w1 ≤ 255) (bys : List Int) (ba : Option Addr) (bc : Nat) (hu : U16l bys) (hbl : bys.length ≤ 9223372036854775807) (dk : Nat) (hdk : w1 % 31 = dk) (hf : ¬ farD D) (hg : GoodD D) : FnV Tryd.prog 5 [valD D uo po uc pc, .int .u8 w0, .int .u8 w1, .slice ba bys.length bc] [rowD uo 5 encD D.dues, rowD po 4 encP D.paid, rowD (some ⟨0, 0, none⟩) 1 encE ([0, 1] : List Nat), rowD ba 1 encH bys] (.bool true) := by
  have hf2 := hf
  unfold farD at hf2
  have hl1 : D.dues.length ≤ 40 := by omega
  have hl2 : D.paid.length ≤ 40 := by omega
  have hp1 := hg.np
  have hp2 := hg.nd
  have hp3 := hg.ny
  have hdp : dk ≤ 30 := by omega
  have htr := tr_tru hg hu
  refine FnV.intro Tryd.call5 Tryd.func5 rfl Tryd.ntmps5 rfl ?_
  intro W M Rf
  refine r_seq ?_
  refine r_region ?_
  refine o_boxA rfl rfl rfl rfl rfl (fun b4 => ?_)
  refine o_q _ rfl rfl rfl (v_assign rfl rfl) ?_
  refine o_nil ?_
  repeat (first | with_reducible refine r_then ?_ | with_reducible refine r_in_normal ?_ | with_reducible refine r_sc_normal ?_)
  refine r_seq ?_
  refine r_seq ?_
  refine r_region ?_
  first | refine o_q _ rfl rfl rfl (v_ldW rfl Tryd.underlying25 rfl inf25 rfl rfl) ?_ | refine o_q _ rfl rfl rfl (v_lfW rfl Tryd.underlying25 rfl inf25 rfl rfl) ?_ | refine o_q _ rfl rfl rfl (v_lfN rfl Tryd.underlying25 rfl inf25 rfl rfl rfl) ?_ | refine o_q _ rfl rfl rfl (v_ldN rfl Tryd.underlying25 rfl inf25 rfl rfl rfl) ?_ | refine o_q _ rfl rfl rfl (v_loadEN rfl Tryd.underlying25 rfl inf25 rfl (by omega) rfl rfl rfl) ?_
  refine o_q _ rfl rfl rfl (v_cast (v := .bool true) (OpQ.fn (fine_v D uo po uc pc) rfl rfl SubRC.sub) (congrArg Value.bool (decide_eq_true ⟨hf, hg⟩))) ?_
  refine o_q _ rfl rfl rfl (v_not rfl rfl) ?_
  refine o_nil ?_
  repeat (first | with_reducible refine r_then ?_ | with_reducible refine r_in_normal ?_ | with_reducible refine r_sc_normal ?_)
  first | refine r_condd rfl (fun hc29 => ?_) (fun hc29 => ?_) | refine r_cond rfl (fun hc29 => ?_) (fun hc29 => ?_)
  ·
    first
    | (exfalso; revert hc29; decide)
    | (exfalso; omega)
    | skip
      refine r_seq ?_
      refine r_region ?_
      refine o_q _ rfl rfl rfl (OpQ.fn awake_v rfl rfl SubRC.sub) ?_
      refine o_q _ rfl rfl rfl (v_assign rfl rfl) ?_
      refine o_nil ?_
      repeat (first | with_reducible refine r_then ?_ | with_reducible refine r_in_normal ?_ | with_reducible refine r_sc_normal ?_)
      refine r_ret ?_
      repeat (first | with_reducible refine r_then_ret ?_ | with_reducible refine r_in_ret ?_ | with_reducible refine r_sc_ret ?_)
      first | exact r_retv2 (Rd.tmp rfl rfl) rfl SelMC.sel SubRC.sub | (exfalso; omega)
  ·
    first
    | (exfalso; revert hc29; decide)
    | (exfalso; omega)
    | skip
      refine r_skip ?_
      repeat (first | with_reducible refine r_then ?_ | with_reducible refine r_in_normal ?_ | with_reducible refine r_sc_normal ?_)
      refine r_seq ?_
      refine r_region ?_
      first | refine o_q _ rfl rfl rfl (v_ldW rfl Tryd.underlying25 rfl inf25 rfl rfl) ?_ | refine o_q _ rfl rfl rfl (v_lfW rfl Tryd.underlying25 rfl inf25 rfl rfl) ?_ | refine o_q _ rfl rfl rfl (v_lfN rfl Tryd.underlying25 rfl inf25 rfl rfl rfl) ?_ | refine o_q _ rfl rfl rfl (v_ldN rfl Tryd.underlying25 rfl inf25 rfl rfl rfl) ?_ | refine o_q _ rfl rfl rfl (v_loadEN rfl Tryd.underlying25 rfl inf25 rfl (by omega) rfl rfl rfl) ?_
      refine o_q _ rfl rfl rfl (v_move rfl rfl) ?_
      refine o_fn (truly_r D uo po uc pc hg bys ba bc hu hbl) rfl rfl rfl rfl rfl SubRC.sub (fun v33 hv33 => ?_)
      obtain ⟨ao, ac, qo, qc, rfl⟩ := hv33
      refine Imp.derive (ψ := rowD ao 1 encI (trA D bys D.dues.length)) ?_ (fun V hV => hV _ (by simp [facTr, adrAt, adr]))
      refine Imp.derive (ψ := rowD qo 1 encI (trP D bys D.paid.length)) ?_ (fun V hV => hV _ (by simp [facTr, adrAt, adr]))
      refine o_q _ rfl rfl rfl (v_move rfl rfl) ?_
      refine o_q _ rfl rfl rfl (v_conv rfl Tryd.underlying5 Tryd.underlying3 rfl (IntWalk.i64_in _ (by omega))) ?_
      refine o_q _ rfl rfl rfl (v_cast (v := i64 (dk : Nat)) (v_rem rfl rfl rfl (by omega)) (tmodE hdk (by omega))) ?_
      refine o_alloc rfl inf43 rfl rfl rfl rfl rfl (fun b9 => ?_)
      refine o_st rfl inf43 rfl rfl rfl rfl rfl rfl rfl rfl ?_
      refine o_q _ rfl rfl rfl (v_assign rfl rfl) ?_
      refine o_q _ rfl rfl rfl (v_assign rfl rfl) ?_
      refine o_nil ?_
      repeat (first | with_reducible refine r_then ?_ | with_reducible refine r_in_normal ?_ | with_reducible refine r_sc_normal ?_)
      refine r_seq ?_
      refine r_seq ?_
      refine r_region ?_
      first | refine o_q _ rfl rfl rfl (v_fieldAddr rfl Tryd.underlying25 inf3 rfl rfl rfl rfl) ?_ | refine o_q _ rfl rfl rfl (v_fieldAddrE rfl Tryd.underlying25 inf3 rfl rfl rfl rfl) ?_
      first | refine o_q _ rfl rfl rfl (v_ld1 rfl Tryd.underlying3 rfl rfl rfl) ?_ | refine o_q _ rfl rfl rfl (v_lf1 rfl Tryd.underlying3 rfl rfl rfl) ?_ | refine o_q _ rfl rfl rfl (v_loadE1 rfl Tryd.underlying3 rfl rfl (by omega) rfl rfl) ?_
      refine o_q _ rfl rfl rfl (v_move rfl rfl) ?_
      refine o_nil ?_
      repeat (first | with_reducible refine r_then ?_ | with_reducible refine r_in_normal ?_ | with_reducible refine r_sc_normal ?_)
      refine r_block ?_
      refine r_loop (ι := Nat) (fun k => (k : Int) ≤ D.people) (fun k => [(4, pt b4 0), (9, pt b9 0), (10, i64 (dk : Int)), (11, i64 (sumX D (trA D bys D.dues.length) (trP D bys D.paid.length) dk k)), (38, i64 D.people), (39, i64 (k : Int))]) (fun k => bx b9 43 [.slice ao (trA D bys D.dues.length).length ac, .slice qo (trP D bys D.paid.length).length qc] :: bx b4 25 (cellsD D uo po uc pc) :: M) (fun k => rowD ao 1 encI (trA D bys D.dues.length) :: rowD qo 1 encI (trP D bys D.paid.length) :: ([rowD uo 5 encD D.dues, rowD po 4 encP D.paid, rowD (some ⟨0, 0, none⟩) 1 encE ([0, 1] : List Nat), rowD ba 1 encH bys] ++ Rf)) (fun k => D.people.toNat - k) 0 ?_ ?_ ?_
      ·
        refine Imp.box_to b9 [.slice ao (trA D bys D.dues.length).length ac, .slice qo (trP D bys D.paid.length).length qc] rfl ?_
        exact r_here (by repeat (first | exact FSub.nil | refine FSub.cons rfl ?_)) SelMC.sel SubRC.sub
      ·
        show ((0 : Nat) : Int) ≤ D.people; omega
      ·
        rintro k hI0
        refine r_seq ?_
        refine r_region ?_
        refine o_q _ rfl rfl rfl (v_lss rfl rfl rfl) ?_
        refine o_nil ?_
        repeat (first | with_reducible refine r_then ?_ | with_reducible refine r_in_normal ?_ | with_reducible refine r_sc_normal ?_)
        refine r_seq ?_
        first | refine r_condd rfl (fun hc40 => ?_) (fun hc40 => ?_) | refine r_cond rfl (fun hc40 => ?_) (fun hc40 => ?_)
        ·
          first
          | (exfalso; revert hc40; decide)
          | (exfalso; omega)
          | skip
            refine r_skip ?_
            repeat (first | with_reducible refine r_then ?_ | with_reducible refine r_in_normal ?_ | with_reducible refine r_sc_normal ?_)
            refine r_seq ?_
            refine r_block ?_
            refine r_seq ?_
            refine r_region ?_
            refine o_q _ rfl rfl rfl (v_move rfl rfl) ?_
            refine o_q _ rfl rfl rfl (v_assign rfl rfl) ?_
            refine o_nil ?_
            repeat (first | with_reducible refine r_then ?_ | with_reducible refine r_in_normal ?_ | with_reducible refine r_sc_normal ?_)
            refine r_seq ?_
            have htl := tru_left hg htr (k : Int) dk
            have hta := tru_ahead hg htr (k : Int) dk
            have hlb := left_bd hg (k : Int) hdp
            have hg2 := grade2_iff hg (k : Int) dk
            have hg0 := grade0_iff hg (k : Int) hdp
            have hst := sum_tru hg htr dk k
            have hsb := sum_bd hg hdp k
            refine r_region ?_
            first | refine o_q _ rfl rfl rfl (v_ldW rfl Tryd.underlying25 rfl inf25 rfl rfl) ?_ | refine o_q _ rfl rfl rfl (v_lfW rfl Tryd.underlying25 rfl inf25 rfl rfl) ?_ | refine o_q _ rfl rfl rfl (v_lfN rfl Tryd.underlying25 rfl inf25 rfl rfl rfl) ?_ | refine o_q _ rfl rfl rfl (v_ldN rfl Tryd.underlying25 rfl inf25 rfl rfl rfl) ?_ | refine o_q _ rfl rfl rfl (v_loadEN rfl Tryd.underlying25 rfl inf25 rfl (by omega) rfl rfl rfl) ?_
            first | refine o_q _ rfl rfl rfl (v_ldW rfl Tryd.underlying43 rfl inf43 rfl rfl) ?_ | refine o_q _ rfl rfl rfl (v_lfW rfl Tryd.underlying43 rfl inf43 rfl rfl) ?_ | refine o_q _ rfl rfl rfl (v_lfN rfl Tryd.underlying43 rfl inf43 rfl rfl rfl) ?_ | refine o_q _ rfl rfl rfl (v_ldN rfl Tryd.underlying43 rfl inf43 rfl rfl rfl) ?_ | refine o_q _ rfl rfl rfl (v_loadEN rfl Tryd.underlying43 rfl inf43 rfl (by omega) rfl rfl rfl) ?_
            refine o_q _ rfl rfl rfl (v_move rfl rfl) ?_
            refine o_q _ rfl rfl rfl (v_move rfl rfl) ?_
            refine o_q _ rfl rfl rfl (OpQ.fn (day32_v D uo po uc pc (trA D bys D.dues.length) (trP D bys D.paid.length) ao qo ac qc hg htr (k : Int) dk hdp) rfl rfl SubRC.sub) ?_
            refine o_q _ rfl rfl rfl (v_move rfl rfl) ?_
            refine o_q _ rfl rfl rfl (v_extract rfl rfl rfl) ?_
            refine o_q _ rfl rfl rfl (v_extract rfl rfl rfl) ?_
            refine o_q _ rfl rfl rfl (v_extract rfl rfl rfl) ?_
            refine o_q _ rfl rfl rfl (v_assign rfl rfl) ?_
            refine o_q _ rfl rfl rfl (v_assign rfl rfl) ?_
            refine o_q _ rfl rfl rfl (v_assign rfl rfl) ?_
            refine o_nil ?_
            repeat (first | with_reducible refine r_then ?_ | with_reducible refine r_in_normal ?_ | with_reducible refine r_sc_normal ?_)
            refine r_seq ?_
            refine r_region ?_
            refine o_q _ rfl rfl rfl (v_move rfl rfl) ?_
            refine o_q _ rfl rfl rfl (v_move rfl rfl) ?_
            refine o_q _ rfl rfl rfl (v_add rfl rfl rfl (by omega)) ?_
            refine o_q _ rfl rfl rfl (v_assign rfl rfl) ?_
            refine o_nil ?_
            repeat (first | with_reducible refine r_then ?_ | with_reducible refine r_in_normal ?_ | with_reducible refine r_sc_normal ?_)
            refine r_seq ?_
            refine Imp.box_to b9 [.slice ao (trA D bys D.dues.length).length ac, .slice qo (trP D bys D.paid.length).length qc] rfl ?_
            refine r_region ?_
            first | refine o_q _ rfl rfl rfl (v_ldW rfl Tryd.underlying25 rfl inf25 rfl rfl) ?_ | refine o_q _ rfl rfl rfl (v_lfW rfl Tryd.underlying25 rfl inf25 rfl rfl) ?_ | refine o_q _ rfl rfl rfl (v_lfN rfl Tryd.underlying25 rfl inf25 rfl rfl rfl) ?_ | refine o_q _ rfl rfl rfl (v_ldN rfl Tryd.underlying25 rfl inf25 rfl rfl rfl) ?_ | refine o_q _ rfl rfl rfl (v_loadEN rfl Tryd.underlying25 rfl inf25 rfl (by omega) rfl rfl rfl) ?_
            refine o_q _ rfl rfl rfl (v_move rfl rfl) ?_
            refine o_q _ rfl rfl rfl (v_move rfl rfl) ?_
            refine o_q _ rfl rfl rfl (v_cast (v := .tuple #[vS (leftT D (k : Int) dk), i64 0]) (OpQ.fn (left14_v D uo po uc pc (k : Int) (dk : Int) hl1 hl2) rfl rfl SubRC.sub) (by rw [leftB_ok hg (w := k) (d := dk) (by omega) (by omega)]; try rfl)) ?_
            refine o_q _ rfl rfl rfl (v_move rfl rfl) ?_
            refine o_q _ rfl rfl rfl (v_extract rfl rfl rfl) ?_
            refine o_q _ rfl rfl rfl (v_extract rfl rfl rfl) ?_
            refine o_alloc rfl inf29 rfl rfl rfl rfl rfl (fun b16 => ?_)
            refine o_st rfl inf29 rfl rfl rfl rfl rfl rfl rfl rfl ?_
            refine o_q _ rfl rfl rfl (v_assign rfl rfl) ?_
            refine o_nil ?_
            repeat (first | with_reducible refine r_then ?_ | with_reducible refine r_in_normal ?_ | with_reducible refine r_sc_normal ?_)
            refine r_seq ?_
            refine r_region ?_
            first | refine o_q _ rfl rfl rfl (v_ldW rfl Tryd.underlying25 rfl inf25 rfl rfl) ?_ | refine o_q _ rfl rfl rfl (v_lfW rfl Tryd.underlying25 rfl inf25 rfl rfl) ?_ | refine o_q _ rfl rfl rfl (v_lfN rfl Tryd.underlying25 rfl inf25 rfl rfl rfl) ?_ | refine o_q _ rfl rfl rfl (v_ldN rfl Tryd.underlying25 rfl inf25 rfl rfl rfl) ?_ | refine o_q _ rfl rfl rfl (v_loadEN rfl Tryd.underlying25 rfl inf25 rfl (by omega) rfl rfl rfl) ?_
            refine o_q _ rfl rfl rfl (v_move rfl rfl) ?_
            refine o_q _ rfl rfl rfl (v_move rfl rfl) ?_
            refine o_q _ rfl rfl rfl (v_cast (v := .tuple #[vS (aheadT D (k : Int) dk), i64 0]) (OpQ.fn (ahead16_v D uo po uc pc (k : Int) (dk : Int) hl1 hl2) rfl rfl SubRC.sub) (by rw [aheadB_ok hg (w := k) (d := dk) (by omega) (by omega)]; try rfl)) ?_
            refine o_q _ rfl rfl rfl (v_move rfl rfl) ?_
            refine o_q _ rfl rfl rfl (v_extract rfl rfl rfl) ?_
            refine o_q _ rfl rfl rfl (v_extract rfl rfl rfl) ?_
            refine o_alloc rfl inf29 rfl rfl rfl rfl rfl (fun b18 => ?_)
            refine o_st rfl inf29 rfl rfl rfl rfl rfl rfl rfl rfl ?_
            refine o_q _ rfl rfl rfl (v_assign rfl rfl) ?_
            refine o_nil ?_
            repeat (first | with_reducible refine r_then ?_ | with_reducible refine r_in_normal ?_ | with_reducible refine r_sc_normal ?_)
            refine r_seq ?_
            refine r_region ?_
            first | refine o_q _ rfl rfl rfl (v_ldW rfl Tryd.underlying25 rfl inf25 rfl rfl) ?_ | refine o_q _ rfl rfl rfl (v_lfW rfl Tryd.underlying25 rfl inf25 rfl rfl) ?_ | refine o_q _ rfl rfl rfl (v_lfN rfl Tryd.underlying25 rfl inf25 rfl rfl rfl) ?_ | refine o_q _ rfl rfl rfl (v_ldN rfl Tryd.underlying25 rfl inf25 rfl rfl rfl) ?_ | refine o_q _ rfl rfl rfl (v_loadEN rfl Tryd.underlying25 rfl inf25 rfl (by omega) rfl rfl rfl) ?_
            refine o_q _ rfl rfl rfl (v_move rfl rfl) ?_
            refine o_q _ rfl rfl rfl (v_move rfl rfl) ?_
            refine o_q _ rfl rfl rfl (v_cast (v := .tuple #[i64 (gradeS (leftT D (k : Int) dk)), i64 0]) (OpQ.fn (setl18_v D uo po uc pc (k : Int) (dk : Int) hl1 hl2) rfl rfl SubRC.sub) (by rw [setlB_ok hg (w := k) (d := dk) (by omega) (by omega)]; try rfl)) ?_
            refine o_q _ rfl rfl rfl (v_move rfl rfl) ?_
            refine o_q _ rfl rfl rfl (v_extract rfl rfl rfl) ?_
            refine o_q _ rfl rfl rfl (v_extract rfl rfl rfl) ?_
            refine o_q _ rfl rfl rfl (v_assign rfl rfl) ?_
            refine o_q _ rfl rfl rfl (v_assign rfl rfl) ?_
            refine o_nil ?_
            repeat (first | with_reducible refine r_then ?_ | with_reducible refine r_in_normal ?_ | with_reducible refine r_sc_normal ?_)
            refine r_seq ?_
            refine r_region ?_
            first | refine o_q _ rfl rfl rfl (v_ldW rfl Tryd.underlying25 rfl inf25 rfl rfl) ?_ | refine o_q _ rfl rfl rfl (v_lfW rfl Tryd.underlying25 rfl inf25 rfl rfl) ?_ | refine o_q _ rfl rfl rfl (v_lfN rfl Tryd.underlying25 rfl inf25 rfl rfl rfl) ?_ | refine o_q _ rfl rfl rfl (v_ldN rfl Tryd.underlying25 rfl inf25 rfl rfl rfl) ?_ | refine o_q _ rfl rfl rfl (v_loadEN rfl Tryd.underlying25 rfl inf25 rfl (by omega) rfl rfl rfl) ?_
            refine o_q _ rfl rfl rfl (v_move rfl rfl) ?_
            refine o_q _ rfl rfl rfl (v_move rfl rfl) ?_
            refine o_q _ rfl rfl rfl (v_cast (v := .tuple #[i64 (setT (progA D 0 (k : Int) (dk + 1)).1 : Nat), i64 (setT (progA D 1 (k : Int) (dk + 1)).1 : Nat), i64 0]) (OpQ.fn (open20_v D uo po uc pc (k : Int) (dk : Int) hl1 hl2) rfl rfl SubRC.sub) (by rw [openB_ok hg (w := k) (d := dk) (by omega) (by omega)]; try rfl)) ?_
            refine o_q _ rfl rfl rfl (v_move rfl rfl) ?_
            refine o_q _ rfl rfl rfl (v_extract rfl rfl rfl) ?_
            refine o_q _ rfl rfl rfl (v_extract rfl rfl rfl) ?_
            refine o_q _ rfl rfl rfl (v_extract rfl rfl rfl) ?_
            refine o_q _ rfl rfl rfl (v_assign rfl rfl) ?_
            refine o_q _ rfl rfl rfl (v_assign rfl rfl) ?_
            refine o_q _ rfl rfl rfl (v_assign rfl rfl) ?_
            refine o_nil ?_
            repeat (first | with_reducible refine r_then ?_ | with_reducible refine r_in_normal ?_ | with_reducible refine r_sc_normal ?_)
            refine r_seq ?_
            refine Imp.box_to b16 [i64 (leftT D (k : Int) dk).lo, i64 (leftT D (k : Int) dk).hi] rfl ?_
            refine Imp.box_to b18 [i64 (aheadT D (k : Int) dk).lo, i64 (aheadT D (k : Int) dk).hi] rfl ?_
            refine r_region ?_
            refine o_q _ rfl rfl rfl (v_move rfl rfl) ?_
            first | refine o_q _ rfl rfl rfl (v_true (v_neq rfl rfl rfl) (by omega)) ?_ | refine o_q _ rfl rfl rfl (v_false (v_neq rfl rfl rfl) (by omega)) ?_ | refine o_test rfl rfl rfl (v_neq rfl rfl rfl) (fun h84 => ?_) (fun h84 => ?_)
            all_goals
              refine o_q _ rfl rfl rfl (v_move rfl rfl) ?_
              first | refine o_gn rfl rfl rfl rfl ?_ | refine o_g _ rfl rfl rfl rfl (v_move rfl rfl) ?_
              first | refine o_gn rfl rfl rfl rfl ?_ | refine o_g _ rfl rfl rfl rfl (v_ldW rfl Tryd.underlying29 rfl inf29 rfl rfl) ?_ | refine o_g _ rfl rfl rfl rfl (v_lfW rfl Tryd.underlying29 rfl inf29 rfl rfl) ?_ | refine o_g _ rfl rfl rfl rfl (v_lfN rfl Tryd.underlying29 rfl inf29 rfl rfl rfl) ?_ | refine o_g _ rfl rfl rfl rfl (v_ldN rfl Tryd.underlying29 rfl inf29 rfl rfl rfl) ?_ | refine o_g _ rfl rfl rfl rfl (v_loadEN rfl Tryd.underlying29 rfl inf29 rfl (by omega) rfl rfl rfl) ?_
              first | refine o_gn rfl rfl rfl rfl ?_ | refine o_g _ rfl rfl rfl rfl (v_true (OpQ.fn (inside_v (total (accT D (trA D bys D.dues.length) (trP D bys D.paid.length) (k : Int) (dk + 1)).1) (leftT D (k : Int) dk)) rfl rfl SubRC.sub) (by omega)) ?_ | refine o_g _ rfl rfl rfl rfl (v_false (OpQ.fn (inside_v (total (accT D (trA D bys D.dues.length) (trP D bys D.paid.length) (k : Int) (dk + 1)).1) (leftT D (k : Int) dk)) rfl rfl SubRC.sub) (by omega)) ?_ | refine o_gtest rfl rfl rfl rfl (OpQ.fn (inside_v (total (accT D (trA D bys D.dues.length) (trP D bys D.paid.length) (k : Int) (dk + 1)).1) (leftT D (k : Int) dk)) rfl rfl SubRC.sub) (fun h88 => ?_) (fun h88 => ?_)
              all_goals
                first | refine o_gn rfl rfl rfl rfl ?_ | refine o_g _ rfl rfl rfl rfl (v_not rfl rfl) ?_
                first | refine o_q _ rfl rfl rfl (v_pick_t rfl rfl rfl) ?_ | refine o_q _ rfl rfl rfl (v_pick_f rfl rfl rfl) ?_
                refine o_q _ rfl rfl rfl (v_move rfl rfl) ?_
                first | refine o_gn rfl rfl rfl rfl ?_ | refine o_g _ rfl rfl rfl rfl (v_move rfl rfl) ?_
                first | refine o_gn rfl rfl rfl rfl ?_ | refine o_g _ rfl rfl rfl rfl (v_true (v_neq rfl rfl rfl) (by omega)) ?_ | refine o_g _ rfl rfl rfl rfl (v_false (v_neq rfl rfl rfl) (by omega)) ?_ | refine o_gtest rfl rfl rfl rfl (v_neq rfl rfl rfl) (fun h93 => ?_) (fun h93 => ?_)
                all_goals
                  first | refine o_q _ rfl rfl rfl (v_pick_t rfl rfl rfl) ?_ | refine o_q _ rfl rfl rfl (v_pick_f rfl rfl rfl) ?_
                  refine o_q _ rfl rfl rfl (v_move rfl rfl) ?_
                  first | refine o_gn rfl rfl rfl rfl ?_ | refine o_g _ rfl rfl rfl rfl (v_move rfl rfl) ?_
                  first | refine o_gn rfl rfl rfl rfl ?_ | refine o_g _ rfl rfl rfl rfl (v_ldW rfl Tryd.underlying29 rfl inf29 rfl rfl) ?_ | refine o_g _ rfl rfl rfl rfl (v_lfW rfl Tryd.underlying29 rfl inf29 rfl rfl) ?_ | refine o_g _ rfl rfl rfl rfl (v_lfN rfl Tryd.underlying29 rfl inf29 rfl rfl rfl) ?_ | refine o_g _ rfl rfl rfl rfl (v_ldN rfl Tryd.underlying29 rfl inf29 rfl rfl rfl) ?_ | refine o_g _ rfl rfl rfl rfl (v_loadEN rfl Tryd.underlying29 rfl inf29 rfl (by omega) rfl rfl rfl) ?_
                  first | refine o_gn rfl rfl rfl rfl ?_ | refine o_g _ rfl rfl rfl rfl (v_true (OpQ.fn (inside_v (accT D (trA D bys D.dues.length) (trP D bys D.paid.length) (k : Int) (dk + 1)).2 (aheadT D (k : Int) dk)) rfl rfl SubRC.sub) (by omega)) ?_ | refine o_g _ rfl rfl rfl rfl (v_false (OpQ.fn (inside_v (accT D (trA D bys D.dues.length) (trP D bys D.paid.length) (k : Int) (dk + 1)).2 (aheadT D (k : Int) dk)) rfl rfl SubRC.sub) (by omega)) ?_ | refine o_gtest rfl rfl rfl rfl (OpQ.fn (inside_v (accT D (trA D bys D.dues.length) (trP D bys D.paid.length) (k : Int) (dk + 1)).2 (aheadT D (k : Int) dk)) rfl rfl SubRC.sub) (fun h98 => ?_) (fun h98 => ?_)
                  all_goals
                    first | refine o_gn rfl rfl rfl rfl ?_ | refine o_g _ rfl rfl rfl rfl (v_not rfl rfl) ?_
                    first | refine o_q _ rfl rfl rfl (v_pick_t rfl rfl rfl) ?_ | refine o_q _ rfl rfl rfl (v_pick_f rfl rfl rfl) ?_
                    refine o_q _ rfl rfl rfl (v_move rfl rfl) ?_
                    first | refine o_gn rfl rfl rfl rfl ?_ | refine o_g _ rfl rfl rfl rfl (v_move rfl rfl) ?_
                    first | refine o_gn rfl rfl rfl rfl ?_ | refine o_g _ rfl rfl rfl rfl (v_true (v_neq rfl rfl rfl) (by omega)) ?_ | refine o_g _ rfl rfl rfl rfl (v_false (v_neq rfl rfl rfl) (by omega)) ?_ | refine o_gtest rfl rfl rfl rfl (v_neq rfl rfl rfl) (fun h103 => ?_) (fun h103 => ?_)
                    all_goals
                      first | refine o_q _ rfl rfl rfl (v_pick_t rfl rfl rfl) ?_ | refine o_q _ rfl rfl rfl (v_pick_f rfl rfl rfl) ?_
                      refine o_q _ rfl rfl rfl (v_move rfl rfl) ?_
                      first | refine o_gn rfl rfl rfl rfl ?_ | refine o_g _ rfl rfl rfl rfl (v_move rfl rfl) ?_
                      first | refine o_gn rfl rfl rfl rfl ?_ | refine o_g _ rfl rfl rfl rfl (v_true (v_eql rfl rfl rfl) (by omega)) ?_ | refine o_g _ rfl rfl rfl rfl (v_false (v_eql rfl rfl rfl) (by omega)) ?_ | refine o_gtest rfl rfl rfl rfl (v_eql rfl rfl rfl) (fun h107 => ?_) (fun h107 => ?_)
                      all_goals
                        first | refine o_gn rfl rfl rfl rfl ?_ | refine o_g _ rfl rfl rfl rfl (v_move rfl rfl) ?_
                        first | refine o_gn rfl rfl rfl rfl ?_ | refine o_g _ rfl rfl rfl rfl (v_move rfl rfl) ?_
                        first | refine o_gn rfl rfl rfl rfl ?_ | refine o_g _ rfl rfl rfl rfl (v_true (v_gtr rfl rfl rfl) (by omega)) ?_ | refine o_g _ rfl rfl rfl rfl (v_false (v_gtr rfl rfl rfl) (by omega)) ?_ | refine o_gtest rfl rfl rfl rfl (v_gtr rfl rfl rfl) (fun h110 => ?_) (fun h110 => ?_)
                        all_goals
                          first | refine o_gn rfl rfl rfl rfl ?_ | refine o_g _ rfl rfl rfl rfl (v_pick_t rfl rfl rfl) ?_ | refine o_g _ rfl rfl rfl rfl (v_pick_f rfl rfl rfl) ?_
                          first | refine o_q _ rfl rfl rfl (v_pick_t rfl rfl rfl) ?_ | refine o_q _ rfl rfl rfl (v_pick_f rfl rfl rfl) ?_
                          refine o_q _ rfl rfl rfl (v_move rfl rfl) ?_
                          first | refine o_gn rfl rfl rfl rfl ?_ | refine o_g _ rfl rfl rfl rfl (v_move rfl rfl) ?_
                          first | refine o_gn rfl rfl rfl rfl ?_ | refine o_g _ rfl rfl rfl rfl (v_true (v_eql rfl rfl rfl) (by omega)) ?_ | refine o_g _ rfl rfl rfl rfl (v_false (v_eql rfl rfl rfl) (by omega)) ?_ | refine o_gtest rfl rfl rfl rfl (v_eql rfl rfl rfl) (fun h115 => ?_) (fun h115 => ?_)
                          all_goals
                            first | refine o_gn rfl rfl rfl rfl ?_ | refine o_g _ rfl rfl rfl rfl (v_move rfl rfl) ?_
                            first | refine o_gn rfl rfl rfl rfl ?_ | refine o_g _ rfl rfl rfl rfl (v_move rfl rfl) ?_
                            first | refine o_gn rfl rfl rfl rfl ?_ | refine o_g _ rfl rfl rfl rfl (v_true (v_eql rfl rfl rfl) (by omega)) ?_ | refine o_g _ rfl rfl rfl rfl (v_false (v_eql rfl rfl rfl) (by omega)) ?_ | refine o_gtest rfl rfl rfl rfl (v_eql rfl rfl rfl) (fun h118 => ?_) (fun h118 => ?_)
                            all_goals
                              first | refine o_gn rfl rfl rfl rfl ?_ | refine o_g _ rfl rfl rfl rfl (v_pick_t rfl rfl rfl) ?_ | refine o_g _ rfl rfl rfl rfl (v_pick_f rfl rfl rfl) ?_
                              first | refine o_q _ rfl rfl rfl (v_pick_t rfl rfl rfl) ?_ | refine o_q _ rfl rfl rfl (v_pick_f rfl rfl rfl) ?_
                              refine o_q _ rfl rfl rfl (v_move rfl rfl) ?_
                              first | refine o_gn rfl rfl rfl rfl ?_ | refine o_g _ rfl rfl rfl rfl (v_move rfl rfl) ?_
                              first | refine o_gn rfl rfl rfl rfl ?_ | refine o_g _ rfl rfl rfl rfl (v_true (v_neq rfl rfl rfl) (by omega)) ?_ | refine o_g _ rfl rfl rfl rfl (v_false (v_neq rfl rfl rfl) (by omega)) ?_ | refine o_gtest rfl rfl rfl rfl (v_neq rfl rfl rfl) (fun h123 => ?_) (fun h123 => ?_)
                              all_goals
                                first | refine o_q _ rfl rfl rfl (v_pick_t rfl rfl rfl) ?_ | refine o_q _ rfl rfl rfl (v_pick_f rfl rfl rfl) ?_
                                refine o_q _ rfl rfl rfl (v_move rfl rfl) ?_
                                first | refine o_gn rfl rfl rfl rfl ?_ | refine o_g _ rfl rfl rfl rfl (v_move rfl rfl) ?_
                                first | refine o_gn rfl rfl rfl rfl ?_ | refine o_g _ rfl rfl rfl rfl (v_move rfl rfl) ?_
                                first | refine o_gn rfl rfl rfl rfl ?_ | refine o_g _ rfl rfl rfl rfl (v_andNot0 (a := setT (progA D 0 (k : Int) (dk + 1)).1) (b := (setX D (trA D bys D.dues.length) (trP D bys D.paid.length) (k : Int) dk)) rfl rfl rfl (tru_open0 hg htr _ _)) ?_
                                first | refine o_gn rfl rfl rfl rfl ?_ | refine o_g _ rfl rfl rfl rfl (v_true (v_neq rfl rfl rfl) (by omega)) ?_ | refine o_g _ rfl rfl rfl rfl (v_false (v_neq rfl rfl rfl) (by omega)) ?_ | refine o_gtest rfl rfl rfl rfl (v_neq rfl rfl rfl) (fun h129 => ?_) (fun h129 => ?_)
                                all_goals
                                  first | refine o_q _ rfl rfl rfl (v_pick_t rfl rfl rfl) ?_ | refine o_q _ rfl rfl rfl (v_pick_f rfl rfl rfl) ?_
                                  refine o_q _ rfl rfl rfl (v_move rfl rfl) ?_
                                  first | refine o_gn rfl rfl rfl rfl ?_ | refine o_g _ rfl rfl rfl rfl (v_move rfl rfl) ?_
                                  first | refine o_gn rfl rfl rfl rfl ?_ | refine o_g _ rfl rfl rfl rfl (v_move rfl rfl) ?_
                                  first | refine o_gn rfl rfl rfl rfl ?_ | refine o_g _ rfl rfl rfl rfl (v_andNot0 (a := (setX D (trA D bys D.dues.length) (trP D bys D.paid.length) (k : Int) dk)) (b := setT (progA D 1 (k : Int) (dk + 1)).1) rfl rfl rfl (tru_open1 hg htr _ _)) ?_
                                  first | refine o_gn rfl rfl rfl rfl ?_ | refine o_g _ rfl rfl rfl rfl (v_true (v_neq rfl rfl rfl) (by omega)) ?_ | refine o_g _ rfl rfl rfl rfl (v_false (v_neq rfl rfl rfl) (by omega)) ?_ | refine o_gtest rfl rfl rfl rfl (v_neq rfl rfl rfl) (fun h135 => ?_) (fun h135 => ?_)
                                  all_goals
                                    first | refine o_q _ rfl rfl rfl (v_pick_t rfl rfl rfl) ?_ | refine o_q _ rfl rfl rfl (v_pick_f rfl rfl rfl) ?_
                                    refine o_nil ?_
                                    repeat (first | with_reducible refine r_then ?_ | with_reducible refine r_in_normal ?_ | with_reducible refine r_sc_normal ?_)
                                    first | refine r_condd rfl (fun hc136 => ?_) (fun hc136 => ?_) | refine r_cond rfl (fun hc136 => ?_) (fun hc136 => ?_)
                                    ·
                                      first
                                      | (exfalso; revert hc136; decide)
                                      | (exfalso; omega)
                                      | skip
                                        refine r_seq ?_
                                        refine r_region ?_
                                        refine o_q _ rfl rfl rfl (v_assign rfl rfl) ?_
                                        refine o_nil ?_
                                        repeat (first | with_reducible refine r_then ?_ | with_reducible refine r_in_normal ?_ | with_reducible refine r_sc_normal ?_)
                                        refine r_ret ?_
                                        repeat (first | with_reducible refine r_then_ret ?_ | with_reducible refine r_in_ret ?_ | with_reducible refine r_sc_ret ?_)
                                        first | exact r_retv2 (Rd.tmp rfl rfl) rfl SelMC.sel SubRC.sub | (exfalso; omega)
                                    ·
                                      first
                                      | (exfalso; revert hc136; decide)
                                      | (exfalso; omega)
                                      | skip
                                        refine r_skip ?_
                                        repeat (first | with_reducible refine r_then ?_ | with_reducible refine r_in_normal ?_ | with_reducible refine r_sc_normal ?_)
                                        refine r_region ?_
                                        refine o_q _ rfl rfl rfl (v_add rfl rfl rfl (by omega)) ?_
                                        refine o_q _ rfl rfl rfl (v_move rfl rfl) ?_
                                        refine o_nil ?_
                                        repeat (first | with_reducible refine r_then ?_ | with_reducible refine r_in_normal ?_ | with_reducible refine r_sc_normal ?_)
                                        refine r_next (k + 1) ?_ ?_ ?_
                                        ·
                                          exact r_here (by repeat (first | exact FSub.nil | refine FSub.cons rfl ?_)) SelMC.sel SubRC.sub
                                        ·
                                          show ((k + 1 : Nat) : Int) ≤ D.people; omega
                                        ·
                                          omega
        ·
          first
          | (exfalso; revert hc40; decide)
          | (exfalso; omega)
          | skip
            refine r_exit ?_
            repeat (first | with_reducible refine r_then_exit ?_ | with_reducible refine r_sc_exit ?_ | with_reducible refine r_in_here ?_ | (with_reducible refine r_in_past (by decide) ?_) | with_reducible refine r_then ?_ | with_reducible refine r_in_normal ?_ | with_reducible refine r_sc_normal ?_)
            refine r_seq ?_
            obtain rfl : k = D.people.toNat := by omega
            refine r_region ?_
            first | refine o_q _ rfl rfl rfl (v_ldW rfl Tryd.underlying25 rfl inf25 rfl rfl) ?_ | refine o_q _ rfl rfl rfl (v_lfW rfl Tryd.underlying25 rfl inf25 rfl rfl) ?_ | refine o_q _ rfl rfl rfl (v_lfN rfl Tryd.underlying25 rfl inf25 rfl rfl rfl) ?_ | refine o_q _ rfl rfl rfl (v_ldN rfl Tryd.underlying25 rfl inf25 rfl rfl rfl) ?_ | refine o_q _ rfl rfl rfl (v_loadEN rfl Tryd.underlying25 rfl inf25 rfl (by omega) rfl rfl rfl) ?_
            refine o_q _ rfl rfl rfl (v_move rfl rfl) ?_
            refine o_q _ rfl rfl rfl (v_cast (v := .tuple #[vS (sumT D dk D.people.toNat), i64 0]) (OpQ.fn (sum24_v D uo po uc pc (dk : Int) hl1 hl2) rfl rfl SubRC.sub) (by rw [sumB_ok hg (d := dk) (by omega)]; try rfl)) ?_
            refine o_q _ rfl rfl rfl (v_move rfl rfl) ?_
            refine o_q _ rfl rfl rfl (v_extract rfl rfl rfl) ?_
            refine o_q _ rfl rfl rfl (v_extract rfl rfl rfl) ?_
            refine o_alloc rfl inf29 rfl rfl rfl rfl rfl (fun b25 => ?_)
            refine o_st rfl inf29 rfl rfl rfl rfl rfl rfl rfl rfl ?_
            refine o_q _ rfl rfl rfl (v_assign rfl rfl) ?_
            refine o_nil ?_
            repeat (first | with_reducible refine r_then ?_ | with_reducible refine r_in_normal ?_ | with_reducible refine r_sc_normal ?_)
            refine r_seq ?_
            have hst := sum_tru hg htr dk D.people.toNat
            refine Imp.box_to b25 [i64 (sumT D dk D.people.toNat).lo, i64 (sumT D dk D.people.toNat).hi] rfl ?_
            refine r_region ?_
            refine o_q _ rfl rfl rfl (v_move rfl rfl) ?_
            first | refine o_q _ rfl rfl rfl (v_true (v_eql rfl rfl rfl) (by omega)) ?_ | refine o_q _ rfl rfl rfl (v_false (v_eql rfl rfl rfl) (by omega)) ?_ | refine o_test rfl rfl rfl (v_eql rfl rfl rfl) (fun h145 => ?_) (fun h145 => ?_)
            all_goals
              refine o_q _ rfl rfl rfl (v_move rfl rfl) ?_
              first | refine o_gn rfl rfl rfl rfl ?_ | refine o_g _ rfl rfl rfl rfl (v_move rfl rfl) ?_
              first | refine o_gn rfl rfl rfl rfl ?_ | refine o_g _ rfl rfl rfl rfl (v_ldW rfl Tryd.underlying29 rfl inf29 rfl rfl) ?_ | refine o_g _ rfl rfl rfl rfl (v_lfW rfl Tryd.underlying29 rfl inf29 rfl rfl) ?_ | refine o_g _ rfl rfl rfl rfl (v_lfN rfl Tryd.underlying29 rfl inf29 rfl rfl rfl) ?_ | refine o_g _ rfl rfl rfl rfl (v_ldN rfl Tryd.underlying29 rfl inf29 rfl rfl rfl) ?_ | refine o_g _ rfl rfl rfl rfl (v_loadEN rfl Tryd.underlying29 rfl inf29 rfl (by omega) rfl rfl rfl) ?_
              first | refine o_gn rfl rfl rfl rfl ?_ | refine o_g _ rfl rfl rfl rfl (v_true (OpQ.fn (inside_v (sumX D (trA D bys D.dues.length) (trP D bys D.paid.length) dk D.people.toNat) (sumT D dk D.people.toNat)) rfl rfl SubRC.sub) (by omega)) ?_ | refine o_g _ rfl rfl rfl rfl (v_false (OpQ.fn (inside_v (sumX D (trA D bys D.dues.length) (trP D bys D.paid.length) dk D.people.toNat) (sumT D dk D.people.toNat)) rfl rfl SubRC.sub) (by omega)) ?_ | refine o_gtest rfl rfl rfl rfl (OpQ.fn (inside_v (sumX D (trA D bys D.dues.length) (trP D bys D.paid.length) dk D.people.toNat) (sumT D dk D.people.toNat)) rfl rfl SubRC.sub) (fun h149 => ?_) (fun h149 => ?_)
              all_goals
                first | refine o_q _ rfl rfl rfl (v_pick_t rfl rfl rfl) ?_ | refine o_q _ rfl rfl rfl (v_pick_f rfl rfl rfl) ?_
                refine o_q _ rfl rfl rfl (v_move rfl rfl) ?_
                first | refine o_gn rfl rfl rfl rfl ?_ | refine o_g _ rfl rfl rfl rfl (OpQ.fn awake_v rfl rfl SubRC.sub) ?_
                first | refine o_q _ rfl rfl rfl (v_pick_t rfl rfl rfl) ?_ | refine o_q _ rfl rfl rfl (v_pick_f rfl rfl rfl) ?_
                refine o_q _ rfl rfl rfl (v_assign rfl rfl) ?_
                refine o_nil ?_
                repeat (first | with_reducible refine r_then ?_ | with_reducible refine r_in_normal ?_ | with_reducible refine r_sc_normal ?_)
                refine r_ret ?_
                repeat (first | with_reducible refine r_then_ret ?_ | with_reducible refine r_in_ret ?_ | with_reducible refine r_sc_ret ?_)
                first | exact r_retv2 (Rd.tmp rfl rfl) rfl SelMC.sel SubRC.sub | (exfalso; omega)
theorem trues_v (w0 : Nat) (b0 : w0 ≤ 255) (w1 : Nat) (b1 : w1 ≤ 255) (bys : List Int) (ba : Option Addr) (bc : Nat) (hu : U16l bys) (hbl : bys.length ≤ 9223372036854775807) : FnV Tryd.prog 5 [valD D uo po uc pc, .int .u8 w0, .int .u8 w1, .slice ba bys.length bc] [rowD uo 5 encD D.dues, rowD po 4 encP D.paid, rowD (some ⟨0, 0, none⟩) 1 encE ([0, 1] : List Nat), rowD ba 1 encH bys] (.bool true) := by
  by_cases h : ¬ farD D ∧ GoodD D
  · exact trues_ok D uo po uc pc w0 b0 w1 b1 bys ba bc hu hbl _ rfl h.1 h.2
  · exact trues_not D uo po uc pc w0 b0 w1 b1 bys ba bc hu hbl h
end Go.Proofs.YtpfgiednfjfdmaaDoor

