/- Part 5 of 5 of what the proofs of this seat stand on: a small logic for walks, what the functions come to, and the walks themselves. No condition of its own. -/
import Derived.Test.YtoggggnlponfhaaU4
set_option linter.unusedVariables false
set_option linter.unusedSimpArgs false
namespace Go.Proofs.Ytoggggnlponfhaa
open Go.G Burst8
set_option maxRecDepth 1000000
attribute [local irreducible] G.ParO G.Fin
attribute [local irreducible] fw fwR fwC emptyT tabOf knownT canB boundsL
set_option maxHeartbeats 4000000 in
theorem draws_s (bys : List Int) (ba : Option Addr) (uc : Nat) : FnS Try.prog 79 [.slice ba bys.length uc] [] [] (fun e M' R' => ∃ ab bb, e = .returned (.func (.func 99) #[] #[pt ab 0, pt bb 0]) ∧ M' = [bx ab 3 [i64 ((0 : Nat) : Int)]] ∧ R' = [boxF bb 41 [.slice ba bys.length uc]]) := by
  refine FnS.intro0 Try.call79 Try.func79 rfl Try.ntmps79 rfl ?_
  intro W M Rf
  refine r_seq ?_
  refine r_region ?_
  refine o_box1 rfl rfl rfl rfl rfl rfl (fun b1 => ?_)
  refine o_q _ rfl rfl rfl (v_assign rfl rfl) ?_
  refine o_nil ?_
  with_reducible refine r_then ?_
  refine r_seq ?_
  refine r_region ?_
  refine o_alloc rfl inf3 rfl rfl rfl rfl rfl (fun b3 => ?_)
  refine o_st rfl inf3 rfl rfl rfl rfl rfl rfl rfl rfl ?_
  refine o_nil ?_
  with_reducible refine r_then ?_
  refine r_seq ?_
  refine Imp.sealB b1 ?_
  refine r_region ?_
  refine o_q _ rfl rfl rfl (v_makeFunc rfl rfl rfl) ?_
  refine o_q _ rfl rfl rfl (v_assign rfl rfl) ?_
  refine o_nil ?_
  with_reducible refine r_then ?_
  refine r_ret ?_
  refine Imp.box_to b3 [i64 ((0 : Nat) : Int)] rfl ?_
  exact r_rete [bx b3 3 [i64 ((0 : Nat) : Int)]] [boxF b1 41 [.slice ba bys.length uc]] (Rd.tmp rfl rfl) ⟨b3, b1, rfl, rfl, rfl⟩ SelMC.sel SubRC.sub
theorem o_draws {W : World} {n : Nat} {D : List Deferred} {L : Tm} {M : List Res} {R : List Fact} {Q : Exit → Act → World → Prop} {o : Oper} {ops : Array Oper} {rest : List Oper} {xs : List Operand} {ts : Array TypeId} {d : Nat} (bys : List Int) (ba : Option Addr) (uc : Nat)
    (ho : o.op = .call { callee := .value (.func 79), args := xs.toArray, argTypes := ts }) (hx : evs L xs = some [.slice ba bys.length uc]) (hg : o.guard = none) (hdst : o.dst = some d) (hd : Nat.blt d n = true)
    (hret : ∀ ab bb, Imp W n D ((d, .func (.func 99) #[] #[pt ab 0, pt bb 0]) :: L) (bx ab 3 [i64 ((0 : Nat) : Int)] :: M) (boxF bb 41 [.slice ba bys.length uc] :: R) (wpList Try.prog ops Q rest)) : Imp W n D L M R (wpList Try.prog ops Q (o :: rest)) := by
  refine o_call (draws_s bys ba uc) ho [] [] rfl hx (by simp) hg (by simp [okD, hdst, hd]) SelM.refl SubR.nil ?_ ?_ ?_
  · rintro v M' R' ⟨ab, bb, he, rfl, rfl⟩
    cases he
    rw [hdst]
    exact hret ab bb
  · rintro c M' R' ⟨ab, bb, he, _⟩; cases he
  · rintro M' R' ⟨ab, bb, he, _⟩; cases he
theorem tmod_natE {a b : Nat} : Value.int .i64 ((a : Int).tmod (b : Int)) = i64 ((a % b : Nat) : Int) := tmodV rfl
set_option maxHeartbeats 4000000 in
theorem draw1_c (bys : List Int) (ba : Option Addr) (uc : Nat) (hu : U16l bys) (hbl : bys.length ≤ 9223372036854775807) (ab bb k : Nat) (s : Burst8.Span) (hk : k ≤ 1000) (hs : s.lo ≤ s.hi) (h0 : -1000 ≤ s.lo) (h1 : s.hi ≤ 1000) : FnC Try.prog 99 [.agg #[i64 s.lo, i64 s.hi], pt ab 0, pt bb 0] (bx ab 3 [i64 k]) [boxF bb 41 [.slice ba bys.length uc], rowD ba 1 encH bys] (i64 (drawP bys (k + 1) s)) (bx ab 3 [i64 ((k + 1 : Nat) : Int)]) := by
  refine FnC.intro Try.call99 Try.func99 rfl Try.ntmps99 rfl ?_
  intro W M Rf
  refine r_seq ?_
  refine r_region ?_
  refine o_boxA rfl rfl rfl rfl rfl (fun b3 => ?_)
  refine o_q _ rfl rfl rfl (v_assign rfl rfl) ?_
  refine o_nil ?_
  with_reducible refine r_then ?_
  refine r_seq ?_
  refine Imp.box_to ab [i64 k] rfl ?_
  refine r_region ?_
  refine o_q _ rfl rfl rfl (v_ld1 rfl Try.underlying3 rfl rfl rfl) ?_
  refine o_q _ rfl rfl rfl (v_add rfl rfl rfl (by omega)) ?_
  refine o_st rfl inf3 rfl rfl rfl rfl rfl rfl rfl rfl ?_
  refine o_nil ?_
  with_reducible refine r_then ?_
  refine r_seq ?_
  refine r_seq ?_
  refine r_region ?_
  refine o_q _ rfl rfl rfl (v_lf1 rfl Try.underlying41 rfl rfl rfl) ?_
  refine o_q _ rfl rfl rfl (v_len rfl rfl Try.underlying41 rfl) ?_
  refine o_q _ rfl rfl rfl (v_eql rfl rfl rfl) ?_
  refine o_nil ?_
  with_reducible refine r_then ?_
  refine r_condd rfl (fun hc9 => ?_) (fun hc9 => ?_)
  ·
    refine r_seq ?_
    refine Imp.box_to ab [i64 ((k + 1 : Nat) : Int)] rfl ?_
    refine r_region ?_
    refine o_q _ rfl rfl rfl (v_fieldAddr rfl Try.underlying24 inf3 rfl rfl rfl rfl) ?_
    refine o_q _ rfl rfl rfl (v_ld1 rfl Try.underlying3 rfl rfl rfl) ?_
    refine o_q _ rfl rfl rfl (v_assign rfl rfl) ?_
    refine o_nil ?_
    with_reducible refine r_then ?_
    refine r_ret ?_
    with_reducible refine r_then_ret ?_
    exact r_rete [bx ab 3 [i64 ((k + 1 : Nat) : Int)]] [] (Rd.tmp rfl rfl) ⟨congrArg Ending.returned (congrArg (Value.int .i64) (drawP_0 (by assumption)).symm), rfl, rfl⟩ SelMC.sel SubRC.sub
  ·
    refine r_skip ?_
    with_reducible refine r_then ?_
    refine r_seq ?_
    have hpos : 0 < bys.length := by omega
    have hlt : (k + 1) % bys.length < bys.length := Nat.mod_lt _ hpos
    have hat := u16_at hu ((k + 1) % bys.length)
    refine Imp.box_to ab [i64 ((k + 1 : Nat) : Int)] rfl ?_
    refine r_region_q mixed (by kernel_rfl) ?_
    refine q_q _ rfl rfl rfl (v_fieldAddr rfl Try.underlying24 inf3 rfl rfl rfl rfl) ?_
    refine q_q _ rfl rfl rfl (v_ld1 rfl Try.underlying3 rfl rfl rfl) ?_
    refine q_q _ rfl rfl rfl (v_lf1 rfl Try.underlying41 rfl rfl rfl) ?_
    refine q_q _ rfl rfl rfl (v_ld1 rfl Try.underlying3 rfl rfl rfl) ?_
    refine q_q _ rfl rfl rfl (v_lf1 rfl Try.underlying41 rfl rfl rfl) ?_
    refine q_q _ rfl rfl rfl (v_len rfl rfl Try.underlying41 rfl) ?_
    refine q_q _ rfl rfl rfl (v_cast (v := i64 (((k + 1) % bys.length : Nat) : Int)) (v_rem rfl rfl rfl (by omega)) (tmod_natE (a := k + 1) (b := bys.length))) ?_
    refine q_q _ rfl rfl rfl (v_indexAddrSn rfl Try.underlying41 inf138 rfl rfl rfl (by omega) rfl) ?_
    refine q_q _ rfl rfl rfl (v_loadE1 (v := .int .u16 (bys.getD ((k + 1) % bys.length) 0)) rfl Try.underlying138 rfl rfl hlt rfl rfl) ?_
    refine q_q _ rfl rfl rfl (v_conv rfl Try.underlying138 Try.underlying3 rfl (IntWalk.i64_in _ (by omega))) ?_
    refine q_q _ rfl rfl rfl (v_ld1 rfl Try.underlying3 rfl rfl rfl) ?_
    refine q_q _ rfl rfl rfl (v_mul rfl rfl rfl (by omega)) ?_
    refine q_q _ rfl rfl rfl (v_add rfl rfl rfl (by omega)) ?_
    refine q_q _ rfl rfl rfl (v_fieldAddr rfl Try.underlying24 inf3 rfl rfl rfl rfl) ?_
    refine q_q _ rfl rfl rfl (v_ld1 rfl Try.underlying3 rfl rfl rfl) ?_
    refine q_q _ rfl rfl rfl (v_fieldAddr rfl Try.underlying24 inf3 rfl rfl rfl rfl) ?_
    refine q_q _ rfl rfl rfl (v_ld1 rfl Try.underlying3 rfl rfl rfl) ?_
    refine q_q _ rfl rfl rfl (v_sub rfl rfl rfl (by omega)) ?_
    refine q_q _ rfl rfl rfl (v_add rfl rfl rfl (by omega)) ?_
    refine q_q _ rfl rfl rfl (v_rem rfl rfl rfl (by omega)) ?_
    refine q_q _ rfl rfl rfl (v_add rfl rfl rfl (by have h2 := Int.tmod_nonneg (s.hi - s.lo + 1) (show 0 ≤ (bys.getD ((k + 1) % bys.length) 0) + 73 * ((k + 1 : Nat) : Int) by omega); have h3 := Int.tmod_lt_of_pos ((bys.getD ((k + 1) % bys.length) 0) + 73 * ((k + 1 : Nat) : Int)) (show 0 < s.hi - s.lo + 1 by omega); omega)) ?_
    refine q_q _ rfl rfl rfl (v_assign rfl rfl) ?_
    refine q_nil ?_
    with_reducible refine r_then ?_
    refine r_ret ?_
    exact r_rete [bx ab 3 [i64 ((k + 1 : Nat) : Int)]] [] (Rd.tmp rfl rfl) ⟨congrArg Ending.returned (congrArg (Value.int .i64) (drawP_1 (by assumption)).symm), rfl, rfl⟩ SelMC.sel SubRC.sub
variable (B : Bog) (bo ro so : Option Addr) (bc rc sc : Nat) (bb mb : Nat)
set_option maxHeartbeats 4000000 in
theorem truly_s (hg : GoodB B) (bys : List Int) (ba : Option Addr) (uc : Nat) (hu : U16l bys) (hbl : bys.length ≤ 9223372036854775807) : FnS Try.prog 31 [valB B bo ro so bc rc sc, .slice ba bys.length uc] [] [rowD ba 1 encH bys, rowD bo 4 encB B.banks, rowD ro 2 encS B.rain, rowD so 3 encG B.signs] (fun e M' R' => ∃ oz cz oe ce ow cw, e = .returned (.tuple #[valB (trulyB B (drawP bys)) bo ro oz bc rc cz, .slice oe (bearL B (drawP bys) B.banks.length).length ce, .slice ow (watL B (drawP bys) B.rain.length).length cw]) ∧ M' = [] ∧ R' = [rowD bo 4 encB (trulyB B (drawP bys)).banks, rowD ro 2 encS (trulyB B (drawP bys)).rain, rowD oz 3 encG (trulyB B (drawP bys)).signs, rowD oe 1 encI (bearL B (drawP bys) B.banks.length), rowD ow 1 encI (watL B (drawP bys) B.rain.length)]) := by
  have hb1 := hg.nb
  have hb2 := hg.nr
  have hb3 := hg.ns
  have hb4 := hg.w
  have hb5 := hg.dr
  refine FnS.intro0 Try.call31 Try.func31 rfl Try.ntmps31 rfl ?_
  intro W M Rf
  refine r_seq ?_
  refine r_region ?_
  refine o_boxA rfl rfl rfl rfl rfl (fun b2 => ?_)
  refine o_alloc rfl inf28 rfl rfl rfl rfl rfl (fun b4 => ?_)
  refine o_q _ rfl rfl rfl (v_assign rfl rfl) ?_
  refine o_q _ rfl rfl rfl (v_assign rfl rfl) ?_
  refine o_nil ?_
  with_reducible refine r_then ?_
  refine r_seq ?_
  refine r_region ?_
  refine o_q _ rfl rfl rfl (v_move rfl rfl) ?_
  refine o_draws bys ba uc rfl rfl rfl rfl rfl (fun ab bb => ?_)
  all_goals
    refine o_q _ rfl rfl rfl (v_assign rfl rfl) ?_
    refine o_nil ?_
    with_reducible refine r_then ?_
    refine r_seq ?_
    refine r_seq ?_
    refine r_region ?_
    refine o_q _ rfl rfl rfl (v_fieldAddr rfl Try.underlying28 inf22 rfl rfl rfl rfl) ?_
    refine o_q _ rfl rfl rfl (v_ld1 rfl Try.underlying22 rfl rfl rfl) ?_
    refine o_q _ rfl rfl rfl (v_len rfl rfl Try.underlying22 rfl) ?_
    refine o_q _ rfl rfl rfl (v_move rfl rfl) ?_
    refine o_nil ?_
    with_reducible refine r_then ?_
    refine r_block ?_
    refine r_loop (ι := Nat × Value) (fun gh => gh.1 ≤ B.banks.length) (fun gh => [(2, pt b2 0), (4, pt b4 0), (5, gh.2), (6, .slice none 0 0), (7, .func (.func 99) #[] #[pt ab 0, pt bb 0]), (22, .slice bo B.banks.length bc), (23, i64 B.banks.length), (24, i64 gh.1)]) (fun gh => ownL gh.2 3 1 encI (bearL B (drawP bys) gh.1) :: bx b4 28 [.slice none 0 0, i64 0, i64 0, .slice none 0 0, i64 0, .slice none 0 0] :: bx ab 3 [i64 ((2 * gh.1 : Nat) : Int)] :: bx b2 28 (cellsB B bo ro so bc rc sc) :: M) (fun gh => boxF bb 41 [.slice ba bys.length uc] :: ([rowD ba 1 encH bys, rowD bo 4 encB B.banks, rowD ro 2 encS B.rain, rowD so 3 encG B.signs] ++ Rf)) (fun gh => B.banks.length - gh.1) (0, .slice none 0 0) ?_ ?_ ?_
    ·
      refine Imp.nilL 3 1 encI ?_
      refine Imp.own_to (.slice none 0 0) (bearL B (drawP bys) 0) rfl ?_
      refine Imp.box_to b4 [.slice none 0 0, i64 0, i64 0, .slice none 0 0, i64 0, .slice none 0 0] rfl ?_
      refine Imp.box_to ab [i64 ((2 * 0 : Nat) : Int)] rfl ?_
      exact r_here (by repeat (first | exact FSub.nil | refine FSub.cons rfl ?_)) SelMC.sel SubRC.sub
    ·
      exact Nat.zero_le _
    ·
      rintro ⟨k, v⟩ hI0
      dsimp only at hI0
      dsimp only
      have hI : k ≤ B.banks.length := hI0
      have hln := bearL_len B (drawP bys) k
      have hbk : k < B.banks.length → (0 ≤ (B.banks.getD k default).blo ∧ (B.banks.getD k default).blo ≤ (B.banks.getD k default).bhi ∧ (B.banks.getD k default).bhi ≤ 60) ∧ (0 ≤ (B.banks.getD k default).clo ∧ (B.banks.getD k default).clo ≤ (B.banks.getD k default).chi ∧ (B.banks.getD k default).chi ≤ 20) := fun h => hg.banks k h
      refine r_seq ?_
      refine r_region ?_
      refine o_q _ rfl rfl rfl (v_lss rfl rfl rfl) ?_
      refine o_nil ?_
      with_reducible refine r_then ?_
      refine r_seq ?_
      refine r_condd rfl (fun hc25 => ?_) (fun hc25 => ?_)
      ·
        refine r_skip ?_
        with_reducible refine r_then ?_
        refine r_seq ?_
        refine r_block ?_
        refine r_seq ?_
        refine r_region ?_
        refine o_q _ rfl rfl rfl (v_indexAddrSn rfl Try.underlying22 inf58 rfl rfl rfl (by omega) rfl) ?_
        refine o_q _ rfl rfl rfl (v_cast (v := .agg #[i64 (B.banks.getD k default).blo, i64 (B.banks.getD k default).bhi, i64 (B.banks.getD k default).clo, i64 (B.banks.getD k default).chi]) (v_loadEN rfl Try.underlying58 rfl inf58 rfl (by omega) rfl rfl rfl) rfl) ?_
        refine o_alloc rfl inf58 rfl rfl rfl rfl rfl (fun b9 => ?_)
        refine o_st rfl inf58 rfl rfl rfl rfl rfl rfl rfl rfl ?_
        refine o_nil ?_
        with_reducible refine r_then ?_
        refine r_parC1 (bx ab 3 [i64 ((2 * k : Nat) : Int)]) 11 mixed (by kernel_rfl) (by rfl) ?_
        refine p_q _ rfl rfl rfl (fun _ _ => v_move rfl rfl) ?_
        refine p_q _ rfl rfl rfl (fun _ _ => v_move rfl rfl) ?_
        refine p_q _ rfl rfl rfl (fun _ _ => v_fieldAddr rfl Try.underlying58 inf24 rfl rfl rfl rfl) ?_
        refine p_q _ rfl rfl rfl (fun _ _ => v_ldN rfl Try.underlying24 rfl inf24 rfl rfl rfl) ?_
        refine p_fncL 8 (bx ab 3 [i64 ((2 * k + 1 + 1 : Nat) : Int)]) (draw1_c bys ba uc hu hbl ab bb (2 * k) ⟨(B.banks.getD k default).blo, (B.banks.getD k default).bhi⟩ (by omega) (by show (B.banks.getD k default).blo ≤ (B.banks.getD k default).bhi; omega) (by show -1000 ≤ (B.banks.getD k default).blo; omega) (by show (B.banks.getD k default).bhi ≤ 1000; omega)) rfl [] [pt ab 0, pt bb 0] rfl rfl rfl rfl rfl rfl SubRC.sub ?_
        refine p_q _ rfl rfl rfl (fun _ _ => v_move rfl rfl) ?_
        refine p_q _ rfl rfl rfl (fun _ _ => v_fieldAddr rfl Try.underlying58 inf24 rfl rfl rfl rfl) ?_
        refine p_q _ rfl rfl rfl (fun _ _ => v_ldN rfl Try.underlying24 rfl inf24 rfl rfl rfl) ?_
        refine p_acc (by simp only [List.nil_append, List.cons_append]; rfl) ?_
        refine p_fncT 4 (draw1_c bys ba uc hu hbl ab bb (2 * k + 1) ⟨(B.banks.getD k default).clo, (B.banks.getD k default).chi⟩ (by omega) (by show (B.banks.getD k default).clo ≤ (B.banks.getD k default).chi; omega) (by show -1000 ≤ (B.banks.getD k default).clo; omega) (by show (B.banks.getD k default).chi ≤ 1000; omega)) rfl [] [pt ab 0, pt bb 0] rfl rfl (by kernel_rfl) rfl rfl rfl rfl rfl rfl rfl SubRC.sub ?_
        refine p_acc (by simp only [List.nil_append, List.cons_append]; rfl) ?_
        refine p_depC 4 rfl rfl (by kernel_rfl) rfl rfl rfl (fun _ _ => v_cast (v := i64 (bearF B (drawP bys) k)) (v_sub rfl rfl rfl (by have := bear_bd hg (drawP_in hu) (i := k) (by omega); unfold bearF at this; rw [show 2 * k + 2 = 2 * k + 1 + 1 from rfl] at this; omega)) rfl) ?_
        refine p_lit rfl Try.underlying43 inf3 rfl rfl rfl rfl rfl rfl rfl rfl (by repeat (first | exact trivial | refine ⟨rfl, ?_⟩)) (by rfl) ?_
        refine p_nil2 (by simp only [List.nil_append, List.cons_append]; rfl) rfl ?_ (by kernel_rfl)
        refine f_q rfl ?_
        refine f_q rfl ?_
        refine f_q rfl ?_
        refine f_q rfl ?_
        refine f_cl rfl ?_
        refine f_q rfl ?_
        refine f_q rfl ?_
        refine f_q rfl ?_
        refine f_s5 rfl ?_
        refine f_q rfl ?_
        refine f_lit rfl (fun b38 => ?_)
        refine f_nil ?_
        refine o_app1F ((bearF B (drawP bys) k)) rfl Try.underlying43 inf3 rfl (by rfl) (by rfl) rfl rfl rfl rfl rfl (by rfl) (by rfl) (by rfl) (by first | omega | (constructor <;> first | omega | decide)) (fun v39 => ?_)
        refine Imp.own_is v39 (fun hs => ?_)
        obtain ⟨oan, cpn, rfl⟩ := hs
        refine o_q _ rfl rfl rfl (v_assign rfl rfl) ?_
        refine o_nil ?_
        with_reducible refine r_in_normal ?_; refine r_then ?_
        refine r_region ?_
        refine o_q _ rfl rfl rfl (v_add rfl rfl rfl (by omega)) ?_
        refine o_q _ rfl rfl rfl (v_move rfl rfl) ?_
        refine o_nil ?_
        with_reducible refine r_then ?_
        exact r_next ((k + 1, .slice oan (bearL B (drawP bys) k ++ [bearF B (drawP bys) k]).length cpn)) (by refine Imp.own_to (.slice oan (bearL B (drawP bys) k ++ [bearF B (drawP bys) k]).length cpn) (bearL B (drawP bys) (k + 1)) (bearL_s _ _ _) ?_; refine Imp.box_to ab [i64 ((2 * (k + 1) : Nat) : Int)] rfl ?_; exact r_here (by repeat (first | exact FSub.nil | refine FSub.cons rfl ?_)) SelMC.sel SubRC.sub) (by first | omega | (show _ + 1 ≤ _; omega)) (by first | omega | (show _ - (_ + 1) < _ - _; omega))
      ·
        refine r_exit ?_
        with_reducible refine r_then_exit ?_; refine r_then_exit ?_; refine r_in_here ?_; refine r_then ?_
        refine r_seq ?_
        obtain rfl : k = B.banks.length := by omega
        refine Imp.settleS v encI_len (fun oe ce hv => ?_)
        subst hv
        refine r_region ?_
        refine o_q _ rfl rfl rfl (v_move rfl rfl) ?_
        refine o_q _ rfl rfl rfl (v_fieldAddr rfl Try.underlying28 inf24 rfl rfl rfl rfl) ?_
        refine o_q _ rfl rfl rfl (v_ldN rfl Try.underlying24 rfl inf24 rfl rfl rfl) ?_
        refine o_fnc (draw1_c bys ba uc hu hbl ab bb (2 * B.banks.length) ⟨B.wlo, B.whi⟩ (by omega) (by show B.wlo ≤ B.whi; omega) (by show -1000 ≤ B.wlo; omega) (by show B.whi ≤ 1000; omega)) rfl [] [pt ab 0, pt bb 0] rfl rfl rfl rfl rfl rfl SubRC.sub ?_
        refine o_q _ rfl rfl rfl (v_assign rfl rfl) ?_
        refine o_nil ?_
        with_reducible refine r_then ?_
        refine r_seq ?_
        refine r_region ?_
        refine o_q _ rfl rfl rfl (v_move rfl rfl) ?_
        refine o_lit rfl Try.underlying43 inf3 rfl rfl rfl rfl rfl rfl rfl rfl (by repeat (first | exact trivial | refine ⟨rfl, ?_⟩)) (by rfl) (fun b46 => ?_)
        refine o_q _ rfl rfl rfl (v_assign rfl rfl) ?_
        refine o_nil ?_
        with_reducible refine r_then ?_
        refine r_seq ?_
        refine r_seq ?_
        refine Imp.ownBox (enc := encI) (sz := 1) b46 (watL B (drawP bys) 0) rfl rfl (by simp [maxLen, watL]) ?_
        refine r_region ?_
        refine o_q _ rfl rfl rfl (v_fieldAddr rfl Try.underlying28 inf25 rfl rfl rfl rfl) ?_
        refine o_q _ rfl rfl rfl (v_ld1 rfl Try.underlying25 rfl rfl rfl) ?_
        refine o_q _ rfl rfl rfl (v_len rfl rfl Try.underlying25 rfl) ?_
        refine o_q _ rfl rfl rfl (v_move rfl rfl) ?_
        refine o_nil ?_
        with_reducible refine r_then ?_
        refine r_block ?_
        refine r_loop (ι := Nat × Value) (fun gh => gh.1 ≤ B.rain.length) (fun gh => [(2, pt b2 0), (4, pt b4 0), (5, .slice oe (bearL B (drawP bys) B.banks.length).length ce), (6, gh.2), (7, .func (.func 99) #[] #[pt ab 0, pt bb 0]), (10, i64 (watF B (drawP bys) gh.1)), (48, .slice ro B.rain.length rc), (49, i64 B.rain.length), (50, i64 gh.1)]) (fun gh => ownL gh.2 3 1 encI (watL B (drawP bys) gh.1) :: bx b4 28 [.slice none 0 0, i64 0, i64 0, .slice none 0 0, i64 0, .slice none 0 0] :: bx ab 3 [i64 ((2 * B.banks.length + 1 + gh.1 : Nat) : Int)] :: bx b2 28 (cellsB B bo ro so bc rc sc) :: M) (fun gh => rowD oe 1 encI (bearL B (drawP bys) B.banks.length) :: boxF bb 41 [.slice ba bys.length uc] :: ([rowD ba 1 encH bys, rowD bo 4 encB B.banks, rowD ro 2 encS B.rain, rowD so 3 encG B.signs] ++ Rf)) (fun gh => B.rain.length - gh.1) (0, .slice (some ⟨b46, 0, none⟩) (watL B (drawP bys) 0).length (watL B (drawP bys) 0).length) ?_ ?_ ?_
        ·
          refine Imp.box_to ab [i64 ((2 * B.banks.length + 1 + 0 : Nat) : Int)] rfl ?_
          exact r_here (by repeat (first | exact FSub.nil | refine FSub.cons rfl ?_)) SelMC.sel SubRC.sub
        ·
          exact Nat.zero_le _
        ·
          rintro ⟨d, v⟩ hI1
          dsimp only at hI1
          dsimp only
          have hI : d ≤ B.rain.length := hI1
          have hln := watL_len B (drawP bys) d
          have hrn : ∀ d, d < B.rain.length → 0 ≤ (B.rain.getD d default).lo ∧ (B.rain.getD d default).lo ≤ (B.rain.getD d default).hi ∧ (B.rain.getD d default).hi ≤ 20 := fun d h => hg.rain d h
          refine r_seq ?_
          refine r_region ?_
          refine o_q _ rfl rfl rfl (v_lss rfl rfl rfl) ?_
          refine o_nil ?_
          with_reducible refine r_then ?_
          refine r_seq ?_
          refine r_condd rfl (fun hc51 => ?_) (fun hc51 => ?_)
          ·
            refine r_skip ?_
            with_reducible refine r_then ?_
            refine r_seq ?_
            refine r_block ?_
            refine r_seq ?_
            refine r_region ?_
            refine o_q _ rfl rfl rfl (v_indexAddrSn rfl Try.underlying25 inf24 rfl rfl rfl (by omega) rfl) ?_
            refine o_q _ rfl rfl rfl (v_cast (v := .agg #[i64 (B.rain.getD d default).lo, i64 (B.rain.getD d default).hi]) (v_loadEN rfl Try.underlying24 rfl inf24 rfl (by omega) rfl rfl rfl) rfl) ?_
            refine o_alloc rfl inf24 rfl rfl rfl rfl rfl (fun b12 => ?_)
            refine o_st rfl inf24 rfl rfl rfl rfl rfl rfl rfl rfl ?_
            refine o_nil ?_
            with_reducible refine r_then ?_
            refine r_seq ?_
            refine r_parC1 (bx ab 3 [i64 ((2 * B.banks.length + 1 + d : Nat) : Int)]) 7 mixed (by kernel_rfl) (by rfl) ?_
            refine p_q _ rfl rfl rfl (fun _ _ => v_move rfl rfl) ?_
            refine p_q _ rfl rfl rfl (fun _ _ => v_move rfl rfl) ?_
            refine p_q _ rfl rfl rfl (fun _ _ => v_ldW rfl Try.underlying24 rfl inf24 rfl rfl) ?_
            refine p_fnc (draw1_c bys ba uc hu hbl ab bb (2 * B.banks.length + 1 + d) (B.rain.getD d default) (by omega) (by have := hrn d (by omega); omega) (by have := hrn d (by omega); omega) (by have := hrn d (by omega); omega)) rfl [] [pt ab 0, pt bb 0] rfl rfl rfl rfl rfl rfl SubRC.sub ?_
            refine p_q _ rfl rfl rfl (fun _ _ => v_fieldAddr rfl Try.underlying28 inf3 rfl rfl rfl rfl) ?_
            refine p_q _ rfl rfl rfl (fun _ _ => v_ld1 rfl Try.underlying3 rfl rfl rfl) ?_
            refine p_q _ rfl rfl rfl (fun _ _ => v_sub rfl rfl rfl (by have h1 := hrn d (by omega); have h2 := drawP_in hu (2 * B.banks.length + 1 + d + 1) (B.rain.getD d default) (by omega); omega)) ?_
            refine p_nil2 (by simp only [List.nil_append, List.cons_append]; rfl) rfl ?_
            refine f_q rfl ?_
            refine f_q rfl ?_
            refine f_q rfl ?_
            refine f_qc1 rfl ?_
            refine f_q rfl ?_
            refine f_q rfl ?_
            refine f_q rfl ?_
            refine f_nil ?_
            refine o_q _ rfl rfl rfl (v_cast (v := i64 (watF B (drawP bys) (d + 1))) (v_add rfl rfl rfl (by have h1 := wat_bd hg (drawP_in hu) (d := d + 1) (by omega); unfold watF at h1; have e : 2 * B.banks.length + 1 + (d + 1) = 2 * B.banks.length + 1 + d + 1 := rfl; rw [e] at h1; omega)) rfl) ?_
            refine o_q _ rfl rfl rfl (v_assign rfl rfl) ?_
            refine o_nil ?_
            with_reducible refine r_then ?_
            refine r_region ?_
            refine o_q _ rfl rfl rfl (v_move rfl rfl) ?_
            refine o_q _ rfl rfl rfl (v_move rfl rfl) ?_
            refine o_lit rfl Try.underlying43 inf3 rfl rfl rfl rfl rfl rfl rfl rfl (by repeat (first | exact trivial | refine ⟨rfl, ?_⟩)) (by rfl) (fun b64 => ?_)
            refine o_app1 ((watF B (drawP bys) (d + 1))) rfl Try.underlying43 inf3 rfl (by rfl) (by rfl) rfl rfl rfl rfl rfl (by rfl) (by rfl) (by rfl) (by first | omega | (constructor <;> first | omega | decide)) (fun v65 => ?_)
            refine Imp.own_is v65 (fun hs => ?_)
            obtain ⟨oan, cpn, rfl⟩ := hs
            refine o_q _ rfl rfl rfl (v_assign rfl rfl) ?_
            refine o_nil ?_
            with_reducible refine r_in_normal ?_; refine r_then ?_
            refine r_region ?_
            refine o_q _ rfl rfl rfl (v_add rfl rfl rfl (by omega)) ?_
            refine o_q _ rfl rfl rfl (v_move rfl rfl) ?_
            refine o_nil ?_
            with_reducible refine r_then ?_
            exact r_next ((d + 1, .slice oan (watL B (drawP bys) d ++ [watF B (drawP bys) (d + 1)]).length cpn)) (by refine Imp.own_to (.slice oan (watL B (drawP bys) d ++ [watF B (drawP bys) (d + 1)]).length cpn) (watL B (drawP bys) (d + 1)) (watL_s _ _ _) ?_; refine Imp.box_to ab [i64 ((2 * B.banks.length + 1 + (d + 1) : Nat) : Int)] rfl ?_; exact r_here (by repeat (first | exact FSub.nil | refine FSub.cons rfl ?_)) SelMC.sel SubRC.sub) (by first | omega | (show _ + 1 ≤ _; omega)) (by first | omega | (show _ - (_ + 1) < _ - _; omega))
          ·
            refine r_exit ?_
            with_reducible refine r_then_exit ?_; refine r_then_exit ?_; refine r_in_here ?_; refine r_then ?_
            refine r_seq ?_
            obtain rfl : d = B.rain.length := by omega
            refine Imp.settleS v encI_len (fun ow cw hv => ?_)
            subst hv
            refine r_region ?_
            refine o_q _ rfl rfl rfl (v_ldW rfl Try.underlying28 rfl inf28 rfl rfl) ?_
            refine o_st rfl inf28 rfl rfl rfl rfl rfl rfl rfl rfl ?_
            refine o_nil ?_
            with_reducible refine r_then ?_
            refine r_seq ?_
            refine r_region ?_
            refine o_q _ rfl rfl rfl (v_fieldAddr rfl Try.underlying28 inf26 rfl rfl rfl rfl) ?_
            refine o_st rfl inf26 rfl rfl rfl rfl rfl rfl rfl rfl ?_
            refine o_nil ?_
            with_reducible refine r_then ?_
            refine r_seq ?_
            refine r_seq ?_
            refine r_region ?_
            refine o_q _ rfl rfl rfl (v_fieldAddr rfl Try.underlying28 inf26 rfl rfl rfl rfl) ?_
            refine o_q _ rfl rfl rfl (v_ld1 rfl Try.underlying26 rfl rfl rfl) ?_
            refine o_q _ rfl rfl rfl (v_len rfl rfl Try.underlying26 rfl) ?_
            refine o_q _ rfl rfl rfl (v_move rfl rfl) ?_
            refine o_nil ?_
            with_reducible refine r_then ?_
            refine r_block ?_
            refine r_loop (ι := Nat × Value) (fun gh => gh.1 ≤ B.signs.length) (fun gh => [(2, pt b2 0), (4, pt b4 0), (5, .slice oe (bearL B (drawP bys) B.banks.length).length ce), (6, .slice ow (watL B (drawP bys) B.rain.length).length cw), (70, .slice so B.signs.length sc), (71, i64 B.signs.length), (72, i64 gh.1)]) (fun gh => ownL gh.2 55 3 encG (rightTo B (drawP bys) gh.1) :: bx b4 28 [.slice bo B.banks.length bc, i64 B.wlo, i64 B.whi, .slice ro B.rain.length rc, i64 B.drain, gh.2] :: bx b2 28 (cellsB B bo ro so bc rc sc) :: M) (fun gh => rowD ow 1 encI (watL B (drawP bys) B.rain.length) :: rowD oe 1 encI (bearL B (drawP bys) B.banks.length) :: boxF bb 41 [.slice ba bys.length uc] :: ([rowD ba 1 encH bys, rowD bo 4 encB B.banks, rowD ro 2 encS B.rain, rowD so 3 encG B.signs] ++ Rf)) (fun gh => B.signs.length - gh.1) (0, .slice none 0 0) ?_ ?_ ?_
            ·
              refine Imp.nilL 55 3 encG ?_
              refine Imp.own_to (.slice none 0 0) (rightTo B (drawP bys) 0) rfl ?_
              refine Imp.box_to b4 [.slice bo B.banks.length bc, i64 B.wlo, i64 B.whi, .slice ro B.rain.length rc, i64 B.drain, .slice none 0 0] rfl ?_
              exact r_here (by repeat (first | exact FSub.nil | refine FSub.cons rfl ?_)) SelMC.sel SubRC.sub
            ·
              exact Nat.zero_le _
            ·
              rintro ⟨k, v⟩ hI2
              dsimp only at hI2
              dsimp only
              have hI : k ≤ B.signs.length := hI2
              have hln := right_len (B := B) (f := (drawP bys)) k
              refine r_seq ?_
              refine r_region ?_
              refine o_q _ rfl rfl rfl (v_lss rfl rfl rfl) ?_
              refine o_nil ?_
              with_reducible refine r_then ?_
              refine r_seq ?_
              refine r_condd rfl (fun hc73 => ?_) (fun hc73 => ?_)
              ·
                refine r_skip ?_
                with_reducible refine r_then ?_
                refine r_seq ?_
                refine r_block ?_
                refine r_seq ?_
                refine r_region ?_
                refine o_q _ rfl rfl rfl (v_indexAddrSn rfl Try.underlying26 inf55 rfl rfl rfl (by omega) rfl) ?_
                refine o_q _ rfl rfl rfl (v_cast (v := .agg #[i64 (B.signs.getD k default).kind, i64 (B.signs.getD k default).bank, i64 (B.signs.getD k default).day]) (v_loadEN rfl Try.underlying55 rfl inf55 rfl (by omega) rfl rfl rfl) rfl) ?_
                refine o_alloc rfl inf55 rfl rfl rfl rfl rfl (fun b14 => ?_)
                refine o_st rfl inf55 rfl rfl rfl rfl rfl rfl rfl rfl ?_
                refine o_nil ?_
                with_reducible refine r_then ?_
                refine r_seq ?_
                obtain ⟨hd1, hd2⟩ := hg.signs k (by omega)
                refine r_region ?_
                refine o_q _ rfl rfl rfl (v_move rfl rfl) ?_
                refine o_q _ rfl rfl rfl (v_fieldAddr rfl Try.underlying55 inf3 rfl rfl rfl rfl) ?_
                refine o_q _ rfl rfl rfl (v_cast (v := i64 (((B.signs.getD k default).day.toNat : Nat) : Int)) (v_ld1 rfl Try.underlying3 rfl rfl rfl) (congrArg (Value.int .i64) (show (B.signs.getD k default).day = _ by omega))) ?_
                refine o_q _ rfl rfl rfl (v_indexAddrSn rfl Try.underlying43 inf3 rfl rfl rfl (by rw [watL_len]; omega) rfl) ?_
                refine o_q _ rfl rfl rfl (v_cast (v := i64 (watF B (drawP bys) (B.signs.getD k default).day.toNat)) (v_loadE1 rfl Try.underlying3 rfl rfl (by rw [watL_len]; omega) rfl rfl) (congrArg (Value.int .i64) (watL_at _ _ (by omega)))) ?_
                refine o_q _ rfl rfl rfl (v_assign rfl rfl) ?_
                refine o_nil ?_
                with_reducible refine r_then ?_
                refine r_seq ?_
                refine r_region ?_
                refine o_q _ rfl rfl rfl (v_move rfl rfl) ?_
                refine o_q _ rfl rfl rfl (v_geq rfl rfl rfl) ?_
                refine o_q _ rfl rfl rfl (v_assign rfl rfl) ?_
                refine o_nil ?_
                with_reducible refine r_then ?_
                refine r_seq ?_
                refine r_seq ?_
                refine r_region ?_
                refine o_q _ rfl rfl rfl (v_fieldAddr rfl Try.underlying55 inf3 rfl rfl rfl rfl) ?_
                refine o_q _ rfl rfl rfl (v_ld1 rfl Try.underlying3 rfl rfl rfl) ?_
                refine o_q _ rfl rfl rfl (v_neq rfl rfl rfl) ?_
                refine o_nil ?_
                with_reducible refine r_then ?_
                refine r_condd rfl (fun hc85 => ?_) (fun hc85 => ?_)
                ·
                  refine r_seq ?_
                  refine r_region ?_
                  refine o_q _ rfl rfl rfl (v_move rfl rfl) ?_
                  refine o_q _ rfl rfl rfl (v_fieldAddr rfl Try.underlying55 inf3 rfl rfl rfl rfl) ?_
                  refine o_q _ rfl rfl rfl (v_cast (v := i64 (((B.signs.getD k default).bank.toNat : Nat) : Int)) (v_ld1 rfl Try.underlying3 rfl rfl rfl) (congrArg (Value.int .i64) (show (B.signs.getD k default).bank = _ by omega))) ?_
                  refine o_q _ rfl rfl rfl (v_indexAddrSn rfl Try.underlying43 inf3 rfl rfl rfl (by rw [bearL_len]; omega) rfl) ?_
                  refine o_q _ rfl rfl rfl (v_cast (v := i64 (bearF B (drawP bys) (B.signs.getD k default).bank.toNat)) (v_loadE1 rfl Try.underlying3 rfl rfl (by rw [bearL_len]; omega) rfl rfl) (congrArg (Value.int .i64) (bearL_at _ _ (by omega)))) ?_
                  refine o_q _ rfl rfl rfl (v_move rfl rfl) ?_
                  refine o_q _ rfl rfl rfl (v_sub rfl rfl rfl (by have h1 := bear_bd hg (drawP_in hu) (i := (B.signs.getD k default).bank.toNat) (by omega); have h2 := wat_bd hg (drawP_in hu) (d := (B.signs.getD k default).day.toNat) (by omega); omega)) ?_
                  refine o_q _ rfl rfl rfl (v_assign rfl rfl) ?_
                  refine o_q _ rfl rfl rfl (v_assign rfl rfl) ?_
                  refine o_nil ?_
                  with_reducible refine r_then ?_
                  refine r_seq ?_
                  refine r_seq ?_
                  refine r_region ?_
                  refine o_q _ rfl rfl rfl (v_fieldAddr rfl Try.underlying55 inf3 rfl rfl rfl rfl) ?_
                  refine o_q _ rfl rfl rfl (v_ld1 rfl Try.underlying3 rfl rfl rfl) ?_
                  refine o_q _ rfl rfl rfl (v_eql rfl rfl rfl) ?_
                  refine o_nil ?_
                  with_reducible refine r_then ?_
                  refine r_condd rfl (fun hc95 => ?_) (fun hc95 => ?_)
                  ·
                    refine r_region ?_
                    refine o_q _ rfl rfl rfl (v_assign rfl rfl) ?_
                    refine o_nil ?_
                    with_reducible refine r_then ?_
                    refine r_region ?_
                    refine o_q _ rfl rfl rfl (v_move rfl rfl) ?_
                    refine o_test rfl rfl rfl (v_geq rfl rfl rfl) (fun h97 => ?_) (fun h97 => ?_)
                    all_goals
                      refine o_q _ rfl rfl rfl (v_move rfl rfl) ?_
                      first | refine o_gn rfl rfl rfl rfl ?_ | refine o_g _ rfl rfl rfl rfl (v_move rfl rfl) ?_
                      first | refine o_gn rfl rfl rfl rfl ?_ | refine o_g _ rfl rfl rfl rfl (v_move rfl rfl) ?_
                      first | refine o_gn rfl rfl rfl rfl ?_ | refine o_gtest rfl rfl rfl rfl (v_leq rfl rfl rfl) (fun h101 => ?_) (fun h101 => ?_)
                      all_goals
                        first | refine o_q _ rfl rfl rfl (v_pick_t rfl rfl rfl) ?_ | refine o_q _ rfl rfl rfl (v_pick_f rfl rfl rfl) ?_
                        refine o_q _ rfl rfl rfl (v_assign rfl rfl) ?_
                        refine o_nil ?_
                        with_reducible refine r_then ?_
                        refine r_seq ?_
                        refine r_region ?_
                        refine o_q _ rfl rfl rfl (v_move rfl rfl) ?_
                        refine o_nil ?_
                        with_reducible refine r_then ?_
                        refine r_cond rfl (fun hc103 => ?_) (fun hc103 => ?_)
                        ·
                          first
                          | (exfalso; revert hc103; decide)
                          | skip
                            refine r_region ?_
                            refine o_q _ rfl rfl rfl (v_fieldAddr rfl Try.underlying28 inf26 rfl rfl rfl rfl) ?_
                            refine o_q _ rfl rfl rfl (v_ld1 rfl Try.underlying26 rfl rfl rfl) ?_
                            refine o_q _ rfl rfl rfl (v_ldW rfl Try.underlying55 rfl inf55 rfl rfl) ?_
                            refine o_lit rfl Try.underlying26 inf55 rfl rfl rfl rfl rfl rfl rfl rfl (by repeat (first | exact trivial | refine ⟨rfl, ?_⟩)) (by rfl) (fun b107 => ?_)
                            refine o_app1 ((B.signs.getD k default)) rfl Try.underlying26 inf55 rfl (by rfl) (by rfl) rfl rfl rfl rfl rfl (by rfl) (by rfl) (by rfl) (by first | omega | (constructor <;> first | omega | decide)) (fun v108 => ?_)
                            refine Imp.own_is v108 (fun hs => ?_)
                            obtain ⟨oan, cpn, rfl⟩ := hs
                            refine o_q _ rfl rfl rfl (v_fieldAddr rfl Try.underlying28 inf26 rfl rfl rfl rfl) ?_
                            refine o_st rfl inf26 rfl rfl rfl rfl rfl rfl rfl rfl ?_
                            refine o_nil ?_
                            with_reducible refine r_in_normal ?_; refine r_then ?_
                            refine r_region ?_
                            refine o_q _ rfl rfl rfl (v_add rfl rfl rfl (by omega)) ?_
                            refine o_q _ rfl rfl rfl (v_move rfl rfl) ?_
                            refine o_nil ?_
                            with_reducible refine r_then ?_
                            exact r_next ((k + 1, .slice oan (rightTo B (drawP bys) k ++ [(B.signs.getD k default)]).length cpn)) (by refine Imp.own_to (.slice oan (rightTo B (drawP bys) k ++ [(B.signs.getD k default)]).length cpn) (rightTo B (drawP bys) (k + 1)) (right_y (by first | exact (signR_2 (by omega)).2 (by omega) | exact (signR_1 (by omega)).2 (by omega) | exact (signR_0 (by omega)).2 (by omega))) ?_; refine Imp.box_to b4 [.slice bo B.banks.length bc, i64 B.wlo, i64 B.whi, .slice ro B.rain.length rc, i64 B.drain, .slice oan (rightTo B (drawP bys) k ++ [(B.signs.getD k default)]).length cpn] rfl ?_; exact r_here (by repeat (first | exact FSub.nil | refine FSub.cons rfl ?_)) SelMC.sel SubRC.sub) (by first | omega | (show _ + 1 ≤ _; omega)) (by first | omega | (show _ - (_ + 1) < _ - _; omega))
                        ·
                          first
                          | (exfalso; revert hc103; decide)
                          | skip
                            refine r_skip ?_
                            with_reducible refine r_in_normal ?_; refine r_then ?_
                            refine r_region ?_
                            refine o_q _ rfl rfl rfl (v_add rfl rfl rfl (by omega)) ?_
                            refine o_q _ rfl rfl rfl (v_move rfl rfl) ?_
                            refine o_nil ?_
                            with_reducible refine r_then ?_
                            exact r_next ((k + 1, v)) (by refine Imp.own_to v (rightTo B (drawP bys) (k + 1)) (right_n (by first | exact fun h => absurd ((signR_2 (by omega)).1 h) (by omega) | exact fun h => absurd ((signR_1 (by omega)).1 h) (by omega) | exact fun h => absurd ((signR_0 (by omega)).1 h) (by omega))) ?_; exact r_here (by repeat (first | exact FSub.nil | refine FSub.cons rfl ?_)) SelMC.sel SubRC.sub) (by first | omega | (show _ + 1 ≤ _; omega)) (by first | omega | (show _ - (_ + 1) < _ - _; omega))
                  ·
                    refine r_skip ?_
                    with_reducible refine r_then ?_
                    refine r_region ?_
                    refine o_q _ rfl rfl rfl (v_move rfl rfl) ?_
                    refine o_test rfl rfl rfl (v_geq rfl rfl rfl) (fun h97 => ?_) (fun h97 => ?_)
                    all_goals
                      refine o_q _ rfl rfl rfl (v_move rfl rfl) ?_
                      first | refine o_gn rfl rfl rfl rfl ?_ | refine o_g _ rfl rfl rfl rfl (v_move rfl rfl) ?_
                      first | refine o_gn rfl rfl rfl rfl ?_ | refine o_g _ rfl rfl rfl rfl (v_move rfl rfl) ?_
                      first | refine o_gn rfl rfl rfl rfl ?_ | refine o_gtest rfl rfl rfl rfl (v_leq rfl rfl rfl) (fun h101 => ?_) (fun h101 => ?_)
                      all_goals
                        first | refine o_q _ rfl rfl rfl (v_pick_t rfl rfl rfl) ?_ | refine o_q _ rfl rfl rfl (v_pick_f rfl rfl rfl) ?_
                        refine o_q _ rfl rfl rfl (v_assign rfl rfl) ?_
                        refine o_nil ?_
                        with_reducible refine r_then ?_
                        refine r_seq ?_
                        refine r_region ?_
                        refine o_q _ rfl rfl rfl (v_move rfl rfl) ?_
                        refine o_nil ?_
                        with_reducible refine r_then ?_
                        refine r_cond rfl (fun hc103 => ?_) (fun hc103 => ?_)
                        ·
                          first
                          | (exfalso; revert hc103; decide)
                          | skip
                            refine r_region ?_
                            refine o_q _ rfl rfl rfl (v_fieldAddr rfl Try.underlying28 inf26 rfl rfl rfl rfl) ?_
                            refine o_q _ rfl rfl rfl (v_ld1 rfl Try.underlying26 rfl rfl rfl) ?_
                            refine o_q _ rfl rfl rfl (v_ldW rfl Try.underlying55 rfl inf55 rfl rfl) ?_
                            refine o_lit rfl Try.underlying26 inf55 rfl rfl rfl rfl rfl rfl rfl rfl (by repeat (first | exact trivial | refine ⟨rfl, ?_⟩)) (by rfl) (fun b107 => ?_)
                            refine o_app1 ((B.signs.getD k default)) rfl Try.underlying26 inf55 rfl (by rfl) (by rfl) rfl rfl rfl rfl rfl (by rfl) (by rfl) (by rfl) (by first | omega | (constructor <;> first | omega | decide)) (fun v108 => ?_)
                            refine Imp.own_is v108 (fun hs => ?_)
                            obtain ⟨oan, cpn, rfl⟩ := hs
                            refine o_q _ rfl rfl rfl (v_fieldAddr rfl Try.underlying28 inf26 rfl rfl rfl rfl) ?_
                            refine o_st rfl inf26 rfl rfl rfl rfl rfl rfl rfl rfl ?_
                            refine o_nil ?_
                            with_reducible refine r_in_normal ?_; refine r_then ?_
                            refine r_region ?_
                            refine o_q _ rfl rfl rfl (v_add rfl rfl rfl (by omega)) ?_
                            refine o_q _ rfl rfl rfl (v_move rfl rfl) ?_
                            refine o_nil ?_
                            with_reducible refine r_then ?_
                            exact r_next ((k + 1, .slice oan (rightTo B (drawP bys) k ++ [(B.signs.getD k default)]).length cpn)) (by refine Imp.own_to (.slice oan (rightTo B (drawP bys) k ++ [(B.signs.getD k default)]).length cpn) (rightTo B (drawP bys) (k + 1)) (right_y (by first | exact (signR_2 (by omega)).2 (by omega) | exact (signR_1 (by omega)).2 (by omega) | exact (signR_0 (by omega)).2 (by omega))) ?_; refine Imp.box_to b4 [.slice bo B.banks.length bc, i64 B.wlo, i64 B.whi, .slice ro B.rain.length rc, i64 B.drain, .slice oan (rightTo B (drawP bys) k ++ [(B.signs.getD k default)]).length cpn] rfl ?_; exact r_here (by repeat (first | exact FSub.nil | refine FSub.cons rfl ?_)) SelMC.sel SubRC.sub) (by first | omega | (show _ + 1 ≤ _; omega)) (by first | omega | (show _ - (_ + 1) < _ - _; omega))
                        ·
                          first
                          | (exfalso; revert hc103; decide)
                          | skip
                            refine r_skip ?_
                            with_reducible refine r_in_normal ?_; refine r_then ?_
                            refine r_region ?_
                            refine o_q _ rfl rfl rfl (v_add rfl rfl rfl (by omega)) ?_
                            refine o_q _ rfl rfl rfl (v_move rfl rfl) ?_
                            refine o_nil ?_
                            with_reducible refine r_then ?_
                            exact r_next ((k + 1, v)) (by refine Imp.own_to v (rightTo B (drawP bys) (k + 1)) (right_n (by first | exact fun h => absurd ((signR_2 (by omega)).1 h) (by omega) | exact fun h => absurd ((signR_1 (by omega)).1 h) (by omega) | exact fun h => absurd ((signR_0 (by omega)).1 h) (by omega))) ?_; exact r_here (by repeat (first | exact FSub.nil | refine FSub.cons rfl ?_)) SelMC.sel SubRC.sub) (by first | omega | (show _ + 1 ≤ _; omega)) (by first | omega | (show _ - (_ + 1) < _ - _; omega))
                ·
                  refine r_skip ?_
                  with_reducible refine r_then ?_
                  refine r_seq ?_
                  refine r_region ?_
                  refine o_q _ rfl rfl rfl (v_move rfl rfl) ?_
                  refine o_nil ?_
                  with_reducible refine r_then ?_
                  refine r_condd rfl (fun hc103 => ?_) (fun hc103 => ?_)
                  ·
                    refine r_region ?_
                    refine o_q _ rfl rfl rfl (v_fieldAddr rfl Try.underlying28 inf26 rfl rfl rfl rfl) ?_
                    refine o_q _ rfl rfl rfl (v_ld1 rfl Try.underlying26 rfl rfl rfl) ?_
                    refine o_q _ rfl rfl rfl (v_ldW rfl Try.underlying55 rfl inf55 rfl rfl) ?_
                    refine o_lit rfl Try.underlying26 inf55 rfl rfl rfl rfl rfl rfl rfl rfl (by repeat (first | exact trivial | refine ⟨rfl, ?_⟩)) (by rfl) (fun b107 => ?_)
                    refine o_app1 ((B.signs.getD k default)) rfl Try.underlying26 inf55 rfl (by rfl) (by rfl) rfl rfl rfl rfl rfl (by rfl) (by rfl) (by rfl) (by first | omega | (constructor <;> first | omega | decide)) (fun v108 => ?_)
                    refine Imp.own_is v108 (fun hs => ?_)
                    obtain ⟨oan, cpn, rfl⟩ := hs
                    refine o_q _ rfl rfl rfl (v_fieldAddr rfl Try.underlying28 inf26 rfl rfl rfl rfl) ?_
                    refine o_st rfl inf26 rfl rfl rfl rfl rfl rfl rfl rfl ?_
                    refine o_nil ?_
                    with_reducible refine r_in_normal ?_; refine r_then ?_
                    refine r_region ?_
                    refine o_q _ rfl rfl rfl (v_add rfl rfl rfl (by omega)) ?_
                    refine o_q _ rfl rfl rfl (v_move rfl rfl) ?_
                    refine o_nil ?_
                    with_reducible refine r_then ?_
                    exact r_next ((k + 1, .slice oan (rightTo B (drawP bys) k ++ [(B.signs.getD k default)]).length cpn)) (by refine Imp.own_to (.slice oan (rightTo B (drawP bys) k ++ [(B.signs.getD k default)]).length cpn) (rightTo B (drawP bys) (k + 1)) (right_y (by first | exact (signR_2 (by omega)).2 (by omega) | exact (signR_1 (by omega)).2 (by omega) | exact (signR_0 (by omega)).2 (by omega))) ?_; refine Imp.box_to b4 [.slice bo B.banks.length bc, i64 B.wlo, i64 B.whi, .slice ro B.rain.length rc, i64 B.drain, .slice oan (rightTo B (drawP bys) k ++ [(B.signs.getD k default)]).length cpn] rfl ?_; exact r_here (by repeat (first | exact FSub.nil | refine FSub.cons rfl ?_)) SelMC.sel SubRC.sub) (by first | omega | (show _ + 1 ≤ _; omega)) (by first | omega | (show _ - (_ + 1) < _ - _; omega))
                  ·
                    refine r_skip ?_
                    with_reducible refine r_in_normal ?_; refine r_then ?_
                    refine r_region ?_
                    refine o_q _ rfl rfl rfl (v_add rfl rfl rfl (by omega)) ?_
                    refine o_q _ rfl rfl rfl (v_move rfl rfl) ?_
                    refine o_nil ?_
                    with_reducible refine r_then ?_
                    exact r_next ((k + 1, v)) (by refine Imp.own_to v (rightTo B (drawP bys) (k + 1)) (right_n (by first | exact fun h => absurd ((signR_2 (by omega)).1 h) (by omega) | exact fun h => absurd ((signR_1 (by omega)).1 h) (by omega) | exact fun h => absurd ((signR_0 (by omega)).1 h) (by omega))) ?_; exact r_here (by repeat (first | exact FSub.nil | refine FSub.cons rfl ?_)) SelMC.sel SubRC.sub) (by first | omega | (show _ + 1 ≤ _; omega)) (by first | omega | (show _ - (_ + 1) < _ - _; omega))
              ·
                refine r_exit ?_
                with_reducible refine r_then_exit ?_; refine r_then_exit ?_; refine r_in_here ?_; refine r_then ?_
                refine r_seq ?_
                obtain rfl : k = B.signs.length := by omega
                refine Imp.settleS v encG_len (fun oz cz hv => ?_)
                subst hv
                refine Imp.box_to b4 (cellsB (trulyB B (drawP bys)) bo ro oz bc rc cz) rfl ?_
                refine Imp.derive (ψ := rowD bo 4 encB (trulyB B (drawP bys)).banks) ?_ (fun V hV => hV (rowD bo 4 encB B.banks) (by simp))
                refine Imp.derive (ψ := rowD ro 2 encS (trulyB B (drawP bys)).rain) ?_ (fun V hV => hV (rowD ro 2 encS B.rain) (by simp))
                refine Imp.derive (ψ := rowD oz 3 encG (trulyB B (drawP bys)).signs) ?_ (fun V hV => hV (rowD oz 3 encG (rightTo B (drawP bys) B.signs.length)) (by simp))
                refine r_region ?_
                refine o_q _ rfl rfl rfl (v_ldW rfl Try.underlying28 rfl inf28 rfl rfl) ?_
                refine o_q _ rfl rfl rfl (v_move rfl rfl) ?_
                refine o_q _ rfl rfl rfl (v_move rfl rfl) ?_
                refine o_st rfl inf28 rfl rfl rfl rfl rfl rfl rfl rfl ?_
                refine o_q _ rfl rfl rfl (v_assign rfl rfl) ?_
                refine o_q _ rfl rfl rfl (v_assign rfl rfl) ?_
                refine o_nil ?_
                with_reducible refine r_then ?_
                refine r_ret ?_
                exact r_rete [] [rowD bo 4 encB (trulyB B (drawP bys)).banks, rowD ro 2 encS (trulyB B (drawP bys)).rain, rowD oz 3 encG (trulyB B (drawP bys)).signs, rowD oe 1 encI (bearL B (drawP bys) B.banks.length), rowD ow 1 encI (watL B (drawP bys) B.rain.length)] (Rd.three rfl (RdI.cellW Try.underlying28 rfl inf28 rfl rfl) (RdI.tmp rfl) (RdI.tmp rfl)) ⟨oz, cz, oe, ce, ow, cw, rfl, rfl, rfl⟩ SelMC.sel SubRC.sub
theorem o_truly {W : World} {n : Nat} {D : List Deferred} {L : Tm} {M : List Res} {R : List Fact} {Q : Exit → Act → World → Prop} {o : Oper} {ops : Array Oper} {rest : List Oper} {xs : List Operand} {ts : Array TypeId} {d : Nat} (hg : GoodB B) (bys : List Int) (ba : Option Addr) (uc : Nat) (hu : U16l bys) (hbl : bys.length ≤ 9223372036854775807)
    (ho : o.op = .call { callee := .value (.func 31), args := xs.toArray, argTypes := ts }) (hx : evs L xs = some [valB B bo ro so bc rc sc, .slice ba bys.length uc]) (hgd : o.guard = none) (hdst : o.dst = some d) (hd : Nat.blt d n = true) (hs : SubR R [rowD ba 1 encH bys, rowD bo 4 encB B.banks, rowD ro 2 encS B.rain, rowD so 3 encG B.signs])
    (hret : ∀ oz cz oe ce ow cw, Imp W n D ((d, .tuple #[valB (trulyB B (drawP bys)) bo ro oz bc rc cz, .slice oe (bearL B (drawP bys) B.banks.length).length ce, .slice ow (watL B (drawP bys) B.rain.length).length cw]) :: L) M ([rowD bo 4 encB (trulyB B (drawP bys)).banks, rowD ro 2 encS (trulyB B (drawP bys)).rain, rowD oz 3 encG (trulyB B (drawP bys)).signs, rowD oe 1 encI (bearL B (drawP bys) B.banks.length), rowD ow 1 encI (watL B (drawP bys) B.rain.length)] ++ R) (wpList Try.prog ops Q rest)) : Imp W n D L M R (wpList Try.prog ops Q (o :: rest)) := by
  refine o_call (truly_s B bo ro so bc rc sc hg bys ba uc hu hbl) ho [] [] rfl hx (by simp) hgd (by simp [okD, hdst, hd]) SelM.refl hs ?_ ?_ ?_
  · rintro v M' R' ⟨oz, cz, oe, ce, ow, cw, he, rfl, rfl⟩
    cases he
    rw [hdst]
    exact hret oz cz oe ce ow cw
  · rintro c M' R' ⟨oz, cz, oe, ce, ow, cw, he, _⟩; cases he
  · rintro M' R' ⟨oz, cz, oe, ce, ow, cw, he, _⟩; cases he
end Go.Proofs.Ytoggggnlponfhaa


namespace Go.Proofs.Ytoggggnlponfhaa
open Go.G Burst8
set_option maxRecDepth 1000000
attribute [local irreducible] G.ParO G.Fin
attribute [local irreducible] fw fwR fwC emptyT tabOf knownT canB boundsL
theorem bit_dec0 {p : Nat → Bool} {n k : Nat} (hk : k < n) : decide (((mvTo p n >>> k &&& 1 : Nat) : Int) = 0) = !p k := by
  rw [bit_and, mvTo_bit, decide_eq_true hk]
  cases p k <;> rfl
theorem some_not {X : Bog} {d k : Nat} : (!someB X d k) = decide (0 ≤ (marginT (tB X) k d).lo) := by
  unfold someB
  rw [← decide_not]
  exact decide_eq_decide.2 (by omega)
variable (B : Bog) (bo ro so : Option Addr) (bc rc sc : Nat) (bb mb : Nat)
attribute [local irreducible] trulyB calmF watF bearF untilB spareB gradeB lastB worstT
set_option maxHeartbeats 4000000 in
theorem true_no (hn : ¬ (¬ farB B ∧ GoodB B)) (bys : List Int) (ba : Option Addr) (uc : Nat) (hu : U16l bys) (hbl : bys.length ≤ 9223372036854775807) : FnV Try.prog 5 [valB B bo ro so bc rc sc, .slice ba bys.length uc] [rowD ba 1 encH bys, rowD bo 4 encB B.banks, rowD ro 2 encS B.rain, rowD so 3 encG B.signs] (.bool true) := by
  refine FnV.intro Try.call5 Try.func5 rfl Try.ntmps5 rfl ?_
  intro W M Rf
  refine r_seq ?_
  refine r_region ?_
  refine o_boxA rfl rfl rfl rfl rfl (fun b2 => ?_)
  refine o_q _ rfl rfl rfl (v_assign rfl rfl) ?_
  refine o_nil ?_
  with_reducible refine r_then ?_
  refine r_seq ?_
  refine r_seq ?_
  refine r_region ?_
  refine o_q _ rfl rfl rfl (v_ldW rfl Try.underlying28 rfl inf28 rfl rfl) ?_
  refine o_q _ rfl rfl rfl (v_cast (v := .bool false) (OpQ.fn (fine_v B bo ro so bc rc sc) rfl rfl SubRC.sub) (congrArg Value.bool (decide_eq_false hn))) ?_
  refine o_q _ rfl rfl rfl (v_not rfl rfl) ?_
  refine o_nil ?_
  with_reducible refine r_then ?_
  refine r_cond rfl (fun hc34 => ?_) (fun hc34 => ?_)
  ·
    refine r_seq ?_
    refine r_region ?_
    refine o_q _ rfl rfl rfl (OpQ.fn awake_v rfl rfl SubRC.sub) ?_
    refine o_q _ rfl rfl rfl (v_assign rfl rfl) ?_
    refine o_nil ?_
    with_reducible refine r_then ?_
    refine r_ret ?_
    with_reducible refine r_then_ret ?_
    exact r_retv2 (Rd.tmp rfl rfl) rfl SelMC.sel SubRC.sub
  ·
    (exfalso; revert hc34; decide)
set_option maxHeartbeats 4000000 in
theorem true_yes (hf : ¬ farB B) (hg : GoodB B) (bys : List Int) (ba : Option Addr) (uc : Nat) (hu : U16l bys) (hbl : bys.length ≤ 9223372036854775807) : FnV Try.prog 5 [valB B bo ro so bc rc sc, .slice ba bys.length uc] [rowD ba 1 encH bys, rowD bo 4 encB B.banks, rowD ro 2 encS B.rain, rowD so 3 encG B.signs] (.bool true) := by
  have hb1 := hg.nb
  have hb2 := hg.nr
  have hb3 := hg.ns
  have hf9 := drawP_in hu
  have hgx := truly_good hg (f := (drawP bys))
  have hcx := truly_can hg hf9
  have hway := truly_way hg hf9
  obtain ⟨hxl, hxr, hxs⟩ := truly_lens (B := B) (f := (drawP bys))
  have hel := bearL_len B (drawP bys) B.banks.length
  have hwl := watL_len B (drawP bys) B.rain.length
  have huc := until_cases hgx hcx
  refine FnV.intro Try.call5 Try.func5 rfl Try.ntmps5 rfl ?_
  intro W M Rf
  refine r_seq ?_
  refine r_region ?_
  refine o_boxA rfl rfl rfl rfl rfl (fun b2 => ?_)
  refine o_q _ rfl rfl rfl (v_assign rfl rfl) ?_
  refine o_nil ?_
  with_reducible refine r_then ?_
  refine r_seq ?_
  refine r_seq ?_
  refine r_region ?_
  refine o_q _ rfl rfl rfl (v_ldW rfl Try.underlying28 rfl inf28 rfl rfl) ?_
  refine o_q _ rfl rfl rfl (v_cast (v := .bool true) (OpQ.fn (fine_v B bo ro so bc rc sc) rfl rfl SubRC.sub) (congrArg Value.bool (decide_eq_true ⟨hf, hg⟩))) ?_
  refine o_q _ rfl rfl rfl (v_not rfl rfl) ?_
  refine o_nil ?_
  with_reducible refine r_then ?_
  refine r_cond rfl (fun hc34 => ?_) (fun hc34 => ?_)
  ·
    (exfalso; revert hc34; decide)
  ·
    refine r_skip ?_
    with_reducible refine r_then ?_
    refine r_seq ?_
    refine r_region ?_
    refine o_q _ rfl rfl rfl (v_ldW rfl Try.underlying28 rfl inf28 rfl rfl) ?_
    refine o_q _ rfl rfl rfl (v_move rfl rfl) ?_
    refine o_truly B bo ro so bc rc sc hg bys ba uc hu hbl rfl rfl rfl rfl rfl SubRC.sub (fun oz cz oe ce ow cw => ?_)
    all_goals
      refine o_q _ rfl rfl rfl (v_move rfl rfl) ?_
      refine o_q _ rfl rfl rfl (v_extract rfl rfl rfl) ?_
      refine o_q _ rfl rfl rfl (v_extract rfl rfl rfl) ?_
      refine o_q _ rfl rfl rfl (v_extract rfl rfl rfl) ?_
      refine o_alloc rfl inf28 rfl rfl rfl rfl rfl (fun b5 => ?_)
      refine o_st rfl inf28 rfl rfl rfl rfl rfl rfl rfl rfl ?_
      refine o_q _ rfl rfl rfl (v_assign rfl rfl) ?_
      refine o_q _ rfl rfl rfl (v_assign rfl rfl) ?_
      refine o_nil ?_
      with_reducible refine r_then ?_
      refine r_seq ?_
      refine Imp.box_to b5 (cellsB (trulyB B (drawP bys)) bo ro oz bc rc cz) rfl ?_
      refine r_region ?_
      refine o_q _ rfl rfl rfl (v_ldW rfl Try.underlying28 rfl inf28 rfl rfl) ?_
      refine o_q _ rfl rfl rfl (v_cast (v := .tuple #[i64 0, i64 4]) (OpQ.fn (clash_v (trulyB B (drawP bys)) bo ro oz bc rc cz (by omega) (by omega) (by omega)) rfl rfl SubRC.sub) (by rw [clashB_none hgx hcx]; try rfl)) ?_
      refine o_q _ rfl rfl rfl (v_move rfl rfl) ?_
      refine o_q _ rfl rfl rfl (v_extract rfl rfl rfl) ?_
      refine o_q _ rfl rfl rfl (v_extract rfl rfl rfl) ?_
      refine o_q _ rfl rfl rfl (v_assign rfl rfl) ?_
      refine o_q _ rfl rfl rfl (v_assign rfl rfl) ?_
      refine o_nil ?_
      with_reducible refine r_then ?_
      refine r_seq ?_
      refine r_region ?_
      refine o_q _ rfl rfl rfl (v_ldW rfl Try.underlying28 rfl inf28 rfl rfl) ?_
      refine o_q _ rfl rfl rfl (OpQ.fn (until_v (trulyB B (drawP bys)) bo ro oz bc rc cz (by omega) (by omega) (by omega)) rfl rfl SubRC.sub) ?_
      refine o_q _ rfl rfl rfl (v_move rfl rfl) ?_
      refine o_q _ rfl rfl rfl (v_extract rfl rfl rfl) ?_
      refine o_q _ rfl rfl rfl (v_extract rfl rfl rfl) ?_
      refine o_q _ rfl rfl rfl (v_assign rfl rfl) ?_
      refine o_q _ rfl rfl rfl (v_assign rfl rfl) ?_
      refine o_nil ?_
      with_reducible refine r_then ?_
      refine r_seq ?_
      refine r_seq ?_
      refine r_region ?_
      refine o_q _ rfl rfl rfl (v_move rfl rfl) ?_
      refine o_q _ rfl rfl rfl (v_false (v_neq rfl rfl rfl) (by omega)) ?_
      all_goals
        refine o_q _ rfl rfl rfl (v_move rfl rfl) ?_
        refine o_g _ rfl rfl rfl rfl (v_move rfl rfl) ?_
        refine o_gtest rfl rfl rfl rfl (v_neq rfl rfl rfl) (fun h57 => ?_) (fun h57 => ?_)
        all_goals
          refine o_g _ rfl rfl rfl rfl (v_move rfl rfl) ?_
          first | refine o_gn rfl rfl rfl rfl ?_ | refine o_g _ rfl rfl rfl rfl (v_move rfl rfl) ?_
          first | refine o_gn rfl rfl rfl rfl ?_ | refine o_g _ rfl rfl rfl rfl (v_false (v_neq rfl rfl rfl) (by omega)) ?_
          all_goals
            first | refine o_gn rfl rfl rfl rfl ?_ | refine o_g _ rfl rfl rfl rfl (v_move rfl rfl) ?_
            first | refine o_gn rfl rfl rfl rfl ?_ | refine o_g _ rfl rfl rfl rfl (v_move rfl rfl) ?_
            first | refine o_gn rfl rfl rfl rfl ?_ | refine o_g _ rfl rfl rfl rfl (v_false (v_neq rfl rfl rfl) (by omega)) ?_
            all_goals
              first | refine o_gn rfl rfl rfl rfl ?_ | refine o_g _ rfl rfl rfl rfl (v_pick_f rfl rfl rfl) ?_
              first | refine o_g _ rfl rfl rfl rfl (v_pick_t rfl rfl rfl) ?_ | refine o_g _ rfl rfl rfl rfl (v_pick_f rfl rfl rfl) ?_
              refine o_q _ rfl rfl rfl (v_pick_f rfl rfl rfl) ?_
              refine o_nil ?_
              with_reducible refine r_then ?_
              refine r_cond rfl (fun hc66 => ?_) (fun hc66 => ?_)
              ·
                (exfalso; revert hc66; decide)
              ·
                refine r_skip ?_
                with_reducible refine r_then ?_
                refine r_seq ?_
                refine r_region ?_
                refine o_q _ rfl rfl rfl (v_assign rfl rfl) ?_
                refine o_nil ?_
                with_reducible refine r_then ?_
                refine r_seq ?_
                refine r_seq ?_
                refine r_region ?_
                refine o_q _ rfl rfl rfl (v_move rfl rfl) ?_
                refine o_q _ rfl rfl rfl (v_len rfl rfl Try.underlying43 rfl) ?_
                refine o_q _ rfl rfl rfl (v_move rfl rfl) ?_
                refine o_nil ?_
                with_reducible refine r_then ?_
                refine r_block ?_
                refine r_loop (ι := Nat) (fun d => d ≤ B.rain.length + 1) (fun d => [(5, pt b5 0), (6, .slice oe (bearL B (drawP bys) B.banks.length).length ce), (7, .slice ow (watL B (drawP bys) B.rain.length).length cw), (10, i64 (untilB (trulyB B (drawP bys))).1), (11, i64 (untilB (trulyB B (drawP bys))).2), (12, .bool (decide (calmF (trulyB B (drawP bys)).banks.length (bearF B (drawP bys)) (watF B (drawP bys)) d 0 = 1))), (67, .slice ow (watL B (drawP bys) B.rain.length).length cw), (68, i64 ((watL B (drawP bys) B.rain.length).length : Nat)), (69, i64 d)]) (fun d => bx b5 28 (cellsB (trulyB B (drawP bys)) bo ro oz bc rc cz) :: M) (fun d => [rowD bo 4 encB (trulyB B (drawP bys)).banks, rowD ro 2 encS (trulyB B (drawP bys)).rain, rowD oz 3 encG (trulyB B (drawP bys)).signs, rowD oe 1 encI (bearL B (drawP bys) B.banks.length), rowD ow 1 encI (watL B (drawP bys) B.rain.length)] ++ ([rowD ba 1 encH bys, rowD bo 4 encB B.banks, rowD ro 2 encS B.rain, rowD so 3 encG B.signs] ++ Rf)) (fun d => B.rain.length + 1 - d) 0 ?_ ?_ ?_
                ·
                  exact r_here (by repeat (first | exact FSub.nil | refine FSub.cons rfl ?_ | refine FSub.cons2 rfl (congrArg Value.bool (decide_eq_true calmF_0).symm) ?_)) SelMC.sel SubRC.sub
                ·
                  omega
                ·
                  rintro d hI0
                  refine r_seq ?_
                  refine r_region ?_
                  refine o_q _ rfl rfl rfl (v_lss rfl rfl rfl) ?_
                  refine o_nil ?_
                  with_reducible refine r_then ?_
                  refine r_seq ?_
                  refine r_condd rfl (fun hc70 => ?_) (fun hc70 => ?_)
                  ·
                    refine r_skip ?_
                    with_reducible refine r_then ?_
                    refine r_seq ?_
                    refine r_block ?_
                    refine r_seq ?_
                    refine r_region ?_
                    refine o_q _ rfl rfl rfl (v_move rfl rfl) ?_
                    refine o_q _ rfl rfl rfl (v_indexAddrSn rfl Try.underlying43 inf3 rfl rfl rfl (by omega) rfl) ?_
                    refine o_q _ rfl rfl rfl (v_cast (v := i64 ((watF B (drawP bys)) d)) (v_loadE1 rfl Try.underlying3 rfl rfl (by omega) rfl rfl) (congrArg (Value.int .i64) (watL_at _ _ (by omega)))) ?_
                    refine o_q _ rfl rfl rfl (v_assign rfl rfl) ?_
                    refine o_q _ rfl rfl rfl (v_assign rfl rfl) ?_
                    refine o_nil ?_
                    with_reducible refine r_then ?_
                    refine r_seq ?_
                    have hwi := tr_water hgx hway (d := d) (by omega)
                    have hsl : mvTo (sureB (trulyB B (drawP bys)) d) (trulyB B (drawP bys)).banks.length < 2 ^ 62 := Nat.lt_of_lt_of_le (mvTo_lt _ _) (Nat.pow_le_pow_right (by decide) (by omega))
                    have hpl : mvTo (someB (trulyB B (drawP bys)) d) (trulyB B (drawP bys)).banks.length < 2 ^ 62 := Nat.lt_of_lt_of_le (mvTo_lt _ _) (Nat.pow_le_pow_right (by decide) (by omega))
                    refine r_region ?_
                    refine o_q _ rfl rfl rfl (v_ldW rfl Try.underlying28 rfl inf28 rfl rfl) ?_
                    refine o_q _ rfl rfl rfl (v_move rfl rfl) ?_
                    refine o_q _ rfl rfl rfl (v_cast (v := .tuple #[vS (spanT (tB (trulyB B (drawP bys))) (5 + d) 0), i64 0]) (OpQ.fn (water_v (trulyB B (drawP bys)) bo ro oz bc rc cz (d : Int) (by omega) (by omega) (by omega)) rfl rfl SubRC.sub) (by rw [waterB, ansB_0 (chkB_0 (v := isD (trulyB B (drawP bys)) (d : Int)) hgx (decide_eq_true (by omega)) hcx)]; try rfl)) ?_
                    refine o_q _ rfl rfl rfl (v_move rfl rfl) ?_
                    refine o_q _ rfl rfl rfl (v_extract rfl rfl rfl) ?_
                    refine o_q _ rfl rfl rfl (v_extract rfl rfl rfl) ?_
                    refine o_alloc rfl inf24 rfl rfl rfl rfl rfl (fun b15 => ?_)
                    refine o_st rfl inf24 rfl rfl rfl rfl rfl rfl rfl rfl ?_
                    refine o_q _ rfl rfl rfl (v_assign rfl rfl) ?_
                    refine o_nil ?_
                    with_reducible refine r_then ?_
                    refine r_seq ?_
                    refine r_region ?_
                    refine o_q _ rfl rfl rfl (v_ldW rfl Try.underlying28 rfl inf28 rfl rfl) ?_
                    refine o_q _ rfl rfl rfl (v_move rfl rfl) ?_
                    refine o_q _ rfl rfl rfl (v_cast (v := .tuple #[i64 (mvTo (sureB (trulyB B (drawP bys)) d) (trulyB B (drawP bys)).banks.length : Nat), i64 (mvTo (someB (trulyB B (drawP bys)) d) (trulyB B (drawP bys)).banks.length : Nat), i64 0]) (OpQ.fn (moves_v (trulyB B (drawP bys)) bo ro oz bc rc cz (d : Int) (by omega) (by omega) (by omega)) rfl rfl SubRC.sub) (by rw [movesB, ansB_0 (chkB_0 (v := isD (trulyB B (drawP bys)) (d : Int)) hgx (decide_eq_true (by omega)) hcx)]; try rfl)) ?_
                    refine o_q _ rfl rfl rfl (v_move rfl rfl) ?_
                    refine o_q _ rfl rfl rfl (v_extract rfl rfl rfl) ?_
                    refine o_q _ rfl rfl rfl (v_extract rfl rfl rfl) ?_
                    refine o_q _ rfl rfl rfl (v_extract rfl rfl rfl) ?_
                    refine o_q _ rfl rfl rfl (v_assign rfl rfl) ?_
                    refine o_q _ rfl rfl rfl (v_assign rfl rfl) ?_
                    refine o_q _ rfl rfl rfl (v_assign rfl rfl) ?_
                    refine o_nil ?_
                    with_reducible refine r_then ?_
                    refine r_seq ?_
                    refine r_region ?_
                    refine o_q _ rfl rfl rfl (v_ldW rfl Try.underlying28 rfl inf28 rfl rfl) ?_
                    refine o_q _ rfl rfl rfl (v_move rfl rfl) ?_
                    refine o_q _ rfl rfl rfl (v_cast (v := .tuple #[i64 (gradeB (trulyB B (drawP bys)) (d : Int)), i64 0]) (OpQ.fn (safe_v (trulyB B (drawP bys)) bo ro oz bc rc cz (d : Int) (by omega) (by omega) (by omega)) rfl rfl SubRC.sub) (by rw [safeV, ansB_0 (chkB_0 (v := isD (trulyB B (drawP bys)) (d : Int)) hgx (decide_eq_true (by omega)) hcx)]; try rfl)) ?_
                    refine o_q _ rfl rfl rfl (v_move rfl rfl) ?_
                    refine o_q _ rfl rfl rfl (v_extract rfl rfl rfl) ?_
                    refine o_q _ rfl rfl rfl (v_extract rfl rfl rfl) ?_
                    refine o_q _ rfl rfl rfl (v_assign rfl rfl) ?_
                    refine o_q _ rfl rfl rfl (v_assign rfl rfl) ?_
                    refine o_nil ?_
                    with_reducible refine r_then ?_
                    refine r_seq ?_
                    refine r_seq ?_
                    refine r_region ?_
                    refine o_q _ rfl rfl rfl (v_move rfl rfl) ?_
                    refine o_q _ rfl rfl rfl (v_false (v_neq rfl rfl rfl) (by omega)) ?_
                    all_goals
                      refine o_q _ rfl rfl rfl (v_move rfl rfl) ?_
                      refine o_g _ rfl rfl rfl rfl (v_move rfl rfl) ?_
                      refine o_g _ rfl rfl rfl rfl (v_ldW rfl Try.underlying24 rfl inf24 rfl rfl) ?_
                      refine o_g _ rfl rfl rfl rfl (v_true (OpQ.fn (inside_v ((watF B (drawP bys)) d) (spanT (tB (trulyB B (drawP bys))) (5 + d) 0)) rfl rfl SubRC.sub) (by omega)) ?_
                      all_goals
                        refine o_g _ rfl rfl rfl rfl (v_not rfl rfl) ?_
                        refine o_q _ rfl rfl rfl (v_pick_f rfl rfl rfl) ?_
                        refine o_q _ rfl rfl rfl (v_move rfl rfl) ?_
                        refine o_g _ rfl rfl rfl rfl (v_move rfl rfl) ?_
                        refine o_g _ rfl rfl rfl rfl (v_false (v_neq rfl rfl rfl) (by omega)) ?_
                        all_goals
                          refine o_q _ rfl rfl rfl (v_pick_f rfl rfl rfl) ?_
                          refine o_q _ rfl rfl rfl (v_move rfl rfl) ?_
                          refine o_g _ rfl rfl rfl rfl (v_move rfl rfl) ?_
                          refine o_g _ rfl rfl rfl rfl (v_false (v_neq rfl rfl rfl) (by omega)) ?_
                          all_goals
                            refine o_q _ rfl rfl rfl (v_pick_f rfl rfl rfl) ?_
                            refine o_nil ?_
                            with_reducible refine r_then ?_
                            refine r_cond rfl (fun hc108 => ?_) (fun hc108 => ?_)
                            ·
                              (exfalso; revert hc108; decide)
                            ·
                              refine r_skip ?_
                              with_reducible refine r_then ?_
                              refine r_seq ?_
                              refine r_seq ?_
                              refine r_region ?_
                              refine o_q _ rfl rfl rfl (v_move rfl rfl) ?_
                              refine o_q _ rfl rfl rfl (v_len rfl rfl Try.underlying43 rfl) ?_
                              refine o_q _ rfl rfl rfl (v_move rfl rfl) ?_
                              refine o_nil ?_
                              with_reducible refine r_then ?_
                              refine r_block ?_
                              refine r_loop (ι := Nat) (fun i => i ≤ B.banks.length) (fun i => [(5, pt b5 0), (6, .slice oe (bearL B (drawP bys) B.banks.length).length ce), (7, .slice ow (watL B (drawP bys) B.rain.length).length cw), (10, i64 (untilB (trulyB B (drawP bys))).1), (11, i64 (untilB (trulyB B (drawP bys))).2), (12, .bool (decide (calmF (trulyB B (drawP bys)).banks.length (bearF B (drawP bys)) (watF B (drawP bys)) d i = 1))), (13, i64 d), (14, i64 ((watF B (drawP bys)) d)), (17, i64 (mvTo (sureB (trulyB B (drawP bys)) d) (trulyB B (drawP bys)).banks.length : Nat)), (18, i64 (mvTo (someB (trulyB B (drawP bys)) d) (trulyB B (drawP bys)).banks.length : Nat)), (20, i64 (gradeB (trulyB B (drawP bys)) (d : Int))), (67, .slice ow (watL B (drawP bys) B.rain.length).length cw), (68, i64 ((watL B (drawP bys) B.rain.length).length : Nat)), (69, i64 d), (109, .slice oe (bearL B (drawP bys) B.banks.length).length ce), (110, i64 ((bearL B (drawP bys) B.banks.length).length : Nat)), (111, i64 i)]) (fun i => bx b5 28 (cellsB (trulyB B (drawP bys)) bo ro oz bc rc cz) :: M) (fun i => [rowD bo 4 encB (trulyB B (drawP bys)).banks, rowD ro 2 encS (trulyB B (drawP bys)).rain, rowD oz 3 encG (trulyB B (drawP bys)).signs, rowD oe 1 encI (bearL B (drawP bys) B.banks.length), rowD ow 1 encI (watL B (drawP bys) B.rain.length)] ++ ([rowD ba 1 encH bys, rowD bo 4 encB B.banks, rowD ro 2 encS B.rain, rowD so 3 encG B.signs] ++ Rf)) (fun i => B.banks.length - i) 0 ?_ ?_ ?_
                              ·
                                exact r_here (by repeat (first | exact FSub.nil | refine FSub.cons rfl ?_)) SelMC.sel SubRC.sub
                              ·
                                omega
                              ·
                                rintro i hI1
                                refine r_seq ?_
                                refine r_region ?_
                                refine o_q _ rfl rfl rfl (v_lss rfl rfl rfl) ?_
                                refine o_nil ?_
                                with_reducible refine r_then ?_
                                refine r_seq ?_
                                refine r_condd rfl (fun hc112 => ?_) (fun hc112 => ?_)
                                ·
                                  refine r_skip ?_
                                  with_reducible refine r_then ?_
                                  refine r_seq ?_
                                  refine r_block ?_
                                  refine r_seq ?_
                                  refine r_region ?_
                                  refine o_q _ rfl rfl rfl (v_move rfl rfl) ?_
                                  refine o_q _ rfl rfl rfl (v_indexAddrSn rfl Try.underlying43 inf3 rfl rfl rfl (by omega) rfl) ?_
                                  refine o_q _ rfl rfl rfl (v_cast (v := i64 ((bearF B (drawP bys)) i)) (v_loadE1 rfl Try.underlying3 rfl rfl (by omega) rfl rfl) (congrArg (Value.int .i64) (bearL_at _ _ (by omega)))) ?_
                                  refine o_q _ rfl rfl rfl (v_assign rfl rfl) ?_
                                  refine o_q _ rfl rfl rfl (v_assign rfl rfl) ?_
                                  refine o_nil ?_
                                  with_reducible refine r_then ?_
                                  refine r_seq ?_
                                  have hmi := tr_margin hgx hway (i := i) (d := d) (by omega) (by omega)
                                  have hkb := bear_bd hg hf9 (i := i) (by omega)
                                  have hwb := wat_bd hg hf9 (d := d) (by omega)
                                  have hcs := calmF_s (n := (trulyB B (drawP bys)).banks.length) (k := (bearF B (drawP bys))) (w := (watF B (drawP bys))) (d := d) (i := i)
                                  refine r_region ?_
                                  refine o_q _ rfl rfl rfl (v_ldW rfl Try.underlying28 rfl inf28 rfl rfl) ?_
                                  refine o_q _ rfl rfl rfl (v_move rfl rfl) ?_
                                  refine o_q _ rfl rfl rfl (v_move rfl rfl) ?_
                                  refine o_q _ rfl rfl rfl (v_cast (v := .tuple #[vS (marginT (tB (trulyB B (drawP bys))) i d), i64 0]) (OpQ.fn (Margin_v (trulyB B (drawP bys)) bo ro oz bc rc cz (i : Int) (d : Int) (by omega) (by omega) (by omega)) rfl rfl SubRC.sub) (by rw [marginB, ansB_0 (chkB_0 (v := decide ((0 ≤ (i : Int) ∧ (i : Int) ≤ ((trulyB B (drawP bys)).banks.length : Int) - 1) ∧ (0 ≤ (d : Int) ∧ (d : Int) ≤ ((trulyB B (drawP bys)).rain.length : Int)))) hgx (decide_eq_true (by omega)) hcx)]; try rfl)) ?_
                                  refine o_q _ rfl rfl rfl (v_move rfl rfl) ?_
                                  refine o_q _ rfl rfl rfl (v_extract rfl rfl rfl) ?_
                                  refine o_q _ rfl rfl rfl (v_extract rfl rfl rfl) ?_
                                  refine o_alloc rfl inf24 rfl rfl rfl rfl rfl (fun b24 => ?_)
                                  refine o_st rfl inf24 rfl rfl rfl rfl rfl rfl rfl rfl ?_
                                  refine o_q _ rfl rfl rfl (v_assign rfl rfl) ?_
                                  refine o_nil ?_
                                  with_reducible refine r_then ?_
                                  refine r_seq ?_
                                  refine r_seq ?_
                                  refine r_region ?_
                                  refine o_q _ rfl rfl rfl (v_move rfl rfl) ?_
                                  refine o_q _ rfl rfl rfl (v_false (v_neq rfl rfl rfl) (by omega)) ?_
                                  all_goals
                                    refine o_q _ rfl rfl rfl (v_move rfl rfl) ?_
                                    refine o_g _ rfl rfl rfl rfl (v_move rfl rfl) ?_
                                    refine o_g _ rfl rfl rfl rfl (v_move rfl rfl) ?_
                                    refine o_g _ rfl rfl rfl rfl (v_sub rfl rfl rfl (by omega)) ?_
                                    refine o_g _ rfl rfl rfl rfl (v_ldW rfl Try.underlying24 rfl inf24 rfl rfl) ?_
                                    refine o_g _ rfl rfl rfl rfl (v_true (OpQ.fn (inside_v ((bearF B (drawP bys)) i - (watF B (drawP bys)) d) (marginT (tB (trulyB B (drawP bys))) i d)) rfl rfl SubRC.sub) (by omega)) ?_
                                    all_goals
                                      refine o_g _ rfl rfl rfl rfl (v_not rfl rfl) ?_
                                      refine o_q _ rfl rfl rfl (v_pick_f rfl rfl rfl) ?_
                                      refine o_q _ rfl rfl rfl (v_move rfl rfl) ?_
                                      refine o_g _ rfl rfl rfl rfl (v_move rfl rfl) ?_
                                      refine o_g _ rfl rfl rfl rfl (v_move rfl rfl) ?_
                                      refine o_g _ rfl rfl rfl rfl (v_shrn (a := mvTo (sureB (trulyB B (drawP bys)) d) (trulyB B (drawP bys)).banks.length) (h := i) rfl rfl rfl hsl (by omega)) ?_
                                      refine o_g _ rfl rfl rfl rfl (v_andn (a := mvTo (sureB (trulyB B (drawP bys)) d) (trulyB B (drawP bys)).banks.length >>> i) (b := 1) rfl rfl rfl (Nat.lt_of_le_of_lt (Nat.shiftRight_le _ _) hsl) (by decide)) ?_
                                      refine o_gtest rfl rfl rfl rfl (v_cast (v := .bool (decide ((marginT (tB (trulyB B (drawP bys))) i d).hi < 0))) (v_eql rfl rfl rfl) (congrArg Value.bool (bit_dec (by omega)))) (fun h138 => ?_) (fun h138 => ?_)
                                      all_goals
                                        refine o_g _ rfl rfl rfl rfl (v_move rfl rfl) ?_
                                        first | refine o_gn rfl rfl rfl rfl ?_ | refine o_g _ rfl rfl rfl rfl (v_move rfl rfl) ?_
                                        first | refine o_gn rfl rfl rfl rfl ?_ | refine o_g _ rfl rfl rfl rfl (v_move rfl rfl) ?_
                                        first | refine o_gn rfl rfl rfl rfl ?_ | refine o_g _ rfl rfl rfl rfl (v_false (v_geq rfl rfl rfl) (by omega)) ?_
                                        all_goals
                                          first | refine o_g _ rfl rfl rfl rfl (v_pick_t rfl rfl rfl) ?_ | refine o_g _ rfl rfl rfl rfl (v_pick_f rfl rfl rfl) ?_
                                          refine o_q _ rfl rfl rfl (v_pick_f rfl rfl rfl) ?_
                                          refine o_q _ rfl rfl rfl (v_move rfl rfl) ?_
                                          refine o_g _ rfl rfl rfl rfl (v_move rfl rfl) ?_
                                          refine o_g _ rfl rfl rfl rfl (v_move rfl rfl) ?_
                                          refine o_g _ rfl rfl rfl rfl (v_shrn (a := mvTo (someB (trulyB B (drawP bys)) d) (trulyB B (drawP bys)).banks.length) (h := i) rfl rfl rfl hpl (by omega)) ?_
                                          refine o_g _ rfl rfl rfl rfl (v_andn (a := mvTo (someB (trulyB B (drawP bys)) d) (trulyB B (drawP bys)).banks.length >>> i) (b := 1) rfl rfl rfl (Nat.lt_of_le_of_lt (Nat.shiftRight_le _ _) hpl) (by decide)) ?_
                                          first | refine o_g _ rfl rfl rfl rfl (v_false (v_cast (v := .bool (decide (0 ≤ (marginT (tB (trulyB B (drawP bys))) i d).lo))) (v_eql rfl rfl rfl) (congrArg Value.bool ((bit_dec0 (by omega)).trans some_not))) (by omega)) ?_ | refine o_gtest rfl rfl rfl rfl (v_cast (v := .bool (decide (0 ≤ (marginT (tB (trulyB B (drawP bys))) i d).lo))) (v_eql rfl rfl rfl) (congrArg Value.bool ((bit_dec0 (by omega)).trans some_not))) (fun h150 => ?_) (fun h150 => ?_)
                                          all_goals
                                            refine o_g _ rfl rfl rfl rfl (v_move rfl rfl) ?_
                                            first | refine o_gn rfl rfl rfl rfl ?_ | refine o_g _ rfl rfl rfl rfl (v_move rfl rfl) ?_
                                            first | refine o_gn rfl rfl rfl rfl ?_ | refine o_g _ rfl rfl rfl rfl (v_move rfl rfl) ?_
                                            first | refine o_gn rfl rfl rfl rfl ?_ | refine o_g _ rfl rfl rfl rfl (v_false (v_lss rfl rfl rfl) (by omega)) ?_
                                            all_goals
                                              first | refine o_g _ rfl rfl rfl rfl (v_pick_t rfl rfl rfl) ?_ | refine o_g _ rfl rfl rfl rfl (v_pick_f rfl rfl rfl) ?_
                                              refine o_q _ rfl rfl rfl (v_pick_f rfl rfl rfl) ?_
                                              refine o_nil ?_
                                              with_reducible refine r_then ?_
                                              refine r_cond rfl (fun hc156 => ?_) (fun hc156 => ?_)
                                              ·
                                                (exfalso; revert hc156; decide)
                                              ·
                                                refine r_skip ?_
                                                with_reducible refine r_then ?_
                                                refine r_region ?_
                                                refine o_q _ rfl rfl rfl (v_move rfl rfl) ?_
                                                refine o_test rfl rfl rfl (v_move rfl rfl) (fun h158 => ?_) (fun h158 => ?_)
                                                all_goals
                                                  first | refine o_gn rfl rfl rfl rfl ?_ | refine o_g _ rfl rfl rfl rfl (v_move rfl rfl) ?_
                                                  first | refine o_gn rfl rfl rfl rfl ?_ | refine o_g _ rfl rfl rfl rfl (v_move rfl rfl) ?_
                                                  first | refine o_gn rfl rfl rfl rfl ?_ | refine o_g _ rfl rfl rfl rfl (v_true (v_geq rfl rfl rfl) (by omega)) ?_ | refine o_g _ rfl rfl rfl rfl (v_false (v_geq rfl rfl rfl) (by omega)) ?_ | refine o_gtest rfl rfl rfl rfl (v_geq rfl rfl rfl) (fun h161 => ?_) (fun h161 => ?_)
                                                  all_goals
                                                    first | refine o_q _ rfl rfl rfl (v_pick_t rfl rfl rfl) ?_ | refine o_q _ rfl rfl rfl (v_pick_f rfl rfl rfl) ?_
                                                    refine o_q _ rfl rfl rfl (v_assign rfl rfl) ?_
                                                    refine o_nil ?_
                                                    with_reducible refine r_in_normal ?_; refine r_then ?_
                                                    refine r_region ?_
                                                    refine o_q _ rfl rfl rfl (v_add rfl rfl rfl (by omega)) ?_
                                                    refine o_q _ rfl rfl rfl (v_move rfl rfl) ?_
                                                    refine o_nil ?_
                                                    with_reducible refine r_then ?_
                                                    refine r_next (i + 1) ?_ ?_ ?_
                                                    ·
                                                      exact r_here (by repeat (first | exact FSub.nil | refine FSub.cons rfl ?_ | refine FSub.cons2 rfl (congrArg Value.bool (decide_eq_true (by omega)).symm) ?_ | refine FSub.cons2 rfl (congrArg Value.bool (decide_eq_false (by omega)).symm) ?_ | refine FSub.cons2 rfl (congrArg Value.bool (decide_eq_decide.2 (by omega))) ?_)) SelMC.sel SubRC.sub
                                                    ·
                                                      omega
                                                    ·
                                                      omega
                                ·
                                  refine r_exit ?_
                                  with_reducible refine r_then_exit ?_; refine r_then_exit ?_; refine r_in_here ?_; refine r_then ?_
                                  refine r_seq ?_
                                  obtain rfl : i = (trulyB B (drawP bys)).banks.length := by omega
                                  have hA := tr_always hgx hway (d := d) (by omega)
                                  have hU := tr_until hgx hway (d := d) (by omega)
                                  have hN := tr_never hgx hway (d := d)
                                  have hcn := calmF_n (n := (trulyB B (drawP bys)).banks.length) (k := (bearF B (drawP bys))) (w := (watF B (drawP bys))) (d := d)
                                  have hgb := grade_bd (trulyB B (drawP bys)) (d : Int)
                                  refine r_region ?_
                                  refine o_q _ rfl rfl rfl (v_move rfl rfl) ?_
                                  refine o_test rfl rfl rfl (v_eql rfl rfl rfl) (fun h165 => ?_) (fun h165 => ?_)
                                  all_goals
                                    refine o_q _ rfl rfl rfl (v_move rfl rfl) ?_
                                    first | refine o_gn rfl rfl rfl rfl ?_ | refine o_g _ rfl rfl rfl rfl (v_true (v_move rfl rfl) (by omega)) ?_
                                    all_goals
                                      first | refine o_gn rfl rfl rfl rfl ?_ | refine o_g _ rfl rfl rfl rfl (v_not rfl rfl) ?_
                                      first | refine o_q _ rfl rfl rfl (v_pick_t rfl rfl rfl) ?_ | refine o_q _ rfl rfl rfl (v_pick_f rfl rfl rfl) ?_
                                      refine o_q _ rfl rfl rfl (v_move rfl rfl) ?_
                                      refine o_g _ rfl rfl rfl rfl (v_move rfl rfl) ?_
                                      first | refine o_g _ rfl rfl rfl rfl (v_false (v_eql rfl rfl rfl) (by omega)) ?_ | refine o_gtest rfl rfl rfl rfl (v_eql rfl rfl rfl) (fun h172 => ?_) (fun h172 => ?_)
                                      all_goals
                                        refine o_g _ rfl rfl rfl rfl (v_move rfl rfl) ?_
                                        first | refine o_gn rfl rfl rfl rfl ?_ | refine o_g _ rfl rfl rfl rfl (v_false (v_move rfl rfl) (by omega)) ?_
                                        all_goals
                                          first | refine o_g _ rfl rfl rfl rfl (v_pick_t rfl rfl rfl) ?_ | refine o_g _ rfl rfl rfl rfl (v_pick_f rfl rfl rfl) ?_
                                          refine o_q _ rfl rfl rfl (v_pick_f rfl rfl rfl) ?_
                                          refine o_q _ rfl rfl rfl (v_move rfl rfl) ?_
                                          refine o_g _ rfl rfl rfl rfl (v_move rfl rfl) ?_
                                          first | refine o_g _ rfl rfl rfl rfl (v_true (v_eql rfl rfl rfl) (by omega)) ?_ | refine o_g _ rfl rfl rfl rfl (v_false (v_eql rfl rfl rfl) (by omega)) ?_
                                          all_goals
                                            refine o_g _ rfl rfl rfl rfl (v_move rfl rfl) ?_
                                            first | refine o_gn rfl rfl rfl rfl ?_ | refine o_g _ rfl rfl rfl rfl (v_move rfl rfl) ?_
                                            first | refine o_gn rfl rfl rfl rfl ?_ | refine o_g _ rfl rfl rfl rfl (v_move rfl rfl) ?_
                                            first | refine o_gn rfl rfl rfl rfl ?_ | refine o_g _ rfl rfl rfl rfl (v_false (v_leq rfl rfl rfl) (by omega)) ?_ | refine o_gtest rfl rfl rfl rfl (v_leq rfl rfl rfl) (fun h183 => ?_) (fun h183 => ?_)
                                            all_goals
                                              first | refine o_g _ rfl rfl rfl rfl (v_pick_t rfl rfl rfl) ?_ | refine o_g _ rfl rfl rfl rfl (v_pick_f rfl rfl rfl) ?_
                                              refine o_g _ rfl rfl rfl rfl (v_move rfl rfl) ?_
                                              first | refine o_gn rfl rfl rfl rfl ?_ | refine o_g _ rfl rfl rfl rfl (v_true (v_move rfl rfl) (by omega)) ?_
                                              all_goals
                                                first | refine o_gn rfl rfl rfl rfl ?_ | refine o_g _ rfl rfl rfl rfl (v_not rfl rfl) ?_
                                                first | refine o_g _ rfl rfl rfl rfl (v_pick_t rfl rfl rfl) ?_ | refine o_g _ rfl rfl rfl rfl (v_pick_f rfl rfl rfl) ?_
                                                refine o_q _ rfl rfl rfl (v_pick_f rfl rfl rfl) ?_
                                                refine o_nil ?_
                                                with_reducible refine r_then ?_
                                                refine r_cond rfl (fun hc189 => ?_) (fun hc189 => ?_)
                                                ·
                                                  (exfalso; revert hc189; decide)
                                                ·
                                                  refine r_skip ?_
                                                  with_reducible refine r_in_normal ?_; refine r_then ?_
                                                  refine r_region ?_
                                                  refine o_q _ rfl rfl rfl (v_add rfl rfl rfl (by omega)) ?_
                                                  refine o_q _ rfl rfl rfl (v_move rfl rfl) ?_
                                                  refine o_nil ?_
                                                  with_reducible refine r_then ?_
                                                  refine r_next (d + 1) ?_ ?_ ?_
                                                  ·
                                                    exact r_here (by repeat (first | exact FSub.nil | refine FSub.cons rfl ?_ | refine FSub.cons2 rfl (congrArg Value.bool (decide_eq_true (by omega)).symm) ?_ | refine FSub.cons2 rfl (congrArg Value.bool (decide_eq_false (by omega)).symm) ?_ | refine FSub.cons2 rfl (congrArg Value.bool (decide_eq_decide.2 (by omega))) ?_)) SelMC.sel SubRC.sub
                                                  ·
                                                    omega
                                                  ·
                                                    omega
                  ·
                    refine r_exit ?_
                    with_reducible refine r_then_exit ?_; refine r_then_exit ?_; refine r_in_here ?_; refine r_then ?_
                    refine r_seq ?_
                    refine r_seq ?_
                    refine r_region ?_
                    refine o_q _ rfl rfl rfl (v_move rfl rfl) ?_
                    refine o_q _ rfl rfl rfl (v_len rfl rfl Try.underlying43 rfl) ?_
                    refine o_q _ rfl rfl rfl (v_move rfl rfl) ?_
                    refine o_nil ?_
                    with_reducible refine r_then ?_
                    refine r_block ?_
                    refine r_loop (ι := Nat) (fun i => i ≤ B.banks.length) (fun i => [(5, pt b5 0), (7, .slice ow (watL B (drawP bys) B.rain.length).length cw), (191, .slice oe (bearL B (drawP bys) B.banks.length).length ce), (192, i64 ((bearL B (drawP bys) B.banks.length).length : Nat)), (193, i64 i)]) (fun i => bx b5 28 (cellsB (trulyB B (drawP bys)) bo ro oz bc rc cz) :: M) (fun i => [rowD bo 4 encB (trulyB B (drawP bys)).banks, rowD ro 2 encS (trulyB B (drawP bys)).rain, rowD oz 3 encG (trulyB B (drawP bys)).signs, rowD oe 1 encI (bearL B (drawP bys) B.banks.length), rowD ow 1 encI (watL B (drawP bys) B.rain.length)] ++ ([rowD ba 1 encH bys, rowD bo 4 encB B.banks, rowD ro 2 encS B.rain, rowD so 3 encG B.signs] ++ Rf)) (fun i => B.banks.length - i) 0 ?_ ?_ ?_
                    ·
                      exact r_here (by repeat (first | exact FSub.nil | refine FSub.cons rfl ?_)) SelMC.sel SubRC.sub
                    ·
                      omega
                    ·
                      rintro i hI2
                      refine r_seq ?_
                      refine r_region ?_
                      refine o_q _ rfl rfl rfl (v_lss rfl rfl rfl) ?_
                      refine o_nil ?_
                      with_reducible refine r_then ?_
                      refine r_seq ?_
                      refine r_condd rfl (fun hc194 => ?_) (fun hc194 => ?_)
                      ·
                        refine r_skip ?_
                        with_reducible refine r_then ?_
                        refine r_seq ?_
                        refine r_block ?_
                        refine r_seq ?_
                        refine r_region ?_
                        refine o_q _ rfl rfl rfl (v_move rfl rfl) ?_
                        refine o_q _ rfl rfl rfl (v_indexAddrSn rfl Try.underlying43 inf3 rfl rfl rfl (by omega) rfl) ?_
                        refine o_q _ rfl rfl rfl (v_cast (v := i64 ((bearF B (drawP bys)) i)) (v_loadE1 rfl Try.underlying3 rfl rfl (by omega) rfl rfl) (congrArg (Value.int .i64) (bearL_at _ _ (by omega)))) ?_
                        refine o_q _ rfl rfl rfl (v_assign rfl rfl) ?_
                        refine o_q _ rfl rfl rfl (v_assign rfl rfl) ?_
                        refine o_nil ?_
                        with_reducible refine r_then ?_
                        refine r_seq ?_
                        have hsc := spare_cases hgx hcx (i := i) (by omega)
                        have hkb := bear_bd hg hf9 (i := i) (by omega)
                        refine r_region ?_
                        refine o_q _ rfl rfl rfl (v_ldW rfl Try.underlying28 rfl inf28 rfl rfl) ?_
                        refine o_q _ rfl rfl rfl (v_move rfl rfl) ?_
                        refine o_q _ rfl rfl rfl (OpQ.fn (spare_v (trulyB B (drawP bys)) bo ro oz bc rc cz (i : Int) (by omega) (by omega) (by omega)) rfl rfl SubRC.sub) ?_
                        refine o_q _ rfl rfl rfl (v_move rfl rfl) ?_
                        refine o_q _ rfl rfl rfl (v_extract rfl rfl rfl) ?_
                        refine o_q _ rfl rfl rfl (v_extract rfl rfl rfl) ?_
                        refine o_q _ rfl rfl rfl (v_assign rfl rfl) ?_
                        refine o_q _ rfl rfl rfl (v_assign rfl rfl) ?_
                        refine o_nil ?_
                        with_reducible refine r_then ?_
                        refine r_seq ?_
                        refine r_seq ?_
                        refine r_region ?_
                        refine o_q _ rfl rfl rfl (v_move rfl rfl) ?_
                        refine o_test rfl rfl rfl (v_neq rfl rfl rfl) (fun h205 => ?_) (fun h205 => ?_)
                        all_goals
                          refine o_q _ rfl rfl rfl (v_move rfl rfl) ?_
                          first | refine o_gn rfl rfl rfl rfl ?_ | refine o_g _ rfl rfl rfl rfl (v_move rfl rfl) ?_
                          first | refine o_gn rfl rfl rfl rfl ?_ | refine o_g _ rfl rfl rfl rfl (v_false (v_neq rfl rfl rfl) (by omega)) ?_
                          all_goals
                            first | refine o_gn rfl rfl rfl rfl ?_ | refine o_g _ rfl rfl rfl rfl (v_move rfl rfl) ?_
                            first | refine o_gn rfl rfl rfl rfl ?_ | refine o_g _ rfl rfl rfl rfl (v_move rfl rfl) ?_
                            first | refine o_gn rfl rfl rfl rfl ?_ | refine o_g _ rfl rfl rfl rfl (v_false (v_neq rfl rfl rfl) (by omega)) ?_
                            all_goals
                              first | refine o_gn rfl rfl rfl rfl ?_ | refine o_g _ rfl rfl rfl rfl (v_pick_f rfl rfl rfl) ?_
                              first | refine o_q _ rfl rfl rfl (v_pick_t rfl rfl rfl) ?_ | refine o_q _ rfl rfl rfl (v_pick_f rfl rfl rfl) ?_
                              refine o_q _ rfl rfl rfl (v_move rfl rfl) ?_
                              refine o_g _ rfl rfl rfl rfl (v_move rfl rfl) ?_
                              first | refine o_g _ rfl rfl rfl rfl (v_true (v_eql rfl rfl rfl) (by omega)) ?_ | refine o_g _ rfl rfl rfl rfl (v_false (v_eql rfl rfl rfl) (by omega)) ?_
                              all_goals
                                refine o_g _ rfl rfl rfl rfl (v_move rfl rfl) ?_
                                first | refine o_gn rfl rfl rfl rfl ?_ | refine o_g _ rfl rfl rfl rfl (v_move rfl rfl) ?_
                                first | refine o_gn rfl rfl rfl rfl ?_ | refine o_g _ rfl rfl rfl rfl (v_false (v_lss rfl rfl rfl) (by omega)) ?_
                                all_goals
                                  first | refine o_g _ rfl rfl rfl rfl (v_pick_t rfl rfl rfl) ?_ | refine o_g _ rfl rfl rfl rfl (v_pick_f rfl rfl rfl) ?_
                                  refine o_q _ rfl rfl rfl (v_pick_f rfl rfl rfl) ?_
                                  refine o_nil ?_
                                  with_reducible refine r_then ?_
                                  refine r_cond rfl (fun hc221 => ?_) (fun hc221 => ?_)
                                  ·
                                    (exfalso; revert hc221; decide)
                                  ·
                                    refine r_skip ?_
                                    with_reducible refine r_then ?_
                                    refine r_seq ?_
                                    refine r_region ?_
                                    refine o_q _ rfl rfl rfl (v_move rfl rfl) ?_
                                    refine o_q _ rfl rfl rfl (v_len rfl rfl Try.underlying43 rfl) ?_
                                    refine o_q _ rfl rfl rfl (v_move rfl rfl) ?_
                                    refine o_nil ?_
                                    with_reducible refine r_then ?_
                                    refine r_block ?_
                                    refine r_loop (ι := Nat) (fun j => j ≤ B.rain.length + 1) (fun j => [(5, pt b5 0), (7, .slice ow (watL B (drawP bys) B.rain.length).length cw), (27, i64 ((bearF B (drawP bys)) i)), (28, i64 (spareB (trulyB B (drawP bys)) i).1), (29, i64 (spareB (trulyB B (drawP bys)) i).2), (191, .slice oe (bearL B (drawP bys) B.banks.length).length ce), (192, i64 ((bearL B (drawP bys) B.banks.length).length : Nat)), (193, i64 i), (222, .slice ow (watL B (drawP bys) B.rain.length).length cw), (223, i64 ((watL B (drawP bys) B.rain.length).length : Nat)), (224, i64 j)]) (fun j => bx b5 28 (cellsB (trulyB B (drawP bys)) bo ro oz bc rc cz) :: M) (fun j => [rowD bo 4 encB (trulyB B (drawP bys)).banks, rowD ro 2 encS (trulyB B (drawP bys)).rain, rowD oz 3 encG (trulyB B (drawP bys)).signs, rowD oe 1 encI (bearL B (drawP bys) B.banks.length), rowD ow 1 encI (watL B (drawP bys) B.rain.length)] ++ ([rowD ba 1 encH bys, rowD bo 4 encB B.banks, rowD ro 2 encS B.rain, rowD so 3 encG B.signs] ++ Rf)) (fun j => B.rain.length + 1 - j) 0 ?_ ?_ ?_
                                    ·
                                      exact r_here (by repeat (first | exact FSub.nil | refine FSub.cons rfl ?_)) SelMC.sel SubRC.sub
                                    ·
                                      omega
                                    ·
                                      rintro j hI3
                                      refine r_seq ?_
                                      refine r_region ?_
                                      refine o_q _ rfl rfl rfl (v_lss rfl rfl rfl) ?_
                                      refine o_nil ?_
                                      with_reducible refine r_then ?_
                                      refine r_seq ?_
                                      refine r_condd rfl (fun hc225 => ?_) (fun hc225 => ?_)
                                      ·
                                        refine r_skip ?_
                                        with_reducible refine r_then ?_
                                        refine r_seq ?_
                                        refine r_block ?_
                                        refine r_seq ?_
                                        refine r_region ?_
                                        refine o_q _ rfl rfl rfl (v_indexAddrSn rfl Try.underlying43 inf3 rfl rfl rfl (by omega) rfl) ?_
                                        refine o_q _ rfl rfl rfl (v_cast (v := i64 ((watF B (drawP bys)) j)) (v_loadE1 rfl Try.underlying3 rfl rfl (by omega) rfl rfl) (congrArg (Value.int .i64) (watL_at _ _ (by omega)))) ?_
                                        refine o_q _ rfl rfl rfl (v_assign rfl rfl) ?_
                                        refine o_nil ?_
                                        with_reducible refine r_then ?_
                                        refine r_seq ?_
                                        have hsp := tr_spare hgx hway (i := i) (d := j) (by omega) (by omega)
                                        have hwb := wat_bd hg hf9 (d := j) (by omega)
                                        refine r_region ?_
                                        refine o_q _ rfl rfl rfl (v_move rfl rfl) ?_
                                        first | refine o_q _ rfl rfl rfl (v_true (v_eql rfl rfl rfl) (by omega)) ?_ | refine o_q _ rfl rfl rfl (v_false (v_eql rfl rfl rfl) (by omega)) ?_
                                        all_goals
                                          refine o_q _ rfl rfl rfl (v_move rfl rfl) ?_
                                          first | refine o_gn rfl rfl rfl rfl ?_ | refine o_g _ rfl rfl rfl rfl (v_move rfl rfl) ?_
                                          first | refine o_gn rfl rfl rfl rfl ?_ | refine o_g _ rfl rfl rfl rfl (v_move rfl rfl) ?_
                                          first | refine o_gn rfl rfl rfl rfl ?_ | refine o_g _ rfl rfl rfl rfl (v_sub rfl rfl rfl (by omega)) ?_
                                          first | refine o_gn rfl rfl rfl rfl ?_ | refine o_g _ rfl rfl rfl rfl (v_move rfl rfl) ?_
                                          first | refine o_gn rfl rfl rfl rfl ?_ | refine o_g _ rfl rfl rfl rfl (v_false (v_lss rfl rfl rfl) (by omega)) ?_
                                          all_goals
                                            first | refine o_q _ rfl rfl rfl (v_pick_t rfl rfl rfl) ?_ | refine o_q _ rfl rfl rfl (v_pick_f rfl rfl rfl) ?_
                                            refine o_nil ?_
                                            with_reducible refine r_then ?_
                                            refine r_cond rfl (fun hc236 => ?_) (fun hc236 => ?_)
                                            ·
                                              (exfalso; revert hc236; decide)
                                            ·
                                              refine r_skip ?_
                                              with_reducible refine r_in_normal ?_; refine r_then ?_
                                              refine r_region ?_
                                              refine o_q _ rfl rfl rfl (v_add rfl rfl rfl (by omega)) ?_
                                              refine o_q _ rfl rfl rfl (v_move rfl rfl) ?_
                                              refine o_nil ?_
                                              with_reducible refine r_then ?_
                                              refine r_next (j + 1) ?_ ?_ ?_
                                              ·
                                                exact r_here (by repeat (first | exact FSub.nil | refine FSub.cons rfl ?_)) SelMC.sel SubRC.sub
                                              ·
                                                omega
                                              ·
                                                omega
                                      ·
                                        refine r_exit ?_
                                        with_reducible refine r_then_exit ?_; refine r_then_exit ?_; refine r_in_here ?_; refine r_in_normal ?_; refine r_then ?_
                                        refine r_region ?_
                                        refine o_q _ rfl rfl rfl (v_add rfl rfl rfl (by omega)) ?_
                                        refine o_q _ rfl rfl rfl (v_move rfl rfl) ?_
                                        refine o_nil ?_
                                        with_reducible refine r_then ?_
                                        refine r_next (i + 1) ?_ ?_ ?_
                                        ·
                                          exact r_here (by repeat (first | exact FSub.nil | refine FSub.cons rfl ?_)) SelMC.sel SubRC.sub
                                        ·
                                          omega
                                        ·
                                          omega
                      ·
                        refine r_exit ?_
                        with_reducible refine r_then_exit ?_; refine r_then_exit ?_; refine r_in_here ?_; refine r_then ?_
                        refine r_seq ?_
                        refine r_region ?_
                        refine o_q _ rfl rfl rfl (OpQ.fn awake_v rfl rfl SubRC.sub) ?_
                        refine o_q _ rfl rfl rfl (v_assign rfl rfl) ?_
                        refine o_nil ?_
                        with_reducible refine r_then ?_
                        refine r_ret ?_
                        exact r_retv2 (Rd.tmp rfl rfl) rfl SelMC.sel SubRC.sub
theorem trues_v (bys : List Int) (ba : Option Addr) (uc : Nat) (hu : U16l bys) (hbl : bys.length ≤ 9223372036854775807) : FnV Try.prog 5 [valB B bo ro so bc rc sc, .slice ba bys.length uc] [rowD ba 1 encH bys, rowD bo 4 encB B.banks, rowD ro 2 encS B.rain, rowD so 3 encG B.signs] (.bool true) := by
  by_cases hn : ¬ farB B ∧ GoodB B
  · exact true_yes B bo ro so bc rc sc hn.1 hn.2 bys ba uc hu hbl
  · exact true_no B bo ro so bc rc sc hn bys ba uc hu hbl
end Go.Proofs.Ytoggggnlponfhaa

