/- Part 5 of 5 of what the proofs of this seat stand on: a small logic for walks, what the functions come to, and the walks themselves. No condition of its own. -/
import Derived.Test.YtoggggnlponfhaaV4
set_option linter.unusedVariables false
set_option linter.unusedSimpArgs false
namespace Go.Proofs.Ytoggggnlponfhaa
open Go.G Burst8
set_option maxRecDepth 1000000
attribute [local irreducible] G.ParO G.Fin
attribute [local irreducible] fw fwR fwC emptyT tabOf knownT canB boundsL
theorem bank_all {xs : List Bank} {sp : List Value} {i : Nat} {a b c d : Int} (hi : i < xs.length) : splice (xs.flatMap encB ++ sp) (i * 4) [i64 a, i64 b, i64 c, i64 d] = (xs.set i ⟨a, b, c, d⟩).flatMap encB ++ sp := by
  show ((((xs.flatMap encB ++ sp).set (i * 4 + 0) (i64 a)).set (i * 4 + 1) (i64 b)).set (i * 4 + 2) (i64 c)).set (i * 4 + 3) (i64 d) = _
  generalize hx : xs.getD i default = x
  obtain ⟨x1, x2, x3, x4⟩ := x
  rw [flat_set (y := ⟨a, x2, x3, x4⟩) encB_len xs i 0 hi (by decide) (by rw [hx]; rfl)]
  rw [flat_set (y := ⟨a, b, x3, x4⟩) encB_len _ i 1 (by rw [List.length_set]; exact hi) (by decide) (by rw [getD_set hi, if_pos rfl]; rfl)]
  rw [flat_set (y := ⟨a, b, c, x4⟩) encB_len _ i 2 (by rw [List.length_set, List.length_set]; exact hi) (by decide) (by rw [getD_set (by rw [List.length_set]; exact hi), if_pos rfl]; rfl)]
  rw [flat_set (y := ⟨a, b, c, d⟩) encB_len _ i 3 (by rw [List.length_set, List.length_set, List.length_set]; exact hi) (by decide) (by rw [getD_set (by rw [List.length_set, List.length_set]; exact hi), if_pos rfl]; rfl)]
  rw [List.set_set, List.set_set, List.set_set]
theorem knW_rows (B : Bog) (n : Int) : (knW B n).banks = B.banks ∧ (knW B n).rain = B.rain ∧ (knW B n).signs = B.signs := ⟨rfl, rfl, rfl⟩
theorem neq_same {p q : Prop} [Decidable p] [Decidable q] (h : p ↔ q) : (!(decide p == decide q)) = false := by
  rw [show decide p = decide q from decide_eq_decide.2 h]; cases decide q <;> rfl
variable (B : Bog) (bo ro so : Option Addr) (bc rc sc : Nat) (bb mb : Nat)
set_option maxHeartbeats 4000000 in
theorem Bears_v (hg : GoodB B) (k : Nat) (hk : k < B.banks.length) : FnV Try.prog 36 [valB B bo ro so bc rc sc, i64 k] [rowD bo 4 encB B.banks, rowD ro 2 encS B.rain, rowD so 3 encG B.signs] (.agg #[i64 ((B.banks.getD k default).blo - (B.banks.getD k default).chi), i64 ((B.banks.getD k default).bhi - (B.banks.getD k default).clo)]) := by
  obtain ⟨hq1, hq2⟩ := hg.banks k hk
  refine FnV.intro Try.call36 Try.func36 rfl Try.ntmps36 rfl ?_
  intro W M Rf
  refine r_seq ?_
  refine r_region ?_
  refine o_boxA rfl rfl rfl rfl rfl (fun b2 => ?_)
  refine o_alloc rfl inf24 rfl rfl rfl rfl rfl (fun b4 => ?_)
  refine o_nil ?_
  with_reducible refine r_then ?_
  refine r_seq ?_
  refine r_region ?_
  refine o_q _ rfl rfl rfl (v_fieldAddr rfl Try.underlying28 inf22 rfl rfl rfl rfl) ?_
  refine o_q _ rfl rfl rfl (v_ld1 rfl Try.underlying22 rfl rfl rfl) ?_
  refine o_q _ rfl rfl rfl (v_move rfl rfl) ?_
  refine o_q _ rfl rfl rfl (v_indexAddrSn rfl Try.underlying22 inf58 rfl rfl rfl (by omega) rfl) ?_
  refine o_q _ rfl rfl rfl (v_cast (v := .agg #[i64 (B.banks.getD k default).blo, i64 (B.banks.getD k default).bhi, i64 (B.banks.getD k default).clo, i64 (B.banks.getD k default).chi]) (v_loadEN rfl Try.underlying58 rfl inf58 rfl (by omega) rfl rfl rfl) rfl) ?_
  refine o_alloc rfl inf58 rfl rfl rfl rfl rfl (fun b5 => ?_)
  refine o_st rfl inf58 rfl rfl rfl rfl rfl rfl rfl rfl ?_
  refine o_nil ?_
  with_reducible refine r_then ?_
  refine r_seq ?_
  refine r_region ?_
  refine o_q _ rfl rfl rfl (v_fieldAddr rfl Try.underlying58 inf24 rfl rfl rfl rfl) ?_
  refine o_q _ rfl rfl rfl (v_fieldAddr rfl Try.underlying24 inf3 rfl rfl rfl rfl) ?_
  refine o_q _ rfl rfl rfl (v_ld1 rfl Try.underlying3 rfl rfl rfl) ?_
  refine o_q _ rfl rfl rfl (v_fieldAddr rfl Try.underlying58 inf24 rfl rfl rfl rfl) ?_
  refine o_q _ rfl rfl rfl (v_fieldAddr rfl Try.underlying24 inf3 rfl rfl rfl rfl) ?_
  refine o_q _ rfl rfl rfl (v_ld1 rfl Try.underlying3 rfl rfl rfl) ?_
  refine o_q _ rfl rfl rfl (v_sub rfl rfl rfl (by omega)) ?_
  refine o_q _ rfl rfl rfl (v_fieldAddr rfl Try.underlying58 inf24 rfl rfl rfl rfl) ?_
  refine o_q _ rfl rfl rfl (v_fieldAddr rfl Try.underlying24 inf3 rfl rfl rfl rfl) ?_
  refine o_q _ rfl rfl rfl (v_ld1 rfl Try.underlying3 rfl rfl rfl) ?_
  refine o_q _ rfl rfl rfl (v_fieldAddr rfl Try.underlying58 inf24 rfl rfl rfl rfl) ?_
  refine o_q _ rfl rfl rfl (v_fieldAddr rfl Try.underlying24 inf3 rfl rfl rfl rfl) ?_
  refine o_q _ rfl rfl rfl (v_ld1 rfl Try.underlying3 rfl rfl rfl) ?_
  refine o_q _ rfl rfl rfl (v_sub rfl rfl rfl (by omega)) ?_
  refine o_q _ rfl rfl rfl (v_bS rfl Try.underlying24 inf24 plt24 rfl rfl rfl (by repeat (first | exact trivial | refine ⟨rfl, ?_⟩)) (by rfl)) ?_
  refine o_st rfl inf24 rfl rfl rfl rfl rfl rfl rfl rfl ?_
  refine o_nil ?_
  with_reducible refine r_then ?_
  refine r_ret ?_
  exact r_retv2 (Rd.one rfl (RdI.cellW Try.underlying24 rfl inf24 rfl rfl)) rfl SelMC.sel SubRC.sub
set_option maxHeartbeats 4000000 in
theorem knownW_v (n : Int) : FnV Try.prog 35 [valB B bo ro so bc rc sc, i64 (-1), i64 n] [rowD bo 4 encB B.banks, rowD ro 2 encS B.rain, rowD so 3 encG B.signs] (valB (knW B n) bo ro so bc rc sc) := by
  refine FnV.intro Try.call35 Try.func35 rfl Try.ntmps35 rfl ?_
  intro W M Rf
  refine r_seq ?_
  refine r_region ?_
  refine o_boxA rfl rfl rfl rfl rfl (fun b3 => ?_)
  refine o_alloc rfl inf28 rfl rfl rfl rfl rfl (fun b6 => ?_)
  refine o_nil ?_
  with_reducible refine r_then ?_
  refine r_seq ?_
  refine r_region ?_
  refine o_q _ rfl rfl rfl (v_ldW rfl Try.underlying28 rfl inf28 rfl rfl) ?_
  refine o_alloc rfl inf28 rfl rfl rfl rfl rfl (fun b7 => ?_)
  refine o_st rfl inf28 rfl rfl rfl rfl rfl rfl rfl rfl ?_
  refine o_nil ?_
  with_reducible refine r_then ?_
  refine r_seq ?_
  refine r_seq ?_
  refine r_region ?_
  refine o_q _ rfl rfl rfl (v_move rfl rfl) ?_
  refine o_q _ rfl rfl rfl (v_lss rfl rfl rfl) ?_
  refine o_nil ?_
  with_reducible refine r_then ?_
  refine r_condd rfl (fun hc10 => ?_) (fun hc10 => ?_)
  ·
    refine r_seq ?_
    refine r_region ?_
    refine o_q _ rfl rfl rfl (v_move rfl rfl) ?_
    refine o_q _ rfl rfl rfl (v_move rfl rfl) ?_
    refine o_q _ rfl rfl rfl (OpQ.fn (lspan_v _ _) rfl rfl SubRC.sub) ?_
    refine o_q _ rfl rfl rfl (v_fieldAddr rfl Try.underlying28 inf24 rfl rfl rfl rfl) ?_
    refine o_st rfl inf24 rfl rfl rfl rfl rfl rfl rfl rfl ?_
    refine o_nil ?_
    with_reducible refine r_then ?_
    refine r_seq ?_
    refine r_region ?_
    refine o_q _ rfl rfl rfl (v_ldW rfl Try.underlying28 rfl inf28 rfl rfl) ?_
    refine o_st rfl inf28 rfl rfl rfl rfl rfl rfl rfl rfl ?_
    refine o_nil ?_
    with_reducible refine r_then ?_
    refine r_ret ?_
    with_reducible refine r_then_ret ?_
    exact r_retv2 (Rd.one rfl (RdI.cellW Try.underlying28 rfl inf28 rfl rfl)) rfl SelMC.sel SubRC.sub
  ·
    (exfalso; revert hc10; decide)
set_option maxHeartbeats 4000000 in
theorem knownB_s (k : Nat) (n : Int) (hk : k < B.banks.length) (hl : B.banks.length ≤ 40) : FnS Try.prog 35 [valB B bo ro so bc rc sc, i64 k, i64 n] [] [rowD bo 4 encB B.banks, rowD ro 2 encS B.rain, rowD so 3 encG B.signs] (fun e M' R' => ∃ xb xcap, e = .returned (valB (knB B k n) (some ⟨xb, 0, none⟩) ro so xcap rc sc) ∧ M' = [] ∧ R' = [rowD (some ⟨xb, 0, none⟩) 4 encB (knB B k n).banks, rowD ro 2 encS (knB B k n).rain, rowD so 3 encG (knB B k n).signs]) := by
  refine FnS.intro0 Try.call35 Try.func35 rfl Try.ntmps35 rfl ?_
  intro W M Rf
  refine r_seq ?_
  refine r_region ?_
  refine o_boxA rfl rfl rfl rfl rfl (fun b3 => ?_)
  refine o_alloc rfl inf28 rfl rfl rfl rfl rfl (fun b6 => ?_)
  refine o_nil ?_
  with_reducible refine r_then ?_
  refine r_seq ?_
  refine r_region ?_
  refine o_q _ rfl rfl rfl (v_ldW rfl Try.underlying28 rfl inf28 rfl rfl) ?_
  refine o_alloc rfl inf28 rfl rfl rfl rfl rfl (fun b7 => ?_)
  refine o_st rfl inf28 rfl rfl rfl rfl rfl rfl rfl rfl ?_
  refine o_nil ?_
  with_reducible refine r_then ?_
  refine r_seq ?_
  refine r_seq ?_
  refine r_region ?_
  refine o_q _ rfl rfl rfl (v_move rfl rfl) ?_
  refine o_q _ rfl rfl rfl (v_lss rfl rfl rfl) ?_
  refine o_nil ?_
  with_reducible refine r_then ?_
  refine r_condd rfl (fun hc10 => ?_) (fun hc10 => ?_)
  ·
    (exfalso; omega)
  ·
    refine r_skip ?_
    with_reducible refine r_then ?_
    refine r_seq ?_
    refine r_region ?_
    refine o_lit0' rfl Try.underlying22 inf58 rfl rfl rfl (fun b16 => ?_)
    refine o_q _ rfl rfl rfl (v_fieldAddr rfl Try.underlying28 inf22 rfl rfl rfl rfl) ?_
    refine o_q _ rfl rfl rfl (v_ld1 rfl Try.underlying22 rfl rfl rfl) ?_
    refine o_appN (sz := 4) rfl Try.underlying22 inf58 rfl rfl rfl encB_len rfl rfl rfl rfl rfl ⟨by omega, by decide⟩ (fun v19 => ?_)
    refine Imp.openZ (T := 58) (sz := 4) (enc := encB) (xs := B.banks) v19 (by omega) (fun xb xcap xsp hv => ?_)
    subst hv
    refine o_q _ rfl rfl rfl (v_fieldAddr rfl Try.underlying28 inf22 rfl rfl rfl rfl) ?_
    refine o_st rfl inf22 rfl rfl rfl rfl rfl rfl rfl rfl ?_
    refine o_nil ?_
    with_reducible refine r_then ?_
    refine r_seq ?_
    refine r_par' 8 mixed (by kernel_rfl) (by rfl) ?_
    refine p_q _ rfl rfl rfl (fun _ _ => v_fieldAddr rfl Try.underlying28 inf22 rfl rfl rfl rfl) ?_
    refine p_q _ rfl rfl rfl (fun _ _ => v_ld1 rfl Try.underlying22 rfl rfl rfl) ?_
    refine p_q _ rfl rfl rfl (fun _ _ => v_move rfl rfl) ?_
    refine p_q _ rfl rfl rfl (fun _ _ => v_move rfl rfl) ?_
    refine p_q _ rfl rfl rfl (fun _ _ => v_move rfl rfl) ?_
    refine p_q _ rfl rfl rfl (fun _ _ => OpQ.fn (lspan_v _ _) rfl rfl SubRC.sub) ?_
    refine p_q _ rfl rfl rfl (fun _ _ => v_bSp (us := [i64 n, i64 n, i64 0, i64 0]) rfl Try.underlying58 inf58 plt58 rfl rfl rfl (by repeat (first | exact trivial | refine ⟨rfl, ?_⟩)) (by show 2 ≤ 4; decide) rfl) ?_
    refine p_q _ rfl rfl rfl (fun _ _ => v_indexAddrB rfl Try.underlying22 inf58 rfl rfl hk) ?_
    refine p_nil2 (by simp only [List.nil_append, List.cons_append]; rfl) rfl ?_
    refine f_q rfl ?_
    refine f_q rfl ?_
    refine f_q rfl ?_
    refine f_q rfl ?_
    refine f_q rfl ?_
    refine f_q rfl ?_
    refine f_q rfl ?_
    refine f_q rfl ?_
    refine f_nil ?_
    refine o_st (us := [i64 n, i64 n, i64 0, i64 0]) rfl inf58 rfl rfl rfl rfl rfl rfl rfl (Nat.ble_eq_true_of_le (by rw [List.length_append, flat_len encB_len]; show k * 4 + 4 ≤ _; omega)) ?_
    refine o_nil ?_
    with_reducible refine r_then ?_
    refine r_seq ?_
    refine Imp.box_to xb ((knB B k n).banks.flatMap encB ++ xsp) ((bank_all hk).trans (by rw [knB_banks])) ?_
    refine Imp.sealB xb ?_
    refine Imp.rowP (b := xb) (knB B k n).banks encB_len rfl ?_
    refine Imp.derive (ψ := rowD ro 2 encS (knB B k n).rain) ?_ (fun V hV => by rw [(knB_rain B k n).1]; exact hV _ (by simp))
    refine Imp.derive (ψ := rowD so 3 encG (knB B k n).signs) ?_ (fun V hV => by rw [(knB_rain B k n).2]; exact hV _ (by simp))
    refine Imp.box_to b7 (cellsB (knB B k n) (some ⟨xb, 0, none⟩) ro so xcap rc sc) (knB_cells B k n _ _ _ _ _ _) ?_
    refine r_region ?_
    refine o_q _ rfl rfl rfl (v_ldW rfl Try.underlying28 rfl inf28 rfl rfl) ?_
    refine o_st rfl inf28 rfl rfl rfl rfl rfl rfl rfl rfl ?_
    refine o_nil ?_
    with_reducible refine r_then ?_
    refine r_ret ?_
    exact r_rete [] [rowD (some ⟨xb, 0, none⟩) 4 encB (knB B k n).banks, rowD ro 2 encS (knB B k n).rain, rowD so 3 encG (knB B k n).signs] (Rd.one rfl (RdI.cellW Try.underlying28 rfl inf28 rfl rfl)) ⟨xb, xcap, rfl, rfl, rfl⟩ SelMC.sel SubRC.sub
theorem o_knownB {W : World} {n' : Nat} {D : List Deferred} {L : Tm} {M : List Res} {R : List Fact} {Q : Exit → Act → World → Prop} {o : Oper} {ops : Array Oper} {rest : List Oper} {xs : List Operand} {ts : Array TypeId} {d : Nat} (k : Nat) (n : Int) (hk : k < B.banks.length) (hl : B.banks.length ≤ 40)
    (ho : o.op = .call { callee := .value (.func 35), args := xs.toArray, argTypes := ts }) (hx : evs L xs = some [valB B bo ro so bc rc sc, i64 k, i64 n]) (hgd : o.guard = none) (hdst : o.dst = some d) (hd : Nat.blt d n' = true) (hs : SubR R [rowD bo 4 encB B.banks, rowD ro 2 encS B.rain, rowD so 3 encG B.signs])
    (hret : ∀ xb xcap, Imp W n' D ((d, valB (knB B k n) (some ⟨xb, 0, none⟩) ro so xcap rc sc) :: L) M ([rowD (some ⟨xb, 0, none⟩) 4 encB (knB B k n).banks, rowD ro 2 encS (knB B k n).rain, rowD so 3 encG (knB B k n).signs] ++ R) (wpList Try.prog ops Q rest)) : Imp W n' D L M R (wpList Try.prog ops Q (o :: rest)) := by
  refine o_call (knownB_s B bo ro so bc rc sc k n hk hl) ho [] [] rfl hx (by simp) hgd (by simp [okD, hdst, hd]) SelM.refl hs ?_ ?_ ?_
  · rintro v M' R' ⟨xb, xcap, he, rfl, rfl⟩
    cases he
    rw [hdst]
    exact hret xb xcap
  · rintro c M' R' ⟨xb, xcap, he, _⟩; cases he
  · rintro M' R' ⟨xb, xcap, he, _⟩; cases he
attribute [local irreducible] knB knW setB marginB clashB
set_option maxHeartbeats 4000000 in
theorem ends_far (w0 : Nat) (b0 : w0 ≤ 255) (hf : farB B) : FnV Try.prog 6 [valB B bo ro so bc rc sc, .int .u8 w0] [rowD bo 4 encB B.banks, rowD ro 2 encS B.rain, rowD so 3 encG B.signs] (.bool true) := by
  refine FnV.intro Try.call6 Try.func6 rfl Try.ntmps6 rfl ?_
  intro W M Rf
  refine r_seq ?_
  refine r_region ?_
  refine o_boxA rfl rfl rfl rfl rfl (fun b2 => ?_)
  refine o_q _ rfl rfl rfl (v_assign rfl rfl) ?_
  refine o_nil ?_
  with_reducible refine r_then ?_
  refine r_seq ?_
  refine r_seq ?_
  refine r_region ?_
  refine o_q _ rfl rfl rfl (v_ldW rfl Try.underlying28 rfl inf28 rfl rfl) ?_
  refine o_q _ rfl rfl rfl (v_cast (v := .bool true) (OpQ.fn (far_v B bo ro so bc rc sc) rfl rfl SubRC.sub) (congrArg Value.bool (decide_eq_true hf))) ?_
  refine o_nil ?_
  with_reducible refine r_then ?_
  refine r_cond rfl (fun hc34 => ?_) (fun hc34 => ?_)
  ·
    refine r_seq ?_
    refine r_region ?_
    refine o_q _ rfl rfl rfl (OpQ.fn awake_v rfl rfl SubRC.sub) ?_
    refine o_q _ rfl rfl rfl (v_assign rfl rfl) ?_
    refine o_nil ?_
    with_reducible refine r_then ?_
    refine r_ret ?_
    with_reducible refine r_then_ret ?_
    exact r_retv2 (Rd.tmp rfl rfl) rfl SelMC.sel SubRC.sub
  ·
    (exfalso; revert hc34; decide)
set_option maxHeartbeats 4000000 in
theorem ends_bad (w0 : Nat) (b0 : w0 ≤ 255) (hf : ¬ farB B) (hg : ¬ GoodB B) : FnV Try.prog 6 [valB B bo ro so bc rc sc, .int .u8 w0] [rowD bo 4 encB B.banks, rowD ro 2 encS B.rain, rowD so 3 encG B.signs] (.bool true) := by
  have hf2 := hf
  unfold farB at hf2
  have hl1 : B.banks.length ≤ 40 := by omega
  have hl2 : B.rain.length ≤ 40 := by omega
  have hl3 : B.signs.length ≤ 40 := by omega
  refine FnV.intro Try.call6 Try.func6 rfl Try.ntmps6 rfl ?_
  intro W M Rf
  refine r_seq ?_
  refine r_region ?_
  refine o_boxA rfl rfl rfl rfl rfl (fun b2 => ?_)
  refine o_q _ rfl rfl rfl (v_assign rfl rfl) ?_
  refine o_nil ?_
  with_reducible refine r_then ?_
  refine r_seq ?_
  refine r_seq ?_
  refine r_region ?_
  refine o_q _ rfl rfl rfl (v_ldW rfl Try.underlying28 rfl inf28 rfl rfl) ?_
  refine o_q _ rfl rfl rfl (v_cast (v := .bool false) (OpQ.fn (far_v B bo ro so bc rc sc) rfl rfl SubRC.sub) (congrArg Value.bool (decide_eq_false hf))) ?_
  refine o_nil ?_
  with_reducible refine r_then ?_
  refine r_cond rfl (fun hc34 => ?_) (fun hc34 => ?_)
  ·
    (exfalso; revert hc34; decide)
  ·
    refine r_skip ?_
    with_reducible refine r_then ?_
    refine r_seq ?_
    refine r_region ?_
    refine o_q _ rfl rfl rfl (v_ldW rfl Try.underlying28 rfl inf28 rfl rfl) ?_
    refine o_q _ rfl rfl rfl (v_cast (v := .tuple #[vS ⟨0, 0⟩, i64 1]) (OpQ.fn (water_v B bo ro so bc rc sc (0 : Int) (by omega) (by omega) (by omega)) rfl rfl SubRC.sub) (by rw [waterB, ansB_n (chkB_1 hg) (by decide)]; try rfl)) ?_
    refine o_q _ rfl rfl rfl (v_move rfl rfl) ?_
    refine o_q _ rfl rfl rfl (v_extract rfl rfl rfl) ?_
    refine o_q _ rfl rfl rfl (v_extract rfl rfl rfl) ?_
    refine o_alloc rfl inf24 rfl rfl rfl rfl rfl (fun b5 => ?_)
    refine o_st rfl inf24 rfl rfl rfl rfl rfl rfl rfl rfl ?_
    refine o_q _ rfl rfl rfl (v_assign rfl rfl) ?_
    refine o_nil ?_
    with_reducible refine r_then ?_
    refine r_seq ?_
    refine r_seq ?_
    refine r_region ?_
    refine o_q _ rfl rfl rfl (v_ldW rfl Try.underlying28 rfl inf28 rfl rfl) ?_
    refine o_q _ rfl rfl rfl (v_cast (v := .bool false) (OpQ.fn (Burst_v B bo ro so bc rc sc (by omega) (by omega) (by omega)) rfl rfl SubRC.sub) (congrArg Value.bool (decide_eq_false hg))) ?_
    refine o_q _ rfl rfl rfl (v_not rfl rfl) ?_
    refine o_nil ?_
    with_reducible refine r_then ?_
    refine r_cond rfl (fun hc43 => ?_) (fun hc43 => ?_)
    ·
      refine r_seq ?_
      refine r_region ?_
      refine o_q _ rfl rfl rfl (v_ldW rfl Try.underlying28 rfl inf28 rfl rfl) ?_
      refine o_q _ rfl rfl rfl (v_cast (v := .tuple #[i64 0, i64 1]) (OpQ.fn (clash_v B bo ro so bc rc sc (by omega) (by omega) (by omega)) rfl rfl SubRC.sub) (by rw [clashB, if_neg hg]; try rfl)) ?_
      refine o_q _ rfl rfl rfl (v_move rfl rfl) ?_
      refine o_q _ rfl rfl rfl (v_extract rfl rfl rfl) ?_
      refine o_q _ rfl rfl rfl (v_extract rfl rfl rfl) ?_
      refine o_q _ rfl rfl rfl (v_assign rfl rfl) ?_
      refine o_q _ rfl rfl rfl (v_assign rfl rfl) ?_
      refine o_nil ?_
      with_reducible refine r_then ?_
      refine r_seq ?_
      refine r_region ?_
      refine o_q _ rfl rfl rfl (v_move rfl rfl) ?_
      refine o_q _ rfl rfl rfl (v_true (v_eql rfl rfl rfl) (by omega)) ?_
      all_goals
        refine o_q _ rfl rfl rfl (v_move rfl rfl) ?_
        refine o_g _ rfl rfl rfl rfl (v_move rfl rfl) ?_
        refine o_g _ rfl rfl rfl rfl (v_move rfl rfl) ?_
        refine o_g _ rfl rfl rfl rfl (v_true (v_eql rfl rfl rfl) (by omega)) ?_
        all_goals
          refine o_q _ rfl rfl rfl (v_pick_t rfl rfl rfl) ?_
          refine o_q _ rfl rfl rfl (v_move rfl rfl) ?_
          refine o_g _ rfl rfl rfl rfl (v_ldW rfl Try.underlying24 rfl inf24 rfl rfl) ?_
          refine o_g _ rfl rfl rfl rfl (v_bS0 rfl Try.underlying24 inf24 plt24 rfl rfl) ?_
          refine o_g _ rfl rfl rfl rfl (v_cast (v := .bool true) (v_eqP rfl rfl rfl guard24 (eq24 _ _ _ _)) (congrArg Value.bool (decide_eq_true rfl))) ?_
          refine o_q _ rfl rfl rfl (v_pick_t rfl rfl rfl) ?_
          refine o_q _ rfl rfl rfl (v_move rfl rfl) ?_
          refine o_g _ rfl rfl rfl rfl (v_move rfl rfl) ?_
          refine o_g _ rfl rfl rfl rfl (v_true (v_eql rfl rfl rfl) (by omega)) ?_
          all_goals
            refine o_q _ rfl rfl rfl (v_pick_t rfl rfl rfl) ?_
            refine o_q _ rfl rfl rfl (v_move rfl rfl) ?_
            refine o_g _ rfl rfl rfl rfl (OpQ.fn awake_v rfl rfl SubRC.sub) ?_
            refine o_q _ rfl rfl rfl (v_pick_t rfl rfl rfl) ?_
            refine o_q _ rfl rfl rfl (v_assign rfl rfl) ?_
            refine o_nil ?_
            with_reducible refine r_then ?_
            refine r_ret ?_
            with_reducible refine r_then_ret ?_
            exact r_retv2 (Rd.tmp rfl rfl) rfl SelMC.sel SubRC.sub
    ·
      (exfalso; revert hc43; decide)
set_option maxHeartbeats 4000000 in
theorem ends_cl (w0 : Nat) (b0 : w0 ≤ 255) (hf : ¬ farB B) (hg : GoodB B) (hc : canB B (allS B) 0 false = false) : FnV Try.prog 6 [valB B bo ro so bc rc sc, .int .u8 w0] [rowD bo 4 encB B.banks, rowD ro 2 encS B.rain, rowD so 3 encG B.signs] (.bool true) := by
  have hf2 := hf
  unfold farB at hf2
  have hl1 : B.banks.length ≤ 40 := by omega
  have hl2 : B.rain.length ≤ 40 := by omega
  have hl3 : B.signs.length ≤ 40 := by omega
  have hb1 := hg.nb
  have hb2 := hg.nr
  have hb3 := hg.ns
  refine FnV.intro Try.call6 Try.func6 rfl Try.ntmps6 rfl ?_
  intro W M Rf
  refine r_seq ?_
  refine r_region ?_
  refine o_boxA rfl rfl rfl rfl rfl (fun b2 => ?_)
  refine o_q _ rfl rfl rfl (v_assign rfl rfl) ?_
  refine o_nil ?_
  with_reducible refine r_then ?_
  refine r_seq ?_
  refine r_seq ?_
  refine r_region ?_
  refine o_q _ rfl rfl rfl (v_ldW rfl Try.underlying28 rfl inf28 rfl rfl) ?_
  refine o_q _ rfl rfl rfl (v_cast (v := .bool false) (OpQ.fn (far_v B bo ro so bc rc sc) rfl rfl SubRC.sub) (congrArg Value.bool (decide_eq_false hf))) ?_
  refine o_nil ?_
  with_reducible refine r_then ?_
  refine r_cond rfl (fun hc34 => ?_) (fun hc34 => ?_)
  ·
    (exfalso; revert hc34; decide)
  ·
    refine r_skip ?_
    with_reducible refine r_then ?_
    refine r_seq ?_
    refine r_region ?_
    refine o_q _ rfl rfl rfl (v_ldW rfl Try.underlying28 rfl inf28 rfl rfl) ?_
    refine o_q _ rfl rfl rfl (v_cast (v := .tuple #[vS ⟨0, 0⟩, i64 10]) (OpQ.fn (water_v B bo ro so bc rc sc (0 : Int) (by omega) (by omega) (by omega)) rfl rfl SubRC.sub) (by rw [waterB, ansB_n (chkB_10 (v := isD B (0 : Int)) hg (decide_eq_true (by omega)) hc) (by decide)]; try rfl)) ?_
    refine o_q _ rfl rfl rfl (v_move rfl rfl) ?_
    refine o_q _ rfl rfl rfl (v_extract rfl rfl rfl) ?_
    refine o_q _ rfl rfl rfl (v_extract rfl rfl rfl) ?_
    refine o_alloc rfl inf24 rfl rfl rfl rfl rfl (fun b5 => ?_)
    refine o_st rfl inf24 rfl rfl rfl rfl rfl rfl rfl rfl ?_
    refine o_q _ rfl rfl rfl (v_assign rfl rfl) ?_
    refine o_nil ?_
    with_reducible refine r_then ?_
    refine r_seq ?_
    refine r_seq ?_
    refine r_region ?_
    refine o_q _ rfl rfl rfl (v_ldW rfl Try.underlying28 rfl inf28 rfl rfl) ?_
    refine o_q _ rfl rfl rfl (v_cast (v := .bool true) (OpQ.fn (Burst_v B bo ro so bc rc sc (by omega) (by omega) (by omega)) rfl rfl SubRC.sub) (congrArg Value.bool (decide_eq_true hg))) ?_
    refine o_q _ rfl rfl rfl (v_not rfl rfl) ?_
    refine o_nil ?_
    with_reducible refine r_then ?_
    refine r_cond rfl (fun hc43 => ?_) (fun hc43 => ?_)
    ·
      (exfalso; revert hc43; decide)
    ·
      refine r_skip ?_
      with_reducible refine r_then ?_
      refine r_seq ?_
      refine r_region ?_
      refine o_q _ rfl rfl rfl (v_ldW rfl Try.underlying28 rfl inf28 rfl rfl) ?_
      refine o_q _ rfl rfl rfl (v_fieldAddr rfl Try.underlying28 inf25 rfl rfl rfl rfl) ?_
      refine o_q _ rfl rfl rfl (v_ld1 rfl Try.underlying25 rfl rfl rfl) ?_
      refine o_q _ rfl rfl rfl (v_len rfl rfl Try.underlying25 rfl) ?_
      refine o_q _ rfl rfl rfl (v_add rfl rfl rfl (by omega)) ?_
      refine o_q _ rfl rfl rfl (v_cast (v := .tuple #[vS ⟨0, 0⟩, i64 2]) (OpQ.fn (water_v B bo ro so bc rc sc ((B.rain.length : Int) + 1) (by omega) (by omega) (by omega)) rfl rfl SubRC.sub) (by rw [waterB, ansB_n (chkB_2 hg (decide_eq_false (by omega))) (by decide)]; try rfl)) ?_
      refine o_q _ rfl rfl rfl (v_move rfl rfl) ?_
      refine o_q _ rfl rfl rfl (v_extract rfl rfl rfl) ?_
      refine o_q _ rfl rfl rfl (v_extract rfl rfl rfl) ?_
      refine o_alloc rfl inf24 rfl rfl rfl rfl rfl (fun b9 => ?_)
      refine o_st rfl inf24 rfl rfl rfl rfl rfl rfl rfl rfl ?_
      refine o_q _ rfl rfl rfl (v_assign rfl rfl) ?_
      refine o_nil ?_
      with_reducible refine r_then ?_
      refine r_seq ?_
      refine r_region ?_
      refine o_q _ rfl rfl rfl (v_ldW rfl Try.underlying28 rfl inf28 rfl rfl) ?_
      refine o_q _ rfl rfl rfl (v_fieldAddr rfl Try.underlying28 inf22 rfl rfl rfl rfl) ?_
      refine o_q _ rfl rfl rfl (v_ld1 rfl Try.underlying22 rfl rfl rfl) ?_
      refine o_q _ rfl rfl rfl (v_len rfl rfl Try.underlying22 rfl) ?_
      refine o_q _ rfl rfl rfl (v_cast (v := .tuple #[vS ⟨0, 0⟩, i64 2]) (OpQ.fn (Margin_v B bo ro so bc rc sc (B.banks.length : Int) 0 (by omega) (by omega) (by omega)) rfl rfl SubRC.sub) (by rw [marginB, ansB_n (chkB_2 hg (decide_eq_false (by omega))) (by decide)]; try rfl)) ?_
      refine o_q _ rfl rfl rfl (v_move rfl rfl) ?_
      refine o_q _ rfl rfl rfl (v_extract rfl rfl rfl) ?_
      refine o_q _ rfl rfl rfl (v_extract rfl rfl rfl) ?_
      refine o_alloc rfl inf24 rfl rfl rfl rfl rfl (fun b11 => ?_)
      refine o_st rfl inf24 rfl rfl rfl rfl rfl rfl rfl rfl ?_
      refine o_q _ rfl rfl rfl (v_assign rfl rfl) ?_
      refine o_nil ?_
      with_reducible refine r_then ?_
      refine r_seq ?_
      refine r_region ?_
      refine o_q _ rfl rfl rfl (v_ldW rfl Try.underlying28 rfl inf28 rfl rfl) ?_
      refine o_q _ rfl rfl rfl (v_cast (v := .tuple #[i64 0, i64 0, i64 2]) (OpQ.fn (moves_v B bo ro so bc rc sc (-1) (by omega) (by omega) (by omega)) rfl rfl SubRC.sub) (by rw [movesB, ansB_n (chkB_2 hg (decide_eq_false (by omega))) (by decide)]; try rfl)) ?_
      refine o_q _ rfl rfl rfl (v_move rfl rfl) ?_
      refine o_q _ rfl rfl rfl (v_extract rfl rfl rfl) ?_
      refine o_q _ rfl rfl rfl (v_extract rfl rfl rfl) ?_
      refine o_q _ rfl rfl rfl (v_extract rfl rfl rfl) ?_
      refine o_q _ rfl rfl rfl (v_assign rfl rfl) ?_
      refine o_q _ rfl rfl rfl (v_assign rfl rfl) ?_
      refine o_q _ rfl rfl rfl (v_assign rfl rfl) ?_
      refine o_nil ?_
      with_reducible refine r_then ?_
      refine r_seq ?_
      refine r_region ?_
      refine o_q _ rfl rfl rfl (v_ldW rfl Try.underlying28 rfl inf28 rfl rfl) ?_
      refine o_q _ rfl rfl rfl (v_cast (v := .tuple #[i64 0, i64 2]) (OpQ.fn (safe_v B bo ro so bc rc sc (-1) (by omega) (by omega) (by omega)) rfl rfl SubRC.sub) (by rw [safeV, ansB_n (chkB_2 hg (decide_eq_false (by omega))) (by decide)]; try rfl)) ?_
      refine o_q _ rfl rfl rfl (v_move rfl rfl) ?_
      refine o_q _ rfl rfl rfl (v_extract rfl rfl rfl) ?_
      refine o_q _ rfl rfl rfl (v_extract rfl rfl rfl) ?_
      refine o_q _ rfl rfl rfl (v_assign rfl rfl) ?_
      refine o_q _ rfl rfl rfl (v_assign rfl rfl) ?_
      refine o_nil ?_
      with_reducible refine r_then ?_
      refine r_seq ?_
      refine r_region ?_
      refine o_q _ rfl rfl rfl (v_ldW rfl Try.underlying28 rfl inf28 rfl rfl) ?_
      refine o_q _ rfl rfl rfl (v_cast (v := .tuple #[i64 0, i64 2]) (OpQ.fn (spare_v B bo ro so bc rc sc (-1) (by omega) (by omega) (by omega)) rfl rfl SubRC.sub) (by rw [spareB, ansE_n (chkB_2 hg (decide_eq_false (by omega))) (by decide)]; try rfl)) ?_
      refine o_q _ rfl rfl rfl (v_move rfl rfl) ?_
      refine o_q _ rfl rfl rfl (v_extract rfl rfl rfl) ?_
      refine o_q _ rfl rfl rfl (v_extract rfl rfl rfl) ?_
      refine o_q _ rfl rfl rfl (v_assign rfl rfl) ?_
      refine o_q _ rfl rfl rfl (v_assign rfl rfl) ?_
      refine o_nil ?_
      with_reducible refine r_then ?_
      refine r_seq ?_
      refine r_region ?_
      refine o_q _ rfl rfl rfl (v_ldW rfl Try.underlying28 rfl inf28 rfl rfl) ?_
      refine o_q _ rfl rfl rfl (v_cast (v := .tuple #[i64 (setB B : Nat), i64 0]) (OpQ.fn (clash_v B bo ro so bc rc sc (by omega) (by omega) (by omega)) rfl rfl SubRC.sub) (by rw [clashB_set hg hc]; try rfl)) ?_
      refine o_q _ rfl rfl rfl (v_move rfl rfl) ?_
      refine o_q _ rfl rfl rfl (v_extract rfl rfl rfl) ?_
      refine o_q _ rfl rfl rfl (v_extract rfl rfl rfl) ?_
      refine o_q _ rfl rfl rfl (v_assign rfl rfl) ?_
      refine o_q _ rfl rfl rfl (v_assign rfl rfl) ?_
      refine o_nil ?_
      with_reducible refine r_then ?_
      refine r_seq ?_
      refine r_seq ?_
      refine r_region ?_
      refine o_q _ rfl rfl rfl (v_move rfl rfl) ?_
      refine o_q _ rfl rfl rfl (v_false (v_neq rfl rfl rfl) (by omega)) ?_
      all_goals
        refine o_q _ rfl rfl rfl (v_move rfl rfl) ?_
        refine o_g _ rfl rfl rfl rfl (v_move rfl rfl) ?_
        refine o_g _ rfl rfl rfl rfl (v_move rfl rfl) ?_
        refine o_g _ rfl rfl rfl rfl (v_false (v_neq rfl rfl rfl) (by omega)) ?_
        all_goals
          refine o_q _ rfl rfl rfl (v_pick_f rfl rfl rfl) ?_
          refine o_q _ rfl rfl rfl (v_move rfl rfl) ?_
          refine o_g _ rfl rfl rfl rfl (v_move rfl rfl) ?_
          refine o_g _ rfl rfl rfl rfl (v_move rfl rfl) ?_
          refine o_g _ rfl rfl rfl rfl (v_false (v_neq rfl rfl rfl) (by omega)) ?_
          all_goals
            refine o_q _ rfl rfl rfl (v_pick_f rfl rfl rfl) ?_
            refine o_q _ rfl rfl rfl (v_move rfl rfl) ?_
            refine o_g _ rfl rfl rfl rfl (v_move rfl rfl) ?_
            refine o_g _ rfl rfl rfl rfl (v_move rfl rfl) ?_
            refine o_g _ rfl rfl rfl rfl (v_false (v_neq rfl rfl rfl) (by omega)) ?_
            all_goals
              refine o_q _ rfl rfl rfl (v_pick_f rfl rfl rfl) ?_
              refine o_q _ rfl rfl rfl (v_move rfl rfl) ?_
              refine o_g _ rfl rfl rfl rfl (v_move rfl rfl) ?_
              refine o_g _ rfl rfl rfl rfl (v_move rfl rfl) ?_
              refine o_g _ rfl rfl rfl rfl (v_false (v_neq rfl rfl rfl) (by omega)) ?_
              all_goals
                refine o_q _ rfl rfl rfl (v_pick_f rfl rfl rfl) ?_
                refine o_q _ rfl rfl rfl (v_move rfl rfl) ?_
                refine o_g _ rfl rfl rfl rfl (v_move rfl rfl) ?_
                refine o_g _ rfl rfl rfl rfl (v_false (v_eql rfl rfl rfl) (by omega)) ?_
                all_goals
                  refine o_g _ rfl rfl rfl rfl (v_move rfl rfl) ?_
                  refine o_g _ rfl rfl rfl rfl (v_false (v_eql rfl rfl rfl) (by omega)) ?_
                  all_goals
                    refine o_g _ rfl rfl rfl rfl (v_neqB (c := false) rfl Try.underlying4 rfl rfl (by simp)) ?_
                    refine o_q _ rfl rfl rfl (v_pick_f rfl rfl rfl) ?_
                    refine o_q _ rfl rfl rfl (v_move rfl rfl) ?_
                    refine o_g _ rfl rfl rfl rfl (v_move rfl rfl) ?_
                    refine o_g _ rfl rfl rfl rfl (v_true (v_neq rfl rfl rfl) (by omega)) ?_
                    all_goals
                      refine o_g _ rfl rfl rfl rfl (v_move rfl rfl) ?_
                      refine o_g _ rfl rfl rfl rfl (v_move rfl rfl) ?_
                      refine o_g _ rfl rfl rfl rfl (v_false (v_neq rfl rfl rfl) (by omega)) ?_
                      all_goals
                        refine o_g _ rfl rfl rfl rfl (v_move rfl rfl) ?_
                        refine o_g _ rfl rfl rfl rfl (v_ldW rfl Try.underlying24 rfl inf24 rfl rfl) ?_
                        refine o_g _ rfl rfl rfl rfl (v_bS0 rfl Try.underlying24 inf24 plt24 rfl rfl) ?_
                        refine o_g _ rfl rfl rfl rfl (v_cast (v := .bool false) (v_neP rfl rfl rfl guard24 (eq24 _ _ _ _)) (congrArg Value.bool (decide_eq_false (fun h => h rfl)))) ?_
                        refine o_g _ rfl rfl rfl rfl (v_pick_f rfl rfl rfl) ?_
                        refine o_g _ rfl rfl rfl rfl (v_pick_t rfl rfl rfl) ?_
                        refine o_q _ rfl rfl rfl (v_pick_f rfl rfl rfl) ?_
                        refine o_nil ?_
                        with_reducible refine r_then ?_
                        refine r_cond rfl (fun hc147 => ?_) (fun hc147 => ?_)
                        ·
                          (exfalso; revert hc147; decide)
                        ·
                          refine r_skip ?_
                          with_reducible refine r_then ?_
                          refine r_seq ?_
                          refine r_seq ?_
                          refine r_region ?_
                          refine o_q _ rfl rfl rfl (v_move rfl rfl) ?_
                          refine o_q _ rfl rfl rfl (v_neq rfl rfl rfl) ?_
                          refine o_nil ?_
                          with_reducible refine r_then ?_
                          refine r_condd rfl (fun hc149 => ?_) (fun hc149 => ?_)
                          ·
                            refine r_seq ?_
                            refine r_region ?_
                            refine o_q _ rfl rfl rfl (OpQ.fn awake_v rfl rfl SubRC.sub) ?_
                            refine o_q _ rfl rfl rfl (v_assign rfl rfl) ?_
                            refine o_nil ?_
                            with_reducible refine r_then ?_
                            refine r_ret ?_
                            with_reducible refine r_then_ret ?_
                            exact r_retv2 (Rd.tmp rfl rfl) rfl SelMC.sel SubRC.sub
                          ·
                            (exfalso; revert hc149; decide)
set_option maxHeartbeats 4000000 in
theorem ends_ok (w0 : Nat) (b0 : w0 ≤ 255) (bk : Nat) (hbk : w0 % B.banks.length = bk) (hf : ¬ farB B) (hg : GoodB B) (hc : canB B (allS B) 0 false = true) : FnV Try.prog 6 [valB B bo ro so bc rc sc, .int .u8 w0] [rowD bo 4 encB B.banks, rowD ro 2 encS B.rain, rowD so 3 encG B.signs] (.bool true) := by
  have hf2 := hf
  unfold farB at hf2
  have hl1 : B.banks.length ≤ 40 := by omega
  have hl2 : B.rain.length ≤ 40 := by omega
  have hl3 : B.signs.length ≤ 40 := by omega
  have hb1 := hg.nb
  have hb2 := hg.nr
  have hb3 := hg.ns
  have hb4 := hg.w
  have hk : bk < B.banks.length := by rw [← hbk]; exact Nat.mod_lt _ (by omega)
  obtain ⟨hq1, hq2⟩ := hg.banks bk hk
  refine FnV.intro Try.call6 Try.func6 rfl Try.ntmps6 rfl ?_
  intro W M Rf
  refine r_seq ?_
  refine r_region ?_
  refine o_boxA rfl rfl rfl rfl rfl (fun b2 => ?_)
  refine o_q _ rfl rfl rfl (v_assign rfl rfl) ?_
  refine o_nil ?_
  with_reducible refine r_then ?_
  refine r_seq ?_
  refine r_seq ?_
  refine r_region ?_
  refine o_q _ rfl rfl rfl (v_ldW rfl Try.underlying28 rfl inf28 rfl rfl) ?_
  refine o_q _ rfl rfl rfl (v_cast (v := .bool false) (OpQ.fn (far_v B bo ro so bc rc sc) rfl rfl SubRC.sub) (congrArg Value.bool (decide_eq_false hf))) ?_
  refine o_nil ?_
  with_reducible refine r_then ?_
  refine r_cond rfl (fun hc34 => ?_) (fun hc34 => ?_)
  ·
    (exfalso; revert hc34; decide)
  ·
    refine r_skip ?_
    with_reducible refine r_then ?_
    refine r_seq ?_
    refine r_region ?_
    refine o_q _ rfl rfl rfl (v_ldW rfl Try.underlying28 rfl inf28 rfl rfl) ?_
    refine o_q _ rfl rfl rfl (v_cast (v := .tuple #[vS (spanT (tB B) (5 + 0) 0), i64 0]) (OpQ.fn (water_v B bo ro so bc rc sc (0 : Int) (by omega) (by omega) (by omega)) rfl rfl SubRC.sub) (by rw [waterB, ansB_0 (chkB_0 (v := isD B (0 : Int)) hg (decide_eq_true (by omega)) hc)]; try rfl)) ?_
    refine o_q _ rfl rfl rfl (v_move rfl rfl) ?_
    refine o_q _ rfl rfl rfl (v_extract rfl rfl rfl) ?_
    refine o_q _ rfl rfl rfl (v_extract rfl rfl rfl) ?_
    refine o_alloc rfl inf24 rfl rfl rfl rfl rfl (fun b5 => ?_)
    refine o_st rfl inf24 rfl rfl rfl rfl rfl rfl rfl rfl ?_
    refine o_q _ rfl rfl rfl (v_assign rfl rfl) ?_
    refine o_nil ?_
    with_reducible refine r_then ?_
    refine r_seq ?_
    refine r_seq ?_
    refine r_region ?_
    refine o_q _ rfl rfl rfl (v_ldW rfl Try.underlying28 rfl inf28 rfl rfl) ?_
    refine o_q _ rfl rfl rfl (v_cast (v := .bool true) (OpQ.fn (Burst_v B bo ro so bc rc sc (by omega) (by omega) (by omega)) rfl rfl SubRC.sub) (congrArg Value.bool (decide_eq_true hg))) ?_
    refine o_q _ rfl rfl rfl (v_not rfl rfl) ?_
    refine o_nil ?_
    with_reducible refine r_then ?_
    refine r_cond rfl (fun hc43 => ?_) (fun hc43 => ?_)
    ·
      (exfalso; revert hc43; decide)
    ·
      refine r_skip ?_
      with_reducible refine r_then ?_
      refine r_seq ?_
      refine r_region ?_
      refine o_q _ rfl rfl rfl (v_ldW rfl Try.underlying28 rfl inf28 rfl rfl) ?_
      refine o_q _ rfl rfl rfl (v_fieldAddr rfl Try.underlying28 inf25 rfl rfl rfl rfl) ?_
      refine o_q _ rfl rfl rfl (v_ld1 rfl Try.underlying25 rfl rfl rfl) ?_
      refine o_q _ rfl rfl rfl (v_len rfl rfl Try.underlying25 rfl) ?_
      refine o_q _ rfl rfl rfl (v_add rfl rfl rfl (by omega)) ?_
      refine o_q _ rfl rfl rfl (v_cast (v := .tuple #[vS ⟨0, 0⟩, i64 2]) (OpQ.fn (water_v B bo ro so bc rc sc ((B.rain.length : Int) + 1) (by omega) (by omega) (by omega)) rfl rfl SubRC.sub) (by rw [waterB, ansB_n (chkB_2 hg (decide_eq_false (by omega))) (by decide)]; try rfl)) ?_
      refine o_q _ rfl rfl rfl (v_move rfl rfl) ?_
      refine o_q _ rfl rfl rfl (v_extract rfl rfl rfl) ?_
      refine o_q _ rfl rfl rfl (v_extract rfl rfl rfl) ?_
      refine o_alloc rfl inf24 rfl rfl rfl rfl rfl (fun b9 => ?_)
      refine o_st rfl inf24 rfl rfl rfl rfl rfl rfl rfl rfl ?_
      refine o_q _ rfl rfl rfl (v_assign rfl rfl) ?_
      refine o_nil ?_
      with_reducible refine r_then ?_
      refine r_seq ?_
      refine r_region ?_
      refine o_q _ rfl rfl rfl (v_ldW rfl Try.underlying28 rfl inf28 rfl rfl) ?_
      refine o_q _ rfl rfl rfl (v_fieldAddr rfl Try.underlying28 inf22 rfl rfl rfl rfl) ?_
      refine o_q _ rfl rfl rfl (v_ld1 rfl Try.underlying22 rfl rfl rfl) ?_
      refine o_q _ rfl rfl rfl (v_len rfl rfl Try.underlying22 rfl) ?_
      refine o_q _ rfl rfl rfl (v_cast (v := .tuple #[vS ⟨0, 0⟩, i64 2]) (OpQ.fn (Margin_v B bo ro so bc rc sc (B.banks.length : Int) 0 (by omega) (by omega) (by omega)) rfl rfl SubRC.sub) (by rw [marginB, ansB_n (chkB_2 hg (decide_eq_false (by omega))) (by decide)]; try rfl)) ?_
      refine o_q _ rfl rfl rfl (v_move rfl rfl) ?_
      refine o_q _ rfl rfl rfl (v_extract rfl rfl rfl) ?_
      refine o_q _ rfl rfl rfl (v_extract rfl rfl rfl) ?_
      refine o_alloc rfl inf24 rfl rfl rfl rfl rfl (fun b11 => ?_)
      refine o_st rfl inf24 rfl rfl rfl rfl rfl rfl rfl rfl ?_
      refine o_q _ rfl rfl rfl (v_assign rfl rfl) ?_
      refine o_nil ?_
      with_reducible refine r_then ?_
      refine r_seq ?_
      refine r_region ?_
      refine o_q _ rfl rfl rfl (v_ldW rfl Try.underlying28 rfl inf28 rfl rfl) ?_
      refine o_q _ rfl rfl rfl (v_cast (v := .tuple #[i64 0, i64 0, i64 2]) (OpQ.fn (moves_v B bo ro so bc rc sc (-1) (by omega) (by omega) (by omega)) rfl rfl SubRC.sub) (by rw [movesB, ansB_n (chkB_2 hg (decide_eq_false (by omega))) (by decide)]; try rfl)) ?_
      refine o_q _ rfl rfl rfl (v_move rfl rfl) ?_
      refine o_q _ rfl rfl rfl (v_extract rfl rfl rfl) ?_
      refine o_q _ rfl rfl rfl (v_extract rfl rfl rfl) ?_
      refine o_q _ rfl rfl rfl (v_extract rfl rfl rfl) ?_
      refine o_q _ rfl rfl rfl (v_assign rfl rfl) ?_
      refine o_q _ rfl rfl rfl (v_assign rfl rfl) ?_
      refine o_q _ rfl rfl rfl (v_assign rfl rfl) ?_
      refine o_nil ?_
      with_reducible refine r_then ?_
      refine r_seq ?_
      refine r_region ?_
      refine o_q _ rfl rfl rfl (v_ldW rfl Try.underlying28 rfl inf28 rfl rfl) ?_
      refine o_q _ rfl rfl rfl (v_cast (v := .tuple #[i64 0, i64 2]) (OpQ.fn (safe_v B bo ro so bc rc sc (-1) (by omega) (by omega) (by omega)) rfl rfl SubRC.sub) (by rw [safeV, ansB_n (chkB_2 hg (decide_eq_false (by omega))) (by decide)]; try rfl)) ?_
      refine o_q _ rfl rfl rfl (v_move rfl rfl) ?_
      refine o_q _ rfl rfl rfl (v_extract rfl rfl rfl) ?_
      refine o_q _ rfl rfl rfl (v_extract rfl rfl rfl) ?_
      refine o_q _ rfl rfl rfl (v_assign rfl rfl) ?_
      refine o_q _ rfl rfl rfl (v_assign rfl rfl) ?_
      refine o_nil ?_
      with_reducible refine r_then ?_
      refine r_seq ?_
      refine r_region ?_
      refine o_q _ rfl rfl rfl (v_ldW rfl Try.underlying28 rfl inf28 rfl rfl) ?_
      refine o_q _ rfl rfl rfl (v_cast (v := .tuple #[i64 0, i64 2]) (OpQ.fn (spare_v B bo ro so bc rc sc (-1) (by omega) (by omega) (by omega)) rfl rfl SubRC.sub) (by rw [spareB, ansE_n (chkB_2 hg (decide_eq_false (by omega))) (by decide)]; try rfl)) ?_
      refine o_q _ rfl rfl rfl (v_move rfl rfl) ?_
      refine o_q _ rfl rfl rfl (v_extract rfl rfl rfl) ?_
      refine o_q _ rfl rfl rfl (v_extract rfl rfl rfl) ?_
      refine o_q _ rfl rfl rfl (v_assign rfl rfl) ?_
      refine o_q _ rfl rfl rfl (v_assign rfl rfl) ?_
      refine o_nil ?_
      with_reducible refine r_then ?_
      refine r_seq ?_
      refine r_region ?_
      refine o_q _ rfl rfl rfl (v_ldW rfl Try.underlying28 rfl inf28 rfl rfl) ?_
      refine o_q _ rfl rfl rfl (v_cast (v := .tuple #[i64 0, i64 4]) (OpQ.fn (clash_v B bo ro so bc rc sc (by omega) (by omega) (by omega)) rfl rfl SubRC.sub) (by rw [clashB_none hg hc]; try rfl)) ?_
      refine o_q _ rfl rfl rfl (v_move rfl rfl) ?_
      refine o_q _ rfl rfl rfl (v_extract rfl rfl rfl) ?_
      refine o_q _ rfl rfl rfl (v_extract rfl rfl rfl) ?_
      refine o_q _ rfl rfl rfl (v_assign rfl rfl) ?_
      refine o_q _ rfl rfl rfl (v_assign rfl rfl) ?_
      refine o_nil ?_
      with_reducible refine r_then ?_
      refine r_seq ?_
      refine r_seq ?_
      refine r_region ?_
      refine o_q _ rfl rfl rfl (v_move rfl rfl) ?_
      refine o_q _ rfl rfl rfl (v_false (v_neq rfl rfl rfl) (by omega)) ?_
      all_goals
        refine o_q _ rfl rfl rfl (v_move rfl rfl) ?_
        refine o_g _ rfl rfl rfl rfl (v_move rfl rfl) ?_
        refine o_g _ rfl rfl rfl rfl (v_move rfl rfl) ?_
        refine o_g _ rfl rfl rfl rfl (v_false (v_neq rfl rfl rfl) (by omega)) ?_
        all_goals
          refine o_q _ rfl rfl rfl (v_pick_f rfl rfl rfl) ?_
          refine o_q _ rfl rfl rfl (v_move rfl rfl) ?_
          refine o_g _ rfl rfl rfl rfl (v_move rfl rfl) ?_
          refine o_g _ rfl rfl rfl rfl (v_move rfl rfl) ?_
          refine o_g _ rfl rfl rfl rfl (v_false (v_neq rfl rfl rfl) (by omega)) ?_
          all_goals
            refine o_q _ rfl rfl rfl (v_pick_f rfl rfl rfl) ?_
            refine o_q _ rfl rfl rfl (v_move rfl rfl) ?_
            refine o_g _ rfl rfl rfl rfl (v_move rfl rfl) ?_
            refine o_g _ rfl rfl rfl rfl (v_move rfl rfl) ?_
            refine o_g _ rfl rfl rfl rfl (v_false (v_neq rfl rfl rfl) (by omega)) ?_
            all_goals
              refine o_q _ rfl rfl rfl (v_pick_f rfl rfl rfl) ?_
              refine o_q _ rfl rfl rfl (v_move rfl rfl) ?_
              refine o_g _ rfl rfl rfl rfl (v_move rfl rfl) ?_
              refine o_g _ rfl rfl rfl rfl (v_move rfl rfl) ?_
              refine o_g _ rfl rfl rfl rfl (v_false (v_neq rfl rfl rfl) (by omega)) ?_
              all_goals
                refine o_q _ rfl rfl rfl (v_pick_f rfl rfl rfl) ?_
                refine o_q _ rfl rfl rfl (v_move rfl rfl) ?_
                refine o_g _ rfl rfl rfl rfl (v_move rfl rfl) ?_
                refine o_g _ rfl rfl rfl rfl (v_true (v_eql rfl rfl rfl) (by omega)) ?_
                all_goals
                  refine o_g _ rfl rfl rfl rfl (v_move rfl rfl) ?_
                  refine o_g _ rfl rfl rfl rfl (v_true (v_eql rfl rfl rfl) (by omega)) ?_
                  all_goals
                    refine o_g _ rfl rfl rfl rfl (v_neqB (c := false) rfl Try.underlying4 rfl rfl (by simp)) ?_
                    refine o_q _ rfl rfl rfl (v_pick_f rfl rfl rfl) ?_
                    refine o_q _ rfl rfl rfl (v_move rfl rfl) ?_
                    refine o_g _ rfl rfl rfl rfl (v_move rfl rfl) ?_
                    refine o_g _ rfl rfl rfl rfl (v_false (v_neq rfl rfl rfl) (by omega)) ?_
                    all_goals
                      refine o_g _ rfl rfl rfl rfl (v_move rfl rfl) ?_
                      refine o_gn rfl rfl rfl rfl ?_
                      refine o_gn rfl rfl rfl rfl ?_
                      all_goals
                        refine o_gn rfl rfl rfl rfl ?_
                        refine o_gn rfl rfl rfl rfl ?_
                        refine o_gn rfl rfl rfl rfl ?_
                        refine o_gn rfl rfl rfl rfl ?_
                        refine o_gn rfl rfl rfl rfl ?_
                        refine o_g _ rfl rfl rfl rfl (v_pick_f rfl rfl rfl) ?_
                        refine o_q _ rfl rfl rfl (v_pick_f rfl rfl rfl) ?_
                        refine o_nil ?_
                        with_reducible refine r_then ?_
                        refine r_cond rfl (fun hc147 => ?_) (fun hc147 => ?_)
                        ·
                          (exfalso; revert hc147; decide)
                        ·
                          refine r_skip ?_
                          with_reducible refine r_then ?_
                          refine r_seq ?_
                          refine r_seq ?_
                          refine r_region ?_
                          refine o_q _ rfl rfl rfl (v_move rfl rfl) ?_
                          refine o_q _ rfl rfl rfl (v_neq rfl rfl rfl) ?_
                          refine o_nil ?_
                          with_reducible refine r_then ?_
                          refine r_condd rfl (fun hc149 => ?_) (fun hc149 => ?_)
                          ·
                            (exfalso; revert hc149; decide)
                          ·
                            refine r_skip ?_
                            with_reducible refine r_then ?_
                            refine r_seq ?_
                            refine r_seq ?_
                            refine r_region ?_
                            refine o_q _ rfl rfl rfl (v_fieldAddr rfl Try.underlying28 inf24 rfl rfl rfl rfl) ?_
                            refine o_q _ rfl rfl rfl (v_fieldAddr rfl Try.underlying24 inf3 rfl rfl rfl rfl) ?_
                            refine o_q _ rfl rfl rfl (v_ld1 rfl Try.underlying3 rfl rfl rfl) ?_
                            refine o_q _ rfl rfl rfl (v_assign rfl rfl) ?_
                            refine o_nil ?_
                            with_reducible refine r_then ?_
                            refine r_block ?_
                            refine r_loop (ι := Int) (fun n => B.wlo ≤ n ∧ n ≤ B.whi + 1) (fun n => [(1, .int .u8 w0), (2, pt b2 0), (5, pt b5 0), (22, i64 n)]) (fun n => bx b5 24 [i64 (spanT (tB B) (5 + 0) 0).lo, i64 (spanT (tB B) (5 + 0) 0).hi] :: bx b2 28 (cellsB B bo ro so bc rc sc) :: M) (fun n => [rowD bo 4 encB B.banks, rowD ro 2 encS B.rain, rowD so 3 encG B.signs] ++ Rf) (fun n => (B.whi + 1 - n).toNat) B.wlo ?_ ?_ ?_
                            ·
                              refine Imp.box_to b5 [i64 (spanT (tB B) (5 + 0) 0).lo, i64 (spanT (tB B) (5 + 0) 0).hi] rfl ?_
                              exact r_here (by repeat (first | exact FSub.nil | refine FSub.cons rfl ?_)) SelMC.sel SubRC.sub
                            ·
                              omega
                            ·
                              rintro n hI0
                              refine r_seq ?_
                              refine r_seq ?_
                              refine r_region ?_
                              refine o_q _ rfl rfl rfl (v_move rfl rfl) ?_
                              refine o_q _ rfl rfl rfl (v_fieldAddr rfl Try.underlying28 inf24 rfl rfl rfl rfl) ?_
                              refine o_q _ rfl rfl rfl (v_fieldAddr rfl Try.underlying24 inf3 rfl rfl rfl rfl) ?_
                              refine o_q _ rfl rfl rfl (v_ld1 rfl Try.underlying3 rfl rfl rfl) ?_
                              refine o_q _ rfl rfl rfl (v_leq rfl rfl rfl) ?_
                              refine o_nil ?_
                              with_reducible refine r_then ?_
                              refine r_condd rfl (fun hc158 => ?_) (fun hc158 => ?_)
                              ·
                                refine r_skip ?_
                                with_reducible refine r_then ?_
                                refine r_seq ?_
                                refine r_block ?_
                                refine r_seq ?_
                                obtain ⟨hxl, hxr, hxs⟩ := knW_lens B n
                                refine Imp.derive (ψ := rowD bo 4 encB (knW B n).banks) ?_ (fun V hV => by rw [(knW_rows B n).1]; exact hV _ (by simp))
                                refine Imp.derive (ψ := rowD ro 2 encS (knW B n).rain) ?_ (fun V hV => by rw [(knW_rows B n).2.1]; exact hV _ (by simp))
                                refine Imp.derive (ψ := rowD so 3 encG (knW B n).signs) ?_ (fun V hV => by rw [(knW_rows B n).2.2]; exact hV _ (by simp))
                                refine r_region ?_
                                refine o_q _ rfl rfl rfl (v_ldW rfl Try.underlying28 rfl inf28 rfl rfl) ?_
                                refine o_q _ rfl rfl rfl (v_move rfl rfl) ?_
                                refine o_q _ rfl rfl rfl (OpQ.fn (knownW_v B bo ro so bc rc sc n) rfl rfl SubRC.sub) ?_
                                refine o_q _ rfl rfl rfl (OpQ.fn (clash_v (knW B n) bo ro so bc rc sc (by omega) (by omega) (by omega)) rfl rfl SubRC.sub) ?_
                                refine o_q _ rfl rfl rfl (v_move rfl rfl) ?_
                                refine o_q _ rfl rfl rfl (v_extract rfl rfl rfl) ?_
                                refine o_q _ rfl rfl rfl (v_extract rfl rfl rfl) ?_
                                refine o_q _ rfl rfl rfl (v_assign rfl rfl) ?_
                                refine o_q _ rfl rfl rfl (v_assign rfl rfl) ?_
                                refine o_nil ?_
                                with_reducible refine r_then ?_
                                refine r_seq ?_
                                refine r_region ?_
                                refine o_q _ rfl rfl rfl (v_move rfl rfl) ?_
                                refine o_q _ rfl rfl rfl (v_eql rfl rfl rfl) ?_
                                refine o_q _ rfl rfl rfl (v_move rfl rfl) ?_
                                refine o_q _ rfl rfl rfl (v_ldW rfl Try.underlying24 rfl inf24 rfl rfl) ?_
                                refine o_q _ rfl rfl rfl (OpQ.fn (inside_v n (spanT (tB B) (5 + 0) 0)) rfl rfl SubRC.sub) ?_
                                refine o_q _ rfl rfl rfl (v_neqB (c := false) rfl Try.underlying4 rfl rfl (neq_same (knW_clash hg hc (by omega)))) ?_
                                refine o_nil ?_
                                with_reducible refine r_then ?_
                                refine r_cond rfl (fun hc173 => ?_) (fun hc173 => ?_)
                                ·
                                  (exfalso; revert hc173; decide)
                                ·
                                  refine r_skip ?_
                                  with_reducible refine r_in_normal ?_; refine r_then ?_
                                  refine r_region ?_
                                  refine o_q _ rfl rfl rfl (v_move rfl rfl) ?_
                                  refine o_q _ rfl rfl rfl (v_add rfl rfl rfl (by omega)) ?_
                                  refine o_q _ rfl rfl rfl (v_assign rfl rfl) ?_
                                  refine o_nil ?_
                                  with_reducible refine r_then ?_
                                  refine r_next (n + 1) ?_ ?_ ?_
                                  ·
                                    exact r_here (by repeat (first | exact FSub.nil | refine FSub.cons rfl ?_)) SelMC.sel SubRC.sub
                                  ·
                                    omega
                                  ·
                                    omega
                              ·
                                refine r_exit ?_
                                with_reducible refine r_then_exit ?_; refine r_then_exit ?_; refine r_in_here ?_; refine r_then ?_
                                refine r_seq ?_
                                refine r_region ?_
                                refine o_q _ rfl rfl rfl (v_move rfl rfl) ?_
                                refine o_q _ rfl rfl rfl (v_conv rfl Try.underlying5 Try.underlying3 rfl (IntWalk.i64_in _ (by omega))) ?_
                                refine o_q _ rfl rfl rfl (v_fieldAddr rfl Try.underlying28 inf22 rfl rfl rfl rfl) ?_
                                refine o_q _ rfl rfl rfl (v_ld1 rfl Try.underlying22 rfl rfl rfl) ?_
                                refine o_q _ rfl rfl rfl (v_len rfl rfl Try.underlying22 rfl) ?_
                                refine o_q _ rfl rfl rfl (v_cast (v := i64 (bk : Nat)) (v_rem rfl rfl rfl (by omega)) (tmodE hbk (by omega))) ?_
                                refine o_q _ rfl rfl rfl (v_assign rfl rfl) ?_
                                refine o_nil ?_
                                with_reducible refine r_then ?_
                                refine r_seq ?_
                                refine r_region ?_
                                refine o_q _ rfl rfl rfl (v_ldW rfl Try.underlying28 rfl inf28 rfl rfl) ?_
                                refine o_q _ rfl rfl rfl (v_move rfl rfl) ?_
                                refine o_q _ rfl rfl rfl (OpQ.fn (Bears_v B bo ro so bc rc sc hg bk hk) rfl rfl SubRC.sub) ?_
                                refine o_alloc rfl inf24 rfl rfl rfl rfl rfl (fun b26 => ?_)
                                refine o_st rfl inf24 rfl rfl rfl rfl rfl rfl rfl rfl ?_
                                refine o_nil ?_
                                with_reducible refine r_then ?_
                                refine r_seq ?_
                                refine r_seq ?_
                                refine r_region ?_
                                refine o_q _ rfl rfl rfl (v_fieldAddr rfl Try.underlying24 inf3 rfl rfl rfl rfl) ?_
                                refine o_q _ rfl rfl rfl (v_ld1 rfl Try.underlying3 rfl rfl rfl) ?_
                                refine o_test rfl rfl rfl (v_lss rfl rfl rfl) (fun h185 => ?_) (fun h185 => ?_)
                                all_goals
                                  refine o_q _ rfl rfl rfl (v_move rfl rfl) ?_
                                  first | refine o_gn rfl rfl rfl rfl ?_ | refine o_g _ rfl rfl rfl rfl (v_fieldAddr rfl Try.underlying24 inf3 rfl rfl rfl rfl) ?_
                                  first | refine o_gn rfl rfl rfl rfl ?_ | refine o_g _ rfl rfl rfl rfl (v_ld1 rfl Try.underlying3 rfl rfl rfl) ?_
                                  first | refine o_gn rfl rfl rfl rfl ?_ | refine o_g _ rfl rfl rfl rfl (v_false (v_gtr rfl rfl rfl) (by omega)) ?_
                                  all_goals
                                    first | refine o_q _ rfl rfl rfl (v_pick_t rfl rfl rfl) ?_ | refine o_q _ rfl rfl rfl (v_pick_f rfl rfl rfl) ?_
                                    refine o_nil ?_
                                    with_reducible refine r_then ?_
                                    refine r_cond rfl (fun hc190 => ?_) (fun hc190 => ?_)
                                    ·
                                      first
                                      | (exfalso; revert hc190; decide)
                                      | skip
                                        refine r_seq ?_
                                        refine r_region ?_
                                        refine o_q _ rfl rfl rfl (OpQ.fn awake_v rfl rfl SubRC.sub) ?_
                                        refine o_q _ rfl rfl rfl (v_assign rfl rfl) ?_
                                        refine o_nil ?_
                                        with_reducible refine r_then ?_
                                        refine r_ret ?_
                                        with_reducible refine r_then_ret ?_
                                        exact r_retv2 (Rd.tmp rfl rfl) rfl SelMC.sel SubRC.sub
                                    ·
                                      first
                                      | (exfalso; revert hc190; decide)
                                      | skip
                                        refine r_skip ?_
                                        with_reducible refine r_then ?_
                                        refine r_seq ?_
                                        refine r_region ?_
                                        refine o_q _ rfl rfl rfl (OpQ.fn (lspan_v _ _) rfl rfl SubRC.sub) ?_
                                        refine o_alloc rfl inf24 rfl rfl rfl rfl rfl (fun b27 => ?_)
                                        refine o_st rfl inf24 rfl rfl rfl rfl rfl rfl rfl rfl ?_
                                        refine o_nil ?_
                                        with_reducible refine r_then ?_
                                        refine r_seq ?_
                                        refine r_seq ?_
                                        refine r_region ?_
                                        refine o_q _ rfl rfl rfl (v_fieldAddr rfl Try.underlying24 inf3 rfl rfl rfl rfl) ?_
                                        refine o_q _ rfl rfl rfl (v_ld1 rfl Try.underlying3 rfl rfl rfl) ?_
                                        refine o_q _ rfl rfl rfl (v_assign rfl rfl) ?_
                                        refine o_nil ?_
                                        with_reducible refine r_then ?_
                                        refine r_block ?_
                                        refine r_loop (ι := Int × Int × Int) (fun gh => ((B.banks.getD bk default).blo - (B.banks.getD bk default).chi ≤ gh.1 ∧ gh.1 ≤ (B.banks.getD bk default).bhi - (B.banks.getD bk default).clo + 1) ∧ Seen B bk gh.1 gh.2.1 gh.2.2) (fun gh => [(2, pt b2 0), (25, i64 bk), (26, pt b26 0), (27, pt b27 0), (28, i64 gh.1)]) (fun gh => bx b26 24 [i64 ((B.banks.getD bk default).blo - (B.banks.getD bk default).chi), i64 ((B.banks.getD bk default).bhi - (B.banks.getD bk default).clo)] :: bx b27 24 [i64 gh.2.1, i64 gh.2.2] :: bx b2 28 (cellsB B bo ro so bc rc sc) :: M) (fun gh => [rowD bo 4 encB B.banks, rowD ro 2 encS B.rain, rowD so 3 encG B.signs] ++ Rf) (fun gh => ((B.banks.getD bk default).bhi - (B.banks.getD bk default).clo + 1 - gh.1).toNat) ((B.banks.getD bk default).blo - (B.banks.getD bk default).chi, 1048576, -1048576) ?_ ?_ ?_
                                        ·
                                          refine Imp.box_to b26 [i64 ((B.banks.getD bk default).blo - (B.banks.getD bk default).chi), i64 ((B.banks.getD bk default).bhi - (B.banks.getD bk default).clo)] rfl ?_
                                          refine Imp.box_to b27 [i64 1048576, i64 (-1048576)] rfl ?_
                                          exact r_here (by repeat (first | exact FSub.nil | refine FSub.cons rfl ?_)) SelMC.sel SubRC.sub
                                        ·
                                          exact ⟨⟨by show (B.banks.getD bk default).blo - (B.banks.getD bk default).chi ≤ (B.banks.getD bk default).blo - (B.banks.getD bk default).chi; omega, by show (B.banks.getD bk default).blo - (B.banks.getD bk default).chi ≤ _; omega⟩, seen_0 hk⟩
                                        ·
                                          rintro ⟨n, a, c⟩ hI1
                                          dsimp only at hI1
                                          dsimp only
                                          have hsn := hI1.2
                                          have hIn := hI1.1
                                          refine r_seq ?_
                                          refine r_seq ?_
                                          refine r_region ?_
                                          refine o_q _ rfl rfl rfl (v_move rfl rfl) ?_
                                          refine o_q _ rfl rfl rfl (v_fieldAddr rfl Try.underlying24 inf3 rfl rfl rfl rfl) ?_
                                          refine o_q _ rfl rfl rfl (v_ld1 rfl Try.underlying3 rfl rfl rfl) ?_
                                          refine o_q _ rfl rfl rfl (v_leq rfl rfl rfl) ?_
                                          refine o_nil ?_
                                          with_reducible refine r_then ?_
                                          refine r_condd rfl (fun hc198 => ?_) (fun hc198 => ?_)
                                          ·
                                            refine r_skip ?_
                                            with_reducible refine r_then ?_
                                            refine r_seq ?_
                                            refine r_block ?_
                                            refine r_seq ?_
                                            obtain ⟨hxl, hxr, hxs⟩ := knB_lens B bk n
                                            have hyg := knB_good hg hk (n := n) (by omega)
                                            have hmc := margin_cases hyg (i := bk) (d := 0) (by omega) (by omega)
                                            refine r_region ?_
                                            refine o_q _ rfl rfl rfl (v_ldW rfl Try.underlying28 rfl inf28 rfl rfl) ?_
                                            refine o_q _ rfl rfl rfl (v_move rfl rfl) ?_
                                            refine o_q _ rfl rfl rfl (v_move rfl rfl) ?_
                                            refine o_knownB B bo ro so bc rc sc bk n hk (by omega) rfl rfl rfl rfl rfl SubRC.sub (fun xb xcap => ?_)
                                            all_goals
                                              refine o_q _ rfl rfl rfl (v_move rfl rfl) ?_
                                              refine o_q _ rfl rfl rfl (OpQ.fn (Margin_v (knB B bk n) (some ⟨xb, 0, none⟩) ro so xcap rc sc (bk : Int) ((0 : Nat) : Int) (by omega) (by omega) (by omega)) rfl rfl SubRC.sub) ?_
                                              refine o_q _ rfl rfl rfl (v_move rfl rfl) ?_
                                              refine o_q _ rfl rfl rfl (v_extract rfl rfl rfl) ?_
                                              refine o_q _ rfl rfl rfl (v_extract rfl rfl rfl) ?_
                                              refine o_alloc rfl inf24 rfl rfl rfl rfl rfl (fun b29 => ?_)
                                              refine o_st rfl inf24 rfl rfl rfl rfl rfl rfl rfl rfl ?_
                                              refine o_q _ rfl rfl rfl (v_assign rfl rfl) ?_
                                              refine o_nil ?_
                                              with_reducible refine r_then ?_
                                              refine r_seq ?_
                                              refine r_seq ?_
                                              refine r_region ?_
                                              refine o_q _ rfl rfl rfl (v_move rfl rfl) ?_
                                              refine o_test rfl rfl rfl (v_neq rfl rfl rfl) (fun h211 => ?_) (fun h211 => ?_)
                                              all_goals
                                                refine o_q _ rfl rfl rfl (v_move rfl rfl) ?_
                                                first | refine o_gn rfl rfl rfl rfl ?_ | refine o_g _ rfl rfl rfl rfl (v_move rfl rfl) ?_
                                                first | refine o_gn rfl rfl rfl rfl ?_ | refine o_g _ rfl rfl rfl rfl (v_false (v_neq rfl rfl rfl) (by omega)) ?_
                                                all_goals
                                                  first | refine o_q _ rfl rfl rfl (v_pick_t rfl rfl rfl) ?_ | refine o_q _ rfl rfl rfl (v_pick_f rfl rfl rfl) ?_
                                                  refine o_nil ?_
                                                  with_reducible refine r_then ?_
                                                  refine r_cond rfl (fun hc215 => ?_) (fun hc215 => ?_)
                                                  ·
                                                    (exfalso; revert hc215; decide)
                                                  ·
                                                    refine r_skip ?_
                                                    with_reducible refine r_then ?_
                                                    refine r_seq ?_
                                                    refine r_region ?_
                                                    refine o_q _ rfl rfl rfl (v_move rfl rfl) ?_
                                                    refine o_q _ rfl rfl rfl (v_eql rfl rfl rfl) ?_
                                                    refine o_nil ?_
                                                    with_reducible refine r_then ?_
                                                    refine r_condd rfl (fun hc217 => ?_) (fun hc217 => ?_)
                                                    ·
                                                      first
                                                      | (exfalso; omega)
                                                      | skip
                                                        refine r_region ?_
                                                        refine o_q _ rfl rfl rfl (v_fieldAddr rfl Try.underlying24 inf3 rfl rfl rfl rfl) ?_
                                                        refine o_q _ rfl rfl rfl (v_ld1 rfl Try.underlying3 rfl rfl rfl) ?_
                                                        refine o_q _ rfl rfl rfl (v_fieldAddr rfl Try.underlying24 inf3 rfl rfl rfl rfl) ?_
                                                        refine o_q _ rfl rfl rfl (v_ld1 rfl Try.underlying3 rfl rfl rfl) ?_
                                                        refine o_q _ rfl rfl rfl (v_min2 rfl rfl rfl) ?_
                                                        refine o_q _ rfl rfl rfl (v_fieldAddr rfl Try.underlying24 inf3 rfl rfl rfl rfl) ?_
                                                        refine o_q _ rfl rfl rfl (v_ld1 rfl Try.underlying3 rfl rfl rfl) ?_
                                                        refine o_q _ rfl rfl rfl (v_fieldAddr rfl Try.underlying24 inf3 rfl rfl rfl rfl) ?_
                                                        refine o_q _ rfl rfl rfl (v_ld1 rfl Try.underlying3 rfl rfl rfl) ?_
                                                        refine o_q _ rfl rfl rfl (v_max2 rfl rfl rfl) ?_
                                                        refine o_q _ rfl rfl rfl (OpQ.fn (lspan_v _ _) rfl rfl SubRC.sub) ?_
                                                        refine o_st rfl inf24 rfl rfl rfl rfl rfl rfl rfl rfl ?_
                                                        refine o_nil ?_
                                                        with_reducible refine r_in_normal ?_; refine r_then ?_
                                                        refine r_region ?_
                                                        refine o_q _ rfl rfl rfl (v_move rfl rfl) ?_
                                                        refine o_q _ rfl rfl rfl (v_add rfl rfl rfl (by omega)) ?_
                                                        refine o_q _ rfl rfl rfl (v_assign rfl rfl) ?_
                                                        refine o_nil ?_
                                                        with_reducible refine r_then ?_
                                                        exact r_next ((n + 1, min a (marginB (knB B bk n) (bk : Int) ((0 : Nat) : Int)).1.lo, max c (marginB (knB B bk n) (bk : Int) ((0 : Nat) : Int)).1.hi)) (by refine Imp.box_to b27 [i64 (min a (marginB (knB B bk n) (bk : Int) ((0 : Nat) : Int)).1.lo), i64 (max c (marginB (knB B bk n) (bk : Int) ((0 : Nat) : Int)).1.hi)] rfl ?_; exact r_here (by repeat (first | exact FSub.nil | refine FSub.cons rfl ?_)) SelMC.sel SubRC.sub) (by refine ⟨by dsimp only; omega, ?_⟩; obtain ⟨-, hm1, hm2⟩ | ⟨hm1, -⟩ := hmc; rotate_left; exact absurd hm1 (by omega); rw [hm1]; exact seen_y hg hk (by omega) (by omega) hsn hm2) (by show _ < _; omega)
                                                    ·
                                                      first
                                                      | (exfalso; omega)
                                                      | skip
                                                        refine r_skip ?_
                                                        with_reducible refine r_in_normal ?_; refine r_then ?_
                                                        refine r_region ?_
                                                        refine o_q _ rfl rfl rfl (v_move rfl rfl) ?_
                                                        refine o_q _ rfl rfl rfl (v_add rfl rfl rfl (by omega)) ?_
                                                        refine o_q _ rfl rfl rfl (v_assign rfl rfl) ?_
                                                        refine o_nil ?_
                                                        with_reducible refine r_then ?_
                                                        exact r_next ((n + 1, a, c)) (by exact r_here (by repeat (first | exact FSub.nil | refine FSub.cons rfl ?_)) SelMC.sel SubRC.sub) (by refine ⟨by dsimp only; omega, ?_⟩; obtain ⟨hm1, -, -⟩ | ⟨-, hm2⟩ := hmc; exact absurd hm1 (by omega); exact seen_n hg hk (by omega) (by omega) hsn hm2) (by show _ < _; omega)
                                          ·
                                            refine r_exit ?_
                                            with_reducible refine r_then_exit ?_; refine r_then_exit ?_; refine r_in_here ?_; refine r_then ?_
                                            refine r_seq ?_
                                            refine r_region ?_
                                            refine o_q _ rfl rfl rfl (v_ldW rfl Try.underlying28 rfl inf28 rfl rfl) ?_
                                            refine o_q _ rfl rfl rfl (v_move rfl rfl) ?_
                                            refine o_q _ rfl rfl rfl (v_cast (v := .tuple #[vS (marginT (tB B) bk 0), i64 0]) (OpQ.fn (Margin_v B bo ro so bc rc sc (bk : Int) (0 : Int) (by omega) (by omega) (by omega)) rfl rfl SubRC.sub) (by rw [marginB, ansB_0 (chkB_0 (v := decide ((0 ≤ (bk : Int) ∧ (bk : Int) ≤ (B.banks.length : Int) - 1) ∧ (0 ≤ (0 : Int) ∧ (0 : Int) ≤ (B.rain.length : Int)))) hg (decide_eq_true (by omega)) hc)]; try rfl)) ?_
                                            refine o_q _ rfl rfl rfl (v_move rfl rfl) ?_
                                            refine o_q _ rfl rfl rfl (v_extract rfl rfl rfl) ?_
                                            refine o_q _ rfl rfl rfl (v_extract rfl rfl rfl) ?_
                                            refine o_alloc rfl inf24 rfl rfl rfl rfl rfl (fun b31 => ?_)
                                            refine o_st rfl inf24 rfl rfl rfl rfl rfl rfl rfl rfl ?_
                                            refine o_q _ rfl rfl rfl (v_assign rfl rfl) ?_
                                            refine o_nil ?_
                                            with_reducible refine r_then ?_
                                            refine r_seq ?_
                                            have hsa := seen_all hg hk hc (by omega) hsn
                                            refine Imp.box_to b27 [i64 (marginT (tB B) bk 0).lo, i64 (marginT (tB B) bk 0).hi] (cells2 (by omega)) ?_
                                            refine r_region ?_
                                            refine o_q _ rfl rfl rfl (v_move rfl rfl) ?_
                                            refine o_q _ rfl rfl rfl (v_true (v_eql rfl rfl rfl) (by omega)) ?_
                                            all_goals
                                              refine o_q _ rfl rfl rfl (v_move rfl rfl) ?_
                                              refine o_g _ rfl rfl rfl rfl (v_ldW rfl Try.underlying24 rfl inf24 rfl rfl) ?_
                                              refine o_g _ rfl rfl rfl rfl (v_ldW rfl Try.underlying24 rfl inf24 rfl rfl) ?_
                                              refine o_g _ rfl rfl rfl rfl (v_cast (v := .bool true) (v_eqP rfl rfl rfl guard24 (eq24 _ _ _ _)) (congrArg Value.bool (decide_eq_true rfl))) ?_
                                              refine o_q _ rfl rfl rfl (v_pick_t rfl rfl rfl) ?_
                                              refine o_q _ rfl rfl rfl (v_move rfl rfl) ?_
                                              refine o_g _ rfl rfl rfl rfl (OpQ.fn awake_v rfl rfl SubRC.sub) ?_
                                              refine o_q _ rfl rfl rfl (v_pick_t rfl rfl rfl) ?_
                                              refine o_q _ rfl rfl rfl (v_assign rfl rfl) ?_
                                              refine o_nil ?_
                                              with_reducible refine r_then ?_
                                              refine r_ret ?_
                                              exact r_retv2 (Rd.tmp rfl rfl) rfl SelMC.sel SubRC.sub
theorem endss_v (w0 : Nat) (b0 : w0 ≤ 255) : FnV Try.prog 6 [valB B bo ro so bc rc sc, .int .u8 w0] [rowD bo 4 encB B.banks, rowD ro 2 encS B.rain, rowD so 3 encG B.signs] (.bool true) := by
  by_cases hf : farB B
  · exact ends_far B bo ro so bc rc sc w0 b0 hf
  · by_cases hg : GoodB B
    · cases hc : canB B (allS B) 0 false
      · exact ends_cl B bo ro so bc rc sc w0 b0 hf hg hc
      · exact ends_ok B bo ro so bc rc sc w0 b0 _ rfl hf hg hc
    · exact ends_bad B bo ro so bc rc sc w0 b0 hf hg
end Go.Proofs.Ytoggggnlponfhaa

