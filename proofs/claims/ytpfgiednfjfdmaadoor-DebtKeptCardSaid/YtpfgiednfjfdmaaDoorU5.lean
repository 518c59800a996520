/- Part 5 of 5 of what the proofs of this seat stand on: a small logic for walks, what the functions come to, and the walks themselves. No condition of its own. -/
import Derived.Test.YtpfgiednfjfdmaaDoorU4
set_option linter.unusedVariables false
set_option linter.unusedSimpArgs false
set_option linter.unusedSectionVars false
namespace Go.Proofs.YtpfgiednfjfdmaaDoor
open Go.G Debt10
set_option maxRecDepth 1000000
attribute [local irreducible] G.ParO G.Fin
theorem v_shrI {P : Program} {W : World} {n : Nat} {L : Tm} {M : List Res} {R : List Fact} {o : Oper} {t u : TypeId} {x y : Operand} {a h : Nat} (ho : o.op = .binOp .shr t x y u) (hx : ev L x = some (i64 (a : Int))) (hy : ev L y = some (i64 (h : Int))) (ha : a < 2 ^ 62) (hh : h < 62) : OpQ P W n L M R o (i64 ((a >>> h : Nat) : Int)) :=
  OpQ.of_value fun f w h1 _ => by
    have hle : a >>> h ≤ a := Nat.shiftRight_le a h
    have key : ∀ q : Nat, q ≤ a → IntKind.wrap .i64 (q : Int) = (q : Int) := fun q hq => IntWalk.i64_in _ (by omega)
    have hw : IntKind.wrap .i64 ((a >>> h : Nat) : Int) = ((a >>> h : Nat) : Int) := key _ hle
    have h2 : ¬ ((h : Int) < 0) := by omega
    have h3 : min h 64 = h := by omega
    have hs : (Op.shift .shr .i64 (a : Int) .i64 (h : Int)).run P w = .ok (.int .i64 ((a >>> h : Nat) : Int)) w := by
      unfold Op.shift
      rw [if_neg h2]
      have e : ((a : Int).fdiv (2 ^ (min (h : Int).toNat IntKind.i64.bits))) = ((a >>> h : Nat) : Int) := by
        rw [show (h : Int).toNat = h from by simp, show IntKind.i64.bits = 64 from rfl, h3, Nat.shiftRight_eq_div_pow, Int.fdiv_eq_ediv_of_nonneg _ (by exact Int.le_of_lt (Int.pow_pos (by decide)))]
        simp
      simp only [e, hw, Sem.run_pure]
    have hb : (binOp .shr t (.int .i64 (a : Int)) (.int .i64 (h : Int))).run P w = .ok (.int .i64 ((a >>> h : Nat) : Int)) w := hs
    simp [execOp, ho, h1.ev hx, h1.ev hy, eqGuard, hb]
section
variable {D : Debt} {am pa : List Int} (hg : GoodD D) (h : TruD D am pa)
include hg h
theorem exact_ok : GoodD (exactD D am pa) := exact_good hg (h.bdA hg) (h.bdP hg)
theorem exact_leftT (who : Int) (d : Nat) : leftT (exactD D am pa) who d = ⟨total (accT D am pa who (d + 1)).1, total (accT D am pa who (d + 1)).1⟩ := by
  unfold leftT
  rw [prog_exact, prog_exact, total_open (accT_fit hg h who (d + 1)).1.pos]
theorem exact_aheadT (who : Int) (d : Nat) : aheadT (exactD D am pa) who d = ⟨(accT D am pa who (d + 1)).2, (accT D am pa who (d + 1)).2⟩ := by
  unfold aheadT
  rw [prog_exact, prog_exact]
theorem kL {w d : Nat} (hw : (w : Int) < D.people) (hd : d ≤ 30) : Value.tuple #[vS (leftB (exactD D am pa) (w : Int) (d : Int)).1, i64 (leftB (exactD D am pa) (w : Int) (d : Int)).2] = .tuple #[vS ⟨total (accT D am pa (w : Int) (d + 1)).1, total (accT D am pa (w : Int) (d + 1)).1⟩, i64 0] := by
  rw [leftB_ok (exact_ok hg h) hw hd, exact_leftT hg h]
theorem kA {w d : Nat} (hw : (w : Int) < D.people) (hd : d ≤ 30) : Value.tuple #[vS (aheadB (exactD D am pa) (w : Int) (d : Int)).1, i64 (aheadB (exactD D am pa) (w : Int) (d : Int)).2] = .tuple #[vS ⟨(accT D am pa (w : Int) (d + 1)).2, (accT D am pa (w : Int) (d + 1)).2⟩, i64 0] := by
  rw [aheadB_ok (exact_ok hg h) hw hd, exact_aheadT hg h]
theorem kO {w d : Nat} (hw : (w : Int) < D.people) (hd : d ≤ 30) : Value.tuple #[i64 ((openB (exactD D am pa) (w : Int) (d : Int)).1.1 : Nat), i64 ((openB (exactD D am pa) (w : Int) (d : Int)).1.2 : Nat), i64 (openB (exactD D am pa) (w : Int) (d : Int)).2] = .tuple #[i64 (bitX D am pa (w : Int) d : Nat), i64 (bitX D am pa (w : Int) d : Nat), i64 0] := by
  rw [openB_ok (exact_ok hg h) hw hd, prog_exact, prog_exact]
  rfl
theorem bit_lt (who : Int) {d : Nat} (hd : d ≤ 30) : bitX D am pa who d < 2 ^ 62 := setK_lt (fun x hx => by
  have h1 := (ent_acc D (amF am) (amF pa) who (d + 1) x (mem_open.1 hx).1).1
  have h2 := hg.nd
  omega) (Nat.le_refl _)
theorem totT_bd (who : Int) {d : Nat} (hd : d ≤ 31) : 0 ≤ total (accT D am pa who d).1 ∧ total (accT D am pa who d).1 ≤ 6000 := by
  have h1 := sum_bdT hg h who d hd D.dues.length
  have h2 := hg.nd
  rw [sum_allT hg h] at h1
  omega
theorem new_tot_bd (who : Int) (d : Nat) : ∀ k : Nat, k ≤ D.dues.length → 0 ≤ total (newTo D (amF am) who d k) ∧ total (newTo D (amF am) who d k) ≤ 500 * (k : Int)
  | 0, _ => by show (0 : Int) ≤ 0 ∧ (0 : Int) ≤ 500 * 0; omega
  | k + 1, hk => by
    have h1 := new_tot_bd who d k (by omega)
    have h2 := h.bdA hg k (by omega)
    show 0 ≤ total (newTo D (amF am) who d k ++ _) ∧ total (newTo D (amF am) who d k ++ _) ≤ _
    rw [total_app]
    split
    · have e : total [newOp D (amF am) d k] = am.getD k default + 0 := rfl
      rw [e]; push_cast; omega
    · have e : total ([] : List Opn) = 0 := rfl
      rw [e]; push_cast; omega
theorem late_bd (who : Int) (d : Nat) : ∀ k : Nat, k ≤ D.dues.length → 0 ≤ lateK D am pa who d k ∧ lateK D am pa who d k ≤ 10 * (k : Int)
  | 0, _ => by show (0 : Int) ≤ 0 ∧ (0 : Int) ≤ 10 * 0; omega
  | k + 1, hk => by
    have h1 := late_bd who d k (by omega)
    have h2 := (hg.dues k (by omega)).2.2.2
    show 0 ≤ lateK D am pa who d k + (if _ then _ else _) ∧ lateK D am pa who d k + (if _ then _ else _) ≤ _
    split <;> (push_cast; omega)
end
theorem new_y {D : Debt} {am : List Int} {who : Int} {d k : Nat} (h1 : (D.dues.getD k default).who = who) (h2 : (D.dues.getD k default).day = d) : total (newTo D (amF am) who d k) + am.getD k default = total (newTo D (amF am) who d (k + 1)) := by
  rw [← newTo_y h1 h2, total_app]
  show _ = _ + (am.getD k default + 0)
  omega
theorem new_n {D : Debt} {am : List Int} {who : Int} {d k : Nat} (h : ¬ ((D.dues.getD k default).who = who ∧ (D.dues.getD k default).day = d)) : total (newTo D (amF am) who d k) = total (newTo D (amF am) who d (k + 1)) := by rw [newTo_n h]
theorem late_y {D : Debt} {am pa : List Int} {who : Int} {d k : Nat} (h1 : ((bitX D am pa who d >>> k &&& 1 : Nat) : Int) = 1) (h2 : (D.dues.getD k default).day < (d : Int)) : lateK D am pa who d k + (D.dues.getD k default).late = lateK D am pa who d (k + 1) := by
  show _ = lateK D am pa who d k + (if _ then _ else _)
  rw [if_pos ⟨(shr_bit _ _).1 h1, h2⟩]
theorem late_n {D : Debt} {am pa : List Int} {who : Int} {d k : Nat} (h : ¬ (((bitX D am pa who d >>> k &&& 1 : Nat) : Int) = 1 ∧ (D.dues.getD k default).day < (d : Int))) : lateK D am pa who d k = lateK D am pa who d (k + 1) := by
  show _ = lateK D am pa who d k + (if _ then _ else _)
  rw [if_neg (fun hc => h ⟨(shr_bit _ _).2 hc.1, hc.2⟩)]; omega
attribute [local irreducible] leftT aheadT gradeS setT sumT trA trP acc0 lateK setK
variable (D : Debt) (uo po : Option Addr) (uc pc : Nat)
set_option maxHeartbeats 4000000 in
theorem kepts_not (w0 : Nat) (b0 : w0 ≤ 255) (w1 : Nat) (b1 : w1 ≤ 255) (bys : List Int) (ba : Option Addr) (bc : Nat) (hu : U16l bys) (hbl : bys.length ≤ 9223372036854775807) (hfg : ¬ (¬ farD D ∧ GoodD D)) : FnV Tryd.prog 10 [valD D uo po uc pc, .int .u8 w0, .int .u8 w1, .slice ba bys.length bc] [rowD uo 5 encD D.dues, rowD po 4 encP D.paid, rowD (some ⟨0, 0, none⟩) 1 encE ([0, 1] : List Nat), rowD ba 1 encH bys] (.bool true) := by
  refine FnV.intro Tryd.call10 Tryd.func10 rfl Tryd.ntmps10 rfl ?_
  intro W M Rf
  refine r_seq ?_
  refine r_region ?_
  refine o_boxA rfl rfl rfl rfl rfl (fun b4 => ?_)
  refine o_q _ rfl rfl rfl (v_assign rfl rfl) ?_
  refine o_nil ?_
  with_reducible refine r_then ?_
  refine r_seq ?_
  refine r_seq ?_
  refine r_region ?_
  refine o_q _ rfl rfl rfl (v_ldW rfl Tryd.underlying25 rfl inf25 rfl rfl) ?_
  refine o_q _ rfl rfl rfl (v_cast (v := .bool false) (OpQ.fn (fine_v D uo po uc pc) rfl rfl SubRC.sub) (congrArg Value.bool (decide_eq_false hfg))) ?_
  refine o_q _ rfl rfl rfl (v_not rfl rfl) ?_
  refine o_nil ?_
  with_reducible refine r_then ?_
  refine r_cond rfl (fun hc35 => ?_) (fun hc35 => ?_)
  ·
    refine r_seq ?_
    refine r_region ?_
    refine o_q _ rfl rfl rfl (OpQ.fn awake_v rfl rfl SubRC.sub) ?_
    refine o_q _ rfl rfl rfl (v_assign rfl rfl) ?_
    refine o_nil ?_
    with_reducible refine r_then ?_
    refine r_ret ?_
    with_reducible refine r_then_ret ?_
    exact r_retv2 (Rd.tmp rfl rfl) rfl SelMC.sel SubRC.sub
  ·
    (exfalso; revert hc35; decide)
set_option maxHeartbeats 4000000 in
theorem kepts_ok (w0 : Nat) (b0 : w0 ≤ 255) (w1 : Nat) (b1 : w1 ≤ 255) (bys : List Int) (ba : Option Addr) (bc : Nat) (hu : U16l bys) (hbl : bys.length ≤ 9223372036854775807) (wk dk : Nat) (hwk : w0 % D.people.toNat = wk) (hdk : w1 % 31 = dk) (hf : ¬ farD D) (hg : GoodD D) : FnV Tryd.prog 10 [valD D uo po uc pc, .int .u8 w0, .int .u8 w1, .slice ba bys.length bc] [rowD uo 5 encD D.dues, rowD po 4 encP D.paid, rowD (some ⟨0, 0, none⟩) 1 encE ([0, 1] : List Nat), rowD ba 1 encH bys] (.bool true) := by
  have hf2 := hf
  unfold farD at hf2
  have hl1 : D.dues.length ≤ 40 := by omega
  have hl2 : D.paid.length ≤ 40 := by omega
  have hp1 := hg.np
  have hp2 := hg.nd
  have hp3 := hg.ny
  have hwp : (wk : Int) < D.people := by have : wk < D.people.toNat := by rw [← hwk]; exact Nat.mod_lt _ (by omega)
                                         omega
  have hdp : dk ≤ 30 := by omega
  have htr := tr_tru hg hu
  have hna := htr.na
  have hnp := htr.np
  refine FnV.intro Tryd.call10 Tryd.func10 rfl Tryd.ntmps10 rfl ?_
  intro W M Rf
  refine r_seq ?_
  refine r_region ?_
  refine o_boxA rfl rfl rfl rfl rfl (fun b4 => ?_)
  refine o_q _ rfl rfl rfl (v_assign rfl rfl) ?_
  refine o_nil ?_
  with_reducible refine r_then ?_
  refine r_seq ?_
  refine r_seq ?_
  refine r_region ?_
  refine o_q _ rfl rfl rfl (v_ldW rfl Tryd.underlying25 rfl inf25 rfl rfl) ?_
  refine o_q _ rfl rfl rfl (v_cast (v := .bool true) (OpQ.fn (fine_v D uo po uc pc) rfl rfl SubRC.sub) (congrArg Value.bool (decide_eq_true ⟨hf, hg⟩))) ?_
  refine o_q _ rfl rfl rfl (v_not rfl rfl) ?_
  refine o_nil ?_
  with_reducible refine r_then ?_
  refine r_cond rfl (fun hc35 => ?_) (fun hc35 => ?_)
  ·
    (exfalso; revert hc35; decide)
  ·
    refine r_skip ?_
    with_reducible refine r_then ?_
    refine r_seq ?_
    refine r_region ?_
    refine o_q _ rfl rfl rfl (v_ldW rfl Tryd.underlying25 rfl inf25 rfl rfl) ?_
    refine o_q _ rfl rfl rfl (v_move rfl rfl) ?_
    refine o_fn (truly_r D uo po uc pc hg bys ba bc hu hbl) rfl rfl rfl rfl rfl SubRC.sub (fun v39 hv39 => ?_)
    obtain ⟨ao, ac, qo, qc, rfl⟩ := hv39
    refine Imp.derive (ψ := rowD ao 1 encI (trA D bys D.dues.length)) ?_ (fun V hV => hV _ (by simp [facTr, adrAt, adr]))
    refine Imp.derive (ψ := rowD qo 1 encI (trP D bys D.paid.length)) ?_ (fun V hV => hV _ (by simp [facTr, adrAt, adr]))
    refine o_alloc rfl inf43 rfl rfl rfl rfl rfl (fun b9 => ?_)
    refine o_st rfl inf43 rfl rfl rfl rfl rfl rfl rfl rfl ?_
    refine o_nil ?_
    with_reducible refine r_then ?_
    refine r_seq ?_
    refine Imp.box_to b9 [.slice ao (trA D bys D.dues.length).length ac, .slice qo (trP D bys D.paid.length).length qc] rfl ?_
    refine r_region ?_
    refine o_q _ rfl rfl rfl (v_ldW rfl Tryd.underlying25 rfl inf25 rfl rfl) ?_
    refine o_q _ rfl rfl rfl (v_ldW rfl Tryd.underlying43 rfl inf43 rfl rfl) ?_
    refine o_fn (exact35_r D uo po uc pc (trA D bys D.dues.length) (trP D bys D.paid.length) ao qo ac qc hl1 hl2 (trA_len ..) (trP_len ..)) rfl rfl rfl rfl rfl SubRC.sub (fun v42 hv42 => ?_)
    obtain ⟨e0, f0, c0, k0, rfl⟩ := hv42
    refine Imp.derive (ψ := rowD e0 5 encD (exactD D (trA D bys D.dues.length) (trP D bys D.paid.length)).dues) ?_ (fun V hV => hV _ (by simp [facDv, adrAt, adr]))
    refine Imp.derive (ψ := rowD f0 4 encP (exactD D (trA D bys D.dues.length) (trP D bys D.paid.length)).paid) ?_ (fun V hV => hV _ (by simp [facDv, adrAt, adr]))
    refine o_alloc rfl inf25 rfl rfl rfl rfl rfl (fun b10 => ?_)
    refine o_st rfl inf25 rfl rfl rfl rfl rfl rfl rfl rfl ?_
    refine o_nil ?_
    with_reducible refine r_then ?_
    refine r_seq ?_
    refine Imp.box_to b10 (cellsD (exactD D (trA D bys D.dues.length) (trP D bys D.paid.length)) e0 f0 c0 k0) rfl ?_
    refine r_region ?_
    refine o_q _ rfl rfl rfl (v_move rfl rfl) ?_
    refine o_q _ rfl rfl rfl (v_conv rfl Tryd.underlying5 Tryd.underlying3 rfl (IntWalk.i64_in _ (by omega))) ?_
    refine o_q _ rfl rfl rfl (v_fieldAddr rfl Tryd.underlying25 inf3 rfl rfl rfl rfl) ?_
    refine o_q _ rfl rfl rfl (v_ld1 rfl Tryd.underlying3 rfl rfl rfl) ?_
    refine o_q _ rfl rfl rfl (v_cast (v := i64 (wk : Nat)) (v_rem rfl rfl rfl (by omega)) (tmodE hwk (by omega))) ?_
    refine o_q _ rfl rfl rfl (v_move rfl rfl) ?_
    refine o_q _ rfl rfl rfl (v_conv rfl Tryd.underlying5 Tryd.underlying3 rfl (IntWalk.i64_in _ (by omega))) ?_
    refine o_q _ rfl rfl rfl (v_cast (v := i64 (dk : Nat)) (v_rem rfl rfl rfl (by omega)) (tmodE hdk (by omega))) ?_
    refine o_q _ rfl rfl rfl (v_assign rfl rfl) ?_
    refine o_q _ rfl rfl rfl (v_assign rfl rfl) ?_
    refine o_nil ?_
    with_reducible refine r_then ?_
    refine r_seq ?_
    refine r_region ?_
    refine o_q _ rfl rfl rfl (v_assign rfl rfl) ?_
    refine o_q _ rfl rfl rfl (v_assign rfl rfl) ?_
    refine o_nil ?_
    with_reducible refine r_then ?_
    refine r_seq ?_
    refine r_seq ?_
    refine r_region ?_
    refine o_q _ rfl rfl rfl (v_move rfl rfl) ?_
    refine o_q _ rfl rfl rfl (v_gtr rfl rfl rfl) ?_
    refine o_nil ?_
    with_reducible refine r_then ?_
    refine r_condd rfl (fun hc52 => ?_) (fun hc52 => ?_)
    ·
      refine r_seq ?_
      obtain ⟨dp, hdp1⟩ : ∃ dp : Nat, dk = dp + 1 := ⟨dk - 1, by omega⟩
      refine r_region ?_
      refine o_q _ rfl rfl rfl (v_ldW rfl Tryd.underlying25 rfl inf25 rfl rfl) ?_
      refine o_q _ rfl rfl rfl (v_move rfl rfl) ?_
      refine o_q _ rfl rfl rfl (v_move rfl rfl) ?_
      refine o_q _ rfl rfl rfl (v_cast (v := i64 (dp : Int)) (v_sub rfl rfl rfl (by omega)) (i64c (by omega))) ?_
      refine o_q _ rfl rfl rfl (v_cast (v := .tuple #[vS ⟨(total (accT D (trA D bys D.dues.length) (trP D bys D.paid.length) (wk : Int) (dp + 1)).1), (total (accT D (trA D bys D.dues.length) (trP D bys D.paid.length) (wk : Int) (dp + 1)).1)⟩, i64 0]) (OpQ.fn (left14_v (exactD D (trA D bys D.dues.length) (trP D bys D.paid.length)) e0 f0 c0 k0 (wk : Int) (dp : Int) (by rw [(exact_lens D _ _).1]; exact hl1) (by rw [(exact_lens D _ _).2.1]; exact hl2)) rfl rfl SubRC.sub) (kL hg htr hwp (by omega))) ?_
      refine o_q _ rfl rfl rfl (v_move rfl rfl) ?_
      refine o_q _ rfl rfl rfl (v_extract rfl rfl rfl) ?_
      refine o_q _ rfl rfl rfl (v_extract rfl rfl rfl) ?_
      refine o_alloc rfl inf29 rfl rfl rfl rfl rfl (fun b15 => ?_)
      refine o_st rfl inf29 rfl rfl rfl rfl rfl rfl rfl rfl ?_
      refine o_q _ rfl rfl rfl (v_assign rfl rfl) ?_
      refine o_nil ?_
      with_reducible refine r_then ?_
      refine r_seq ?_
      refine r_region ?_
      refine o_q _ rfl rfl rfl (v_ldW rfl Tryd.underlying25 rfl inf25 rfl rfl) ?_
      refine o_q _ rfl rfl rfl (v_move rfl rfl) ?_
      refine o_q _ rfl rfl rfl (v_move rfl rfl) ?_
      refine o_q _ rfl rfl rfl (v_cast (v := i64 (dp : Int)) (v_sub rfl rfl rfl (by omega)) (i64c (by omega))) ?_
      refine o_q _ rfl rfl rfl (v_cast (v := .tuple #[vS ⟨(accT D (trA D bys D.dues.length) (trP D bys D.paid.length) (wk : Int) (dp + 1)).2, (accT D (trA D bys D.dues.length) (trP D bys D.paid.length) (wk : Int) (dp + 1)).2⟩, i64 0]) (OpQ.fn (ahead16_v (exactD D (trA D bys D.dues.length) (trP D bys D.paid.length)) e0 f0 c0 k0 (wk : Int) (dp : Int) (by rw [(exact_lens D _ _).1]; exact hl1) (by rw [(exact_lens D _ _).2.1]; exact hl2)) rfl rfl SubRC.sub) (kA hg htr hwp (by omega))) ?_
      refine o_q _ rfl rfl rfl (v_move rfl rfl) ?_
      refine o_q _ rfl rfl rfl (v_extract rfl rfl rfl) ?_
      refine o_q _ rfl rfl rfl (v_extract rfl rfl rfl) ?_
      refine o_alloc rfl inf29 rfl rfl rfl rfl rfl (fun b17 => ?_)
      refine o_st rfl inf29 rfl rfl rfl rfl rfl rfl rfl rfl ?_
      refine o_q _ rfl rfl rfl (v_assign rfl rfl) ?_
      refine o_nil ?_
      with_reducible refine r_then ?_
      refine r_seq ?_
      refine r_seq ?_
      refine Imp.box_to b15 [i64 (total (accT D (trA D bys D.dues.length) (trP D bys D.paid.length) (wk : Int) (dp + 1)).1), i64 (total (accT D (trA D bys D.dues.length) (trP D bys D.paid.length) (wk : Int) (dp + 1)).1)] rfl ?_
      refine Imp.box_to b17 [i64 (accT D (trA D bys D.dues.length) (trP D bys D.paid.length) (wk : Int) (dp + 1)).2, i64 (accT D (trA D bys D.dues.length) (trP D bys D.paid.length) (wk : Int) (dp + 1)).2] rfl ?_
      refine r_region ?_
      refine o_q _ rfl rfl rfl (v_move rfl rfl) ?_
      refine o_q _ rfl rfl rfl (v_false (v_neq rfl rfl rfl) (by omega)) ?_
      all_goals
        refine o_q _ rfl rfl rfl (v_move rfl rfl) ?_
        refine o_g _ rfl rfl rfl rfl (v_move rfl rfl) ?_
        refine o_g _ rfl rfl rfl rfl (v_false (v_neq rfl rfl rfl) (by omega)) ?_
        all_goals
          refine o_q _ rfl rfl rfl (v_pick_f rfl rfl rfl) ?_
          refine o_q _ rfl rfl rfl (v_move rfl rfl) ?_
          refine o_g _ rfl rfl rfl rfl (v_fieldAddr rfl Tryd.underlying29 inf3 rfl rfl rfl rfl) ?_
          refine o_g _ rfl rfl rfl rfl (v_ld1 rfl Tryd.underlying3 rfl rfl rfl) ?_
          refine o_g _ rfl rfl rfl rfl (v_fieldAddr rfl Tryd.underlying29 inf3 rfl rfl rfl rfl) ?_
          refine o_g _ rfl rfl rfl rfl (v_ld1 rfl Tryd.underlying3 rfl rfl rfl) ?_
          refine o_g _ rfl rfl rfl rfl (v_false (v_neq rfl rfl rfl) (by omega)) ?_
          all_goals
            refine o_q _ rfl rfl rfl (v_pick_f rfl rfl rfl) ?_
            refine o_q _ rfl rfl rfl (v_move rfl rfl) ?_
            refine o_g _ rfl rfl rfl rfl (v_fieldAddr rfl Tryd.underlying29 inf3 rfl rfl rfl rfl) ?_
            refine o_g _ rfl rfl rfl rfl (v_ld1 rfl Tryd.underlying3 rfl rfl rfl) ?_
            refine o_g _ rfl rfl rfl rfl (v_fieldAddr rfl Tryd.underlying29 inf3 rfl rfl rfl rfl) ?_
            refine o_g _ rfl rfl rfl rfl (v_ld1 rfl Tryd.underlying3 rfl rfl rfl) ?_
            refine o_g _ rfl rfl rfl rfl (v_false (v_neq rfl rfl rfl) (by omega)) ?_
            all_goals
              refine o_q _ rfl rfl rfl (v_pick_f rfl rfl rfl) ?_
              refine o_nil ?_
              with_reducible refine r_then ?_
              refine r_cond rfl (fun hc88 => ?_) (fun hc88 => ?_)
              ·
                (exfalso; revert hc88; decide)
              ·
                refine r_skip ?_
                with_reducible refine r_then ?_
                refine r_region_q mixed (by kernel_rfl) ?_
                refine q_q _ rfl rfl rfl (v_fieldAddr rfl Tryd.underlying29 inf3 rfl rfl rfl rfl) ?_
                refine q_q _ rfl rfl rfl (v_ld1 rfl Tryd.underlying3 rfl rfl rfl) ?_
                refine q_q _ rfl rfl rfl (v_fieldAddr rfl Tryd.underlying29 inf3 rfl rfl rfl rfl) ?_
                refine q_q _ rfl rfl rfl (v_ld1 rfl Tryd.underlying3 rfl rfl rfl) ?_
                refine q_q _ rfl rfl rfl (v_assign rfl rfl) ?_
                refine q_q _ rfl rfl rfl (v_assign rfl rfl) ?_
                refine q_nil ?_
                with_reducible refine r_then ?_
                refine r_seq ?_
                (have hT13 : (total (accT D (trA D bys D.dues.length) (trP D bys D.paid.length) (wk : Int) (dp + 1)).1) = (total (accT D (trA D bys D.dues.length) (trP D bys D.paid.length) (wk : Int) (dk)).1) := by rw [hdp1])
                (have hA14 : (accT D (trA D bys D.dues.length) (trP D bys D.paid.length) (wk : Int) (dp + 1)).2 = (accT D (trA D bys D.dues.length) (trP D bys D.paid.length) (wk : Int) (dk)).2 := by rw [hdp1])
                refine r_region ?_
                refine o_q _ rfl rfl rfl (v_ldW rfl Tryd.underlying25 rfl inf25 rfl rfl) ?_
                refine o_q _ rfl rfl rfl (v_move rfl rfl) ?_
                refine o_q _ rfl rfl rfl (v_move rfl rfl) ?_
                refine o_q _ rfl rfl rfl (v_cast (v := .tuple #[vS ⟨(total (accT D (trA D bys D.dues.length) (trP D bys D.paid.length) (wk : Int) (dk + 1)).1), (total (accT D (trA D bys D.dues.length) (trP D bys D.paid.length) (wk : Int) (dk + 1)).1)⟩, i64 0]) (OpQ.fn (left14_v (exactD D (trA D bys D.dues.length) (trP D bys D.paid.length)) e0 f0 c0 k0 (wk : Int) (dk : Int) (by rw [(exact_lens D _ _).1]; exact hl1) (by rw [(exact_lens D _ _).2.1]; exact hl2)) rfl rfl SubRC.sub) (kL hg htr hwp (by omega))) ?_
                refine o_q _ rfl rfl rfl (v_move rfl rfl) ?_
                refine o_q _ rfl rfl rfl (v_extract rfl rfl rfl) ?_
                refine o_q _ rfl rfl rfl (v_extract rfl rfl rfl) ?_
                refine o_alloc rfl inf29 rfl rfl rfl rfl rfl (fun b19 => ?_)
                refine o_st rfl inf29 rfl rfl rfl rfl rfl rfl rfl rfl ?_
                refine o_q _ rfl rfl rfl (v_assign rfl rfl) ?_
                refine o_nil ?_
                with_reducible refine r_then ?_
                refine r_seq ?_
                refine r_region ?_
                refine o_q _ rfl rfl rfl (v_ldW rfl Tryd.underlying25 rfl inf25 rfl rfl) ?_
                refine o_q _ rfl rfl rfl (v_move rfl rfl) ?_
                refine o_q _ rfl rfl rfl (v_move rfl rfl) ?_
                refine o_q _ rfl rfl rfl (v_cast (v := .tuple #[vS ⟨(accT D (trA D bys D.dues.length) (trP D bys D.paid.length) (wk : Int) (dk + 1)).2, (accT D (trA D bys D.dues.length) (trP D bys D.paid.length) (wk : Int) (dk + 1)).2⟩, i64 0]) (OpQ.fn (ahead16_v (exactD D (trA D bys D.dues.length) (trP D bys D.paid.length)) e0 f0 c0 k0 (wk : Int) (dk : Int) (by rw [(exact_lens D _ _).1]; exact hl1) (by rw [(exact_lens D _ _).2.1]; exact hl2)) rfl rfl SubRC.sub) (kA hg htr hwp (by omega))) ?_
                refine o_q _ rfl rfl rfl (v_move rfl rfl) ?_
                refine o_q _ rfl rfl rfl (v_extract rfl rfl rfl) ?_
                refine o_q _ rfl rfl rfl (v_extract rfl rfl rfl) ?_
                refine o_alloc rfl inf29 rfl rfl rfl rfl rfl (fun b21 => ?_)
                refine o_st rfl inf29 rfl rfl rfl rfl rfl rfl rfl rfl ?_
                refine o_q _ rfl rfl rfl (v_assign rfl rfl) ?_
                refine o_nil ?_
                with_reducible refine r_then ?_
                refine r_seq ?_
                refine r_region ?_
                refine o_q _ rfl rfl rfl (v_ldW rfl Tryd.underlying25 rfl inf25 rfl rfl) ?_
                refine o_q _ rfl rfl rfl (v_move rfl rfl) ?_
                refine o_q _ rfl rfl rfl (v_move rfl rfl) ?_
                refine o_q _ rfl rfl rfl (v_cast (v := .tuple #[i64 ((bitX D (trA D bys D.dues.length) (trP D bys D.paid.length) (wk : Int) dk) : Nat), i64 ((bitX D (trA D bys D.dues.length) (trP D bys D.paid.length) (wk : Int) dk) : Nat), i64 0]) (OpQ.fn (open20_v (exactD D (trA D bys D.dues.length) (trP D bys D.paid.length)) e0 f0 c0 k0 (wk : Int) (dk : Int) (by rw [(exact_lens D _ _).1]; exact hl1) (by rw [(exact_lens D _ _).2.1]; exact hl2)) rfl rfl SubRC.sub) (kO hg htr hwp hdp)) ?_
                refine o_q _ rfl rfl rfl (v_move rfl rfl) ?_
                refine o_q _ rfl rfl rfl (v_extract rfl rfl rfl) ?_
                refine o_q _ rfl rfl rfl (v_extract rfl rfl rfl) ?_
                refine o_q _ rfl rfl rfl (v_extract rfl rfl rfl) ?_
                refine o_q _ rfl rfl rfl (v_assign rfl rfl) ?_
                refine o_q _ rfl rfl rfl (v_assign rfl rfl) ?_
                refine o_q _ rfl rfl rfl (v_assign rfl rfl) ?_
                refine o_nil ?_
                with_reducible refine r_then ?_
                refine r_seq ?_
                refine r_seq ?_
                refine Imp.box_to b19 [i64 (total (accT D (trA D bys D.dues.length) (trP D bys D.paid.length) (wk : Int) (dk + 1)).1), i64 (total (accT D (trA D bys D.dues.length) (trP D bys D.paid.length) (wk : Int) (dk + 1)).1)] rfl ?_
                refine Imp.box_to b21 [i64 (accT D (trA D bys D.dues.length) (trP D bys D.paid.length) (wk : Int) (dk + 1)).2, i64 (accT D (trA D bys D.dues.length) (trP D bys D.paid.length) (wk : Int) (dk + 1)).2] rfl ?_
                have hone : (total (accT D (trA D bys D.dues.length) (trP D bys D.paid.length) (wk : Int) (dk + 1)).1) = 0 ∨ (accT D (trA D bys D.dues.length) (trP D bys D.paid.length) (wk : Int) (dk + 1)).2 = 0 := acc_one hg (fun i hi => by have := htr.bdA hg i hi; omega) (fun i hi => by have := htr.bdP hg i hi; omega) (wk : Int) dk
                refine r_region ?_
                refine o_q _ rfl rfl rfl (v_move rfl rfl) ?_
                refine o_q _ rfl rfl rfl (v_false (v_neq rfl rfl rfl) (by omega)) ?_
                all_goals
                  refine o_q _ rfl rfl rfl (v_move rfl rfl) ?_
                  refine o_g _ rfl rfl rfl rfl (v_move rfl rfl) ?_
                  refine o_g _ rfl rfl rfl rfl (v_false (v_neq rfl rfl rfl) (by omega)) ?_
                  all_goals
                    refine o_q _ rfl rfl rfl (v_pick_f rfl rfl rfl) ?_
                    refine o_q _ rfl rfl rfl (v_move rfl rfl) ?_
                    refine o_g _ rfl rfl rfl rfl (v_move rfl rfl) ?_
                    refine o_g _ rfl rfl rfl rfl (v_false (v_neq rfl rfl rfl) (by omega)) ?_
                    all_goals
                      refine o_q _ rfl rfl rfl (v_pick_f rfl rfl rfl) ?_
                      refine o_q _ rfl rfl rfl (v_move rfl rfl) ?_
                      refine o_g _ rfl rfl rfl rfl (v_fieldAddr rfl Tryd.underlying29 inf3 rfl rfl rfl rfl) ?_
                      refine o_g _ rfl rfl rfl rfl (v_ld1 rfl Tryd.underlying3 rfl rfl rfl) ?_
                      refine o_g _ rfl rfl rfl rfl (v_fieldAddr rfl Tryd.underlying29 inf3 rfl rfl rfl rfl) ?_
                      refine o_g _ rfl rfl rfl rfl (v_ld1 rfl Tryd.underlying3 rfl rfl rfl) ?_
                      refine o_g _ rfl rfl rfl rfl (v_false (v_neq rfl rfl rfl) (by omega)) ?_
                      all_goals
                        refine o_q _ rfl rfl rfl (v_pick_f rfl rfl rfl) ?_
                        refine o_q _ rfl rfl rfl (v_move rfl rfl) ?_
                        refine o_g _ rfl rfl rfl rfl (v_fieldAddr rfl Tryd.underlying29 inf3 rfl rfl rfl rfl) ?_
                        refine o_g _ rfl rfl rfl rfl (v_ld1 rfl Tryd.underlying3 rfl rfl rfl) ?_
                        refine o_g _ rfl rfl rfl rfl (v_fieldAddr rfl Tryd.underlying29 inf3 rfl rfl rfl rfl) ?_
                        refine o_g _ rfl rfl rfl rfl (v_ld1 rfl Tryd.underlying3 rfl rfl rfl) ?_
                        refine o_g _ rfl rfl rfl rfl (v_false (v_neq rfl rfl rfl) (by omega)) ?_
                        all_goals
                          refine o_q _ rfl rfl rfl (v_pick_f rfl rfl rfl) ?_
                          refine o_q _ rfl rfl rfl (v_move rfl rfl) ?_
                          refine o_g _ rfl rfl rfl rfl (v_move rfl rfl) ?_
                          refine o_g _ rfl rfl rfl rfl (v_move rfl rfl) ?_
                          refine o_g _ rfl rfl rfl rfl (v_false (v_neq rfl rfl rfl) (by omega)) ?_
                          all_goals
                            refine o_q _ rfl rfl rfl (v_pick_f rfl rfl rfl) ?_
                            refine o_q _ rfl rfl rfl (v_move rfl rfl) ?_
                            refine o_g _ rfl rfl rfl rfl (v_fieldAddr rfl Tryd.underlying29 inf3 rfl rfl rfl rfl) ?_
                            refine o_g _ rfl rfl rfl rfl (v_ld1 rfl Tryd.underlying3 rfl rfl rfl) ?_
                            refine o_gtest rfl rfl rfl rfl (v_gtr rfl rfl rfl) (fun h147 => ?_) (fun h147 => ?_)
                            all_goals
                              refine o_g _ rfl rfl rfl rfl (v_move rfl rfl) ?_
                              first | refine o_gn rfl rfl rfl rfl ?_ | refine o_g _ rfl rfl rfl rfl (v_fieldAddr rfl Tryd.underlying29 inf3 rfl rfl rfl rfl) ?_
                              first | refine o_gn rfl rfl rfl rfl ?_ | refine o_g _ rfl rfl rfl rfl (v_ld1 rfl Tryd.underlying3 rfl rfl rfl) ?_
                              first | refine o_gn rfl rfl rfl rfl ?_ | refine o_g _ rfl rfl rfl rfl (v_false (v_gtr rfl rfl rfl) (by omega)) ?_
                              all_goals
                                first | refine o_g _ rfl rfl rfl rfl (v_pick_t rfl rfl rfl) ?_ | refine o_g _ rfl rfl rfl rfl (v_pick_f rfl rfl rfl) ?_
                                refine o_q _ rfl rfl rfl (v_pick_f rfl rfl rfl) ?_
                                refine o_nil ?_
                                with_reducible refine r_then ?_
                                refine r_cond rfl (fun hc153 => ?_) (fun hc153 => ?_)
                                ·
                                  (exfalso; revert hc153; decide)
                                ·
                                  refine r_skip ?_
                                  with_reducible refine r_then ?_
                                  refine r_seq ?_
                                  refine r_region ?_
                                  refine o_q _ rfl rfl rfl (v_assign rfl rfl) ?_
                                  refine o_q _ rfl rfl rfl (v_assign rfl rfl) ?_
                                  refine o_q _ rfl rfl rfl (v_assign rfl rfl) ?_
                                  refine o_nil ?_
                                  with_reducible refine r_then ?_
                                  refine r_seq ?_
                                  refine r_seq ?_
                                  refine r_region ?_
                                  refine o_q _ rfl rfl rfl (v_fieldAddr rfl Tryd.underlying25 inf22 rfl rfl rfl rfl) ?_
                                  refine o_q _ rfl rfl rfl (v_ld1 rfl Tryd.underlying22 rfl rfl rfl) ?_
                                  refine o_q _ rfl rfl rfl (v_len rfl rfl Tryd.underlying22 rfl) ?_
                                  refine o_q _ rfl rfl rfl (v_move rfl rfl) ?_
                                  refine o_nil ?_
                                  with_reducible refine r_then ?_
                                  refine r_block ?_
                                  refine r_loop (ι := Nat) (fun k => k ≤ D.dues.length) (fun k => [(4, pt b4 0), (9, pt b9 0), (11, i64 (wk : Int)), (12, i64 (dk : Int)), (13, i64 (total (accT D (trA D bys D.dues.length) (trP D bys D.paid.length) (wk : Int) (dk)).1)), (14, i64 (accT D (trA D bys D.dues.length) (trP D bys D.paid.length) (wk : Int) (dk)).2), (19, pt b19 0), (21, pt b21 0), (23, i64 ((bitX D (trA D bys D.dues.length) (trP D bys D.paid.length) (wk : Int) dk) : Nat)), (26, i64 (total (newTo D (amF (trA D bys D.dues.length)) (wk : Int) dk k))), (27, i64 0), (28, i64 (lateK D (trA D bys D.dues.length) (trP D bys D.paid.length) (wk : Int) dk k)), (155, .slice uo D.dues.length uc), (156, i64 D.dues.length), (157, i64 (k : Int))]) (fun k => bx b19 29 [i64 (total (accT D (trA D bys D.dues.length) (trP D bys D.paid.length) (wk : Int) (dk + 1)).1), i64 (total (accT D (trA D bys D.dues.length) (trP D bys D.paid.length) (wk : Int) (dk + 1)).1)] :: bx b21 29 [i64 (accT D (trA D bys D.dues.length) (trP D bys D.paid.length) (wk : Int) (dk + 1)).2, i64 (accT D (trA D bys D.dues.length) (trP D bys D.paid.length) (wk : Int) (dk + 1)).2] :: bx b9 43 [.slice ao (trA D bys D.dues.length).length ac, .slice qo (trP D bys D.paid.length).length qc] :: bx b4 25 (cellsD D uo po uc pc) :: M) (fun k => rowD ao 1 encI (trA D bys D.dues.length) :: rowD qo 1 encI (trP D bys D.paid.length) :: ([rowD uo 5 encD D.dues, rowD po 4 encP D.paid, rowD (some ⟨0, 0, none⟩) 1 encE ([0, 1] : List Nat), rowD ba 1 encH bys] ++ Rf)) (fun k => D.dues.length - k) 0 ?_ ?_ ?_
                                  ·
                                    exact r_here (by (repeat (first | exact FSub.nil | refine FSub.cons rfl ?_ | refine FSub.cons2 rfl (i64c hT13) ?_ | refine FSub.cons2 rfl (i64c hA14) ?_ | refine FSub.cons2 rfl (i64c (show (0 : Int) = lateK _ _ _ _ _ 0 from by unfold lateK; rfl)) ?_)); first | done | fail) SelMC.sel SubRC.sub
                                  ·
                                    omega
                                  ·
                                    rintro k hI0
                                    refine r_seq ?_
                                    refine r_region ?_
                                    refine o_q _ rfl rfl rfl (v_lss rfl rfl rfl) ?_
                                    refine o_nil ?_
                                    with_reducible refine r_then ?_
                                    refine r_seq ?_
                                    refine r_condd rfl (fun hc158 => ?_) (fun hc158 => ?_)
                                    ·
                                      refine r_skip ?_
                                      with_reducible refine r_then ?_
                                      refine r_seq ?_
                                      refine r_block ?_
                                      refine r_seq ?_
                                      refine r_region ?_
                                      refine o_q _ rfl rfl rfl (v_move rfl rfl) ?_
                                      refine o_q _ rfl rfl rfl (v_indexAddrSn rfl Tryd.underlying22 inf62 rfl rfl rfl (by omega) rfl) ?_
                                      refine o_q _ rfl rfl rfl (v_loadEN (us := encD (D.dues.getD k default)) rfl Tryd.underlying62 rfl inf62 rfl (by omega) rfl rfl rfl) ?_
                                      refine o_alloc rfl inf62 rfl rfl rfl rfl rfl (fun b30 => ?_)
                                      refine o_q _ rfl rfl rfl (v_assign rfl rfl) ?_
                                      refine o_st rfl inf62 rfl rfl rfl rfl rfl rfl rfl rfl ?_
                                      refine o_nil ?_
                                      with_reducible refine r_then ?_
                                      refine r_seq ?_
                                      refine r_seq ?_
                                      refine Imp.box_to b30 (encD (D.dues.getD k default)) rfl ?_
                                      have hnw := new_tot_bd hg htr (wk : Int) dk k (by omega)
                                      have hlt := late_bd hg htr (wk : Int) dk k (by omega)
                                      have hak := htr.bdA hg k (by omega)
                                      obtain ⟨_, _, _, hlate⟩ := hg.dues k (by omega)
                                      refine r_region ?_
                                      refine o_q _ rfl rfl rfl (v_fieldAddr rfl Tryd.underlying62 inf3 rfl rfl rfl rfl) ?_
                                      refine o_q _ rfl rfl rfl (v_ld1 rfl Tryd.underlying3 rfl rfl rfl) ?_
                                      refine o_q _ rfl rfl rfl (v_move rfl rfl) ?_
                                      refine o_test rfl rfl rfl (v_eql rfl rfl rfl) (fun h165 => ?_) (fun h165 => ?_)
                                      all_goals
                                        refine o_q _ rfl rfl rfl (v_move rfl rfl) ?_
                                        first | refine o_gn rfl rfl rfl rfl ?_ | refine o_g _ rfl rfl rfl rfl (v_fieldAddr rfl Tryd.underlying62 inf3 rfl rfl rfl rfl) ?_
                                        first | refine o_gn rfl rfl rfl rfl ?_ | refine o_g _ rfl rfl rfl rfl (v_ld1 rfl Tryd.underlying3 rfl rfl rfl) ?_
                                        first | refine o_gn rfl rfl rfl rfl ?_ | refine o_g _ rfl rfl rfl rfl (v_move rfl rfl) ?_
                                        first | refine o_gn rfl rfl rfl rfl ?_ | refine o_gtest rfl rfl rfl rfl (v_eql rfl rfl rfl) (fun h170 => ?_) (fun h170 => ?_)
                                        all_goals
                                          first | refine o_q _ rfl rfl rfl (v_pick_t rfl rfl rfl) ?_ | refine o_q _ rfl rfl rfl (v_pick_f rfl rfl rfl) ?_
                                          refine o_nil ?_
                                          with_reducible refine r_then ?_
                                          refine r_cond rfl (fun hc171 => ?_) (fun hc171 => ?_)
                                          ·
                                            first
                                            | (exfalso; revert hc171; decide)
                                            | skip
                                              refine r_region ?_
                                              refine o_q _ rfl rfl rfl (v_move rfl rfl) ?_
                                              refine o_q _ rfl rfl rfl (v_fieldAddr rfl Tryd.underlying43 inf41 rfl rfl rfl rfl) ?_
                                              refine o_q _ rfl rfl rfl (v_ld1 rfl Tryd.underlying41 rfl rfl rfl) ?_
                                              refine o_q _ rfl rfl rfl (v_move rfl rfl) ?_
                                              refine o_q _ rfl rfl rfl (v_indexAddrSn rfl Tryd.underlying41 inf3 rfl rfl rfl (by omega) rfl) ?_
                                              refine o_q _ rfl rfl rfl (v_loadE1 (v := i64 ((trA D bys D.dues.length).getD k default)) rfl Tryd.underlying3 rfl rfl (by omega) rfl rfl) ?_
                                              refine o_q _ rfl rfl rfl (v_add rfl rfl rfl (by omega)) ?_
                                              refine o_q _ rfl rfl rfl (v_assign rfl rfl) ?_
                                              refine o_nil ?_
                                              with_reducible refine r_then ?_
                                              refine r_seq ?_
                                              refine r_region ?_
                                              refine o_q _ rfl rfl rfl (v_move rfl rfl) ?_
                                              refine o_q _ rfl rfl rfl (v_move rfl rfl) ?_
                                              refine o_q _ rfl rfl rfl (v_shrI (a := (bitX D (trA D bys D.dues.length) (trP D bys D.paid.length) (wk : Int) dk)) (h := k) rfl rfl rfl (bit_lt hg htr _ hdp) (by omega)) ?_
                                              refine o_q _ rfl rfl rfl (v_andn (a := (bitX D (trA D bys D.dues.length) (trP D bys D.paid.length) (wk : Int) dk) >>> k) (b := 1) rfl rfl rfl (Nat.lt_of_le_of_lt (Nat.shiftRight_le _ _) (bit_lt hg htr _ hdp)) (by decide)) ?_
                                              refine o_q _ rfl rfl rfl (v_eql rfl rfl rfl) ?_
                                              refine o_nil ?_
                                              with_reducible refine r_then ?_
                                              refine r_condd rfl (fun hc183 => ?_) (fun hc183 => ?_)
                                              ·
                                                refine r_seq ?_
                                                refine r_seq ?_
                                                have hoe := open_ent hg htr (wk : Int) dk ((shr_bit _ _).1 hc183)
                                                refine r_region ?_
                                                refine o_q _ rfl rfl rfl (v_fieldAddr rfl Tryd.underlying62 inf3 rfl rfl rfl rfl) ?_
                                                refine o_q _ rfl rfl rfl (v_ld1 rfl Tryd.underlying3 rfl rfl rfl) ?_
                                                refine o_q _ rfl rfl rfl (v_move rfl rfl) ?_
                                                refine o_q _ rfl rfl rfl (v_false (v_neq rfl rfl rfl) (by omega)) ?_
                                                all_goals
                                                  refine o_q _ rfl rfl rfl (v_move rfl rfl) ?_
                                                  refine o_g _ rfl rfl rfl rfl (v_fieldAddr rfl Tryd.underlying62 inf3 rfl rfl rfl rfl) ?_
                                                  refine o_g _ rfl rfl rfl rfl (v_ld1 rfl Tryd.underlying3 rfl rfl rfl) ?_
                                                  refine o_g _ rfl rfl rfl rfl (v_move rfl rfl) ?_
                                                  refine o_g _ rfl rfl rfl rfl (v_false (v_gtr rfl rfl rfl) (by omega)) ?_
                                                  all_goals
                                                    refine o_q _ rfl rfl rfl (v_pick_f rfl rfl rfl) ?_
                                                    refine o_nil ?_
                                                    with_reducible refine r_then ?_
                                                    refine r_cond rfl (fun hc193 => ?_) (fun hc193 => ?_)
                                                    ·
                                                      (exfalso; revert hc193; decide)
                                                    ·
                                                      refine r_skip ?_
                                                      with_reducible refine r_then ?_
                                                      refine r_seq ?_
                                                      refine r_region ?_
                                                      refine o_q _ rfl rfl rfl (v_fieldAddr rfl Tryd.underlying62 inf3 rfl rfl rfl rfl) ?_
                                                      refine o_q _ rfl rfl rfl (v_ld1 rfl Tryd.underlying3 rfl rfl rfl) ?_
                                                      refine o_q _ rfl rfl rfl (v_move rfl rfl) ?_
                                                      refine o_q _ rfl rfl rfl (v_lss rfl rfl rfl) ?_
                                                      refine o_nil ?_
                                                      with_reducible refine r_then ?_
                                                      refine r_condd rfl (fun hc197 => ?_) (fun hc197 => ?_)
                                                      ·
                                                        (exfalso; omega)
                                                      ·
                                                        refine r_skip ?_
                                                        with_reducible refine r_in_normal ?_; refine r_then ?_
                                                        refine r_region ?_
                                                        refine o_q _ rfl rfl rfl (v_add rfl rfl rfl (by omega)) ?_
                                                        refine o_q _ rfl rfl rfl (v_move rfl rfl) ?_
                                                        refine o_nil ?_
                                                        with_reducible refine r_then ?_
                                                        exact r_next (k + 1) (by exact r_here (by (repeat (first | exact FSub.nil | refine FSub.cons rfl ?_ | refine FSub.cons2 rfl (i64c (new_y (by omega) (by omega))) ?_ | refine FSub.cons2 rfl (i64c (new_n (by omega))) ?_ | refine FSub.cons2 rfl (i64c (late_y (by omega) (by omega))) ?_ | refine FSub.cons2 rfl (i64c (late_n (by omega))) ?_)); first | done | fail) SelMC.sel SubRC.sub) (by first | omega | (show _ + 1 ≤ _; omega)) (by first | omega | (show _ - (_ + 1) < _ - _; omega))
                                              ·
                                                refine r_skip ?_
                                                with_reducible refine r_in_normal ?_; refine r_then ?_
                                                refine r_region ?_
                                                refine o_q _ rfl rfl rfl (v_add rfl rfl rfl (by omega)) ?_
                                                refine o_q _ rfl rfl rfl (v_move rfl rfl) ?_
                                                refine o_nil ?_
                                                with_reducible refine r_then ?_
                                                exact r_next (k + 1) (by exact r_here (by (repeat (first | exact FSub.nil | refine FSub.cons rfl ?_ | refine FSub.cons2 rfl (i64c (new_y (by omega) (by omega))) ?_ | refine FSub.cons2 rfl (i64c (new_n (by omega))) ?_ | refine FSub.cons2 rfl (i64c (late_y (by omega) (by omega))) ?_ | refine FSub.cons2 rfl (i64c (late_n (by omega))) ?_)); first | done | fail) SelMC.sel SubRC.sub) (by first | omega | (show _ + 1 ≤ _; omega)) (by first | omega | (show _ - (_ + 1) < _ - _; omega))
                                          ·
                                            first
                                            | (exfalso; revert hc171; decide)
                                            | skip
                                              refine r_skip ?_
                                              with_reducible refine r_then ?_
                                              refine r_seq ?_
                                              refine r_region ?_
                                              refine o_q _ rfl rfl rfl (v_move rfl rfl) ?_
                                              refine o_q _ rfl rfl rfl (v_move rfl rfl) ?_
                                              refine o_q _ rfl rfl rfl (v_shrI (a := (bitX D (trA D bys D.dues.length) (trP D bys D.paid.length) (wk : Int) dk)) (h := k) rfl rfl rfl (bit_lt hg htr _ hdp) (by omega)) ?_
                                              refine o_q _ rfl rfl rfl (v_andn (a := (bitX D (trA D bys D.dues.length) (trP D bys D.paid.length) (wk : Int) dk) >>> k) (b := 1) rfl rfl rfl (Nat.lt_of_le_of_lt (Nat.shiftRight_le _ _) (bit_lt hg htr _ hdp)) (by decide)) ?_
                                              refine o_q _ rfl rfl rfl (v_eql rfl rfl rfl) ?_
                                              refine o_nil ?_
                                              with_reducible refine r_then ?_
                                              refine r_condd rfl (fun hc183 => ?_) (fun hc183 => ?_)
                                              ·
                                                refine r_seq ?_
                                                refine r_seq ?_
                                                have hoe := open_ent hg htr (wk : Int) dk ((shr_bit _ _).1 hc183)
                                                refine r_region ?_
                                                refine o_q _ rfl rfl rfl (v_fieldAddr rfl Tryd.underlying62 inf3 rfl rfl rfl rfl) ?_
                                                refine o_q _ rfl rfl rfl (v_ld1 rfl Tryd.underlying3 rfl rfl rfl) ?_
                                                refine o_q _ rfl rfl rfl (v_move rfl rfl) ?_
                                                first | refine o_q _ rfl rfl rfl (v_true (v_neq rfl rfl rfl) (by omega)) ?_ | refine o_q _ rfl rfl rfl (v_false (v_neq rfl rfl rfl) (by omega)) ?_
                                                all_goals
                                                  refine o_q _ rfl rfl rfl (v_move rfl rfl) ?_
                                                  first | refine o_gn rfl rfl rfl rfl ?_ | refine o_g _ rfl rfl rfl rfl (v_fieldAddr rfl Tryd.underlying62 inf3 rfl rfl rfl rfl) ?_
                                                  first | refine o_gn rfl rfl rfl rfl ?_ | refine o_g _ rfl rfl rfl rfl (v_ld1 rfl Tryd.underlying3 rfl rfl rfl) ?_
                                                  first | refine o_gn rfl rfl rfl rfl ?_ | refine o_g _ rfl rfl rfl rfl (v_move rfl rfl) ?_
                                                  first | refine o_gn rfl rfl rfl rfl ?_ | refine o_g _ rfl rfl rfl rfl (v_false (v_gtr rfl rfl rfl) (by omega)) ?_
                                                  all_goals
                                                    first | refine o_q _ rfl rfl rfl (v_pick_t rfl rfl rfl) ?_ | refine o_q _ rfl rfl rfl (v_pick_f rfl rfl rfl) ?_
                                                    refine o_nil ?_
                                                    with_reducible refine r_then ?_
                                                    refine r_cond rfl (fun hc193 => ?_) (fun hc193 => ?_)
                                                    ·
                                                      first
                                                      | (exfalso; revert hc193; decide)
                                                      | (exfalso; omega)
                                                    ·
                                                      first
                                                      | (exfalso; revert hc193; decide)
                                                      | skip
                                                        refine r_skip ?_
                                                        with_reducible refine r_then ?_
                                                        refine r_seq ?_
                                                        refine r_region ?_
                                                        refine o_q _ rfl rfl rfl (v_fieldAddr rfl Tryd.underlying62 inf3 rfl rfl rfl rfl) ?_
                                                        refine o_q _ rfl rfl rfl (v_ld1 rfl Tryd.underlying3 rfl rfl rfl) ?_
                                                        refine o_q _ rfl rfl rfl (v_move rfl rfl) ?_
                                                        refine o_q _ rfl rfl rfl (v_lss rfl rfl rfl) ?_
                                                        refine o_nil ?_
                                                        with_reducible refine r_then ?_
                                                        refine r_condd rfl (fun hc197 => ?_) (fun hc197 => ?_)
                                                        ·
                                                          refine r_region ?_
                                                          refine o_q _ rfl rfl rfl (v_move rfl rfl) ?_
                                                          refine o_q _ rfl rfl rfl (v_fieldAddr rfl Tryd.underlying62 inf3 rfl rfl rfl rfl) ?_
                                                          refine o_q _ rfl rfl rfl (v_ld1 rfl Tryd.underlying3 rfl rfl rfl) ?_
                                                          refine o_q _ rfl rfl rfl (v_add rfl rfl rfl (by omega)) ?_
                                                          refine o_q _ rfl rfl rfl (v_assign rfl rfl) ?_
                                                          refine o_nil ?_
                                                          with_reducible refine r_in_normal ?_; refine r_then ?_
                                                          refine r_region ?_
                                                          refine o_q _ rfl rfl rfl (v_add rfl rfl rfl (by omega)) ?_
                                                          refine o_q _ rfl rfl rfl (v_move rfl rfl) ?_
                                                          refine o_nil ?_
                                                          with_reducible refine r_then ?_
                                                          exact r_next (k + 1) (by exact r_here (by (repeat (first | exact FSub.nil | refine FSub.cons rfl ?_ | refine FSub.cons2 rfl (i64c (new_y (by omega) (by omega))) ?_ | refine FSub.cons2 rfl (i64c (new_n (by omega))) ?_ | refine FSub.cons2 rfl (i64c (late_y (by omega) (by omega))) ?_ | refine FSub.cons2 rfl (i64c (late_n (by omega))) ?_)); first | done | fail) SelMC.sel SubRC.sub) (by first | omega | (show _ + 1 ≤ _; omega)) (by first | omega | (show _ - (_ + 1) < _ - _; omega))
                                                        ·
                                                          (exfalso; omega)
                                              ·
                                                refine r_skip ?_
                                                with_reducible refine r_in_normal ?_; refine r_then ?_
                                                refine r_region ?_
                                                refine o_q _ rfl rfl rfl (v_add rfl rfl rfl (by omega)) ?_
                                                refine o_q _ rfl rfl rfl (v_move rfl rfl) ?_
                                                refine o_nil ?_
                                                with_reducible refine r_then ?_
                                                exact r_next (k + 1) (by exact r_here (by (repeat (first | exact FSub.nil | refine FSub.cons rfl ?_ | refine FSub.cons2 rfl (i64c (new_y (by omega) (by omega))) ?_ | refine FSub.cons2 rfl (i64c (new_n (by omega))) ?_ | refine FSub.cons2 rfl (i64c (late_y (by omega) (by omega))) ?_ | refine FSub.cons2 rfl (i64c (late_n (by omega))) ?_)); first | done | fail) SelMC.sel SubRC.sub) (by first | omega | (show _ + 1 ≤ _; omega)) (by first | omega | (show _ - (_ + 1) < _ - _; omega))
                                    ·
                                      refine r_exit ?_
                                      with_reducible refine r_then_exit ?_; refine r_then_exit ?_; refine r_in_here ?_; refine r_then ?_
                                      refine r_seq ?_
                                      refine r_seq ?_
                                      obtain rfl : k = D.dues.length := by omega
                                      refine r_region ?_
                                      refine o_q _ rfl rfl rfl (v_fieldAddr rfl Tryd.underlying25 inf23 rfl rfl rfl rfl) ?_
                                      refine o_q _ rfl rfl rfl (v_ld1 rfl Tryd.underlying23 rfl rfl rfl) ?_
                                      refine o_q _ rfl rfl rfl (v_len rfl rfl Tryd.underlying23 rfl) ?_
                                      refine o_q _ rfl rfl rfl (v_move rfl rfl) ?_
                                      refine o_nil ?_
                                      with_reducible refine r_then ?_
                                      refine r_block ?_
                                      refine r_loop (ι := Nat) (fun k => k ≤ D.paid.length) (fun k => [(4, pt b4 0), (9, pt b9 0), (11, i64 (wk : Int)), (12, i64 (dk : Int)), (13, i64 (total (accT D (trA D bys D.dues.length) (trP D bys D.paid.length) (wk : Int) (dk)).1)), (14, i64 (accT D (trA D bys D.dues.length) (trP D bys D.paid.length) (wk : Int) (dk)).2), (19, pt b19 0), (21, pt b21 0), (26, i64 (total (newTo D (amF (trA D bys D.dues.length)) (wk : Int) dk D.dues.length))), (27, i64 (paidTo D (amF (trP D bys D.paid.length)) (wk : Int) dk k)), (28, i64 (lateK D (trA D bys D.dues.length) (trP D bys D.paid.length) (wk : Int) dk D.dues.length)), (204, .slice po D.paid.length pc), (205, i64 D.paid.length), (206, i64 (k : Int))]) (fun k => bx b19 29 [i64 (total (accT D (trA D bys D.dues.length) (trP D bys D.paid.length) (wk : Int) (dk + 1)).1), i64 (total (accT D (trA D bys D.dues.length) (trP D bys D.paid.length) (wk : Int) (dk + 1)).1)] :: bx b21 29 [i64 (accT D (trA D bys D.dues.length) (trP D bys D.paid.length) (wk : Int) (dk + 1)).2, i64 (accT D (trA D bys D.dues.length) (trP D bys D.paid.length) (wk : Int) (dk + 1)).2] :: bx b9 43 [.slice ao (trA D bys D.dues.length).length ac, .slice qo (trP D bys D.paid.length).length qc] :: bx b4 25 (cellsD D uo po uc pc) :: M) (fun k => rowD ao 1 encI (trA D bys D.dues.length) :: rowD qo 1 encI (trP D bys D.paid.length) :: ([rowD uo 5 encD D.dues, rowD po 4 encP D.paid, rowD (some ⟨0, 0, none⟩) 1 encE ([0, 1] : List Nat), rowD ba 1 encH bys] ++ Rf)) (fun k => D.paid.length - k) 0 ?_ ?_ ?_
                                      ·
                                        exact r_here (by (repeat (first | exact FSub.nil | refine FSub.cons rfl ?_)); first | done | fail) SelMC.sel SubRC.sub
                                      ·
                                        omega
                                      ·
                                        rintro k hI1
                                        refine r_seq ?_
                                        refine r_region ?_
                                        refine o_q _ rfl rfl rfl (v_lss rfl rfl rfl) ?_
                                        refine o_nil ?_
                                        with_reducible refine r_then ?_
                                        refine r_seq ?_
                                        refine r_condd rfl (fun hc207 => ?_) (fun hc207 => ?_)
                                        ·
                                          refine r_skip ?_
                                          with_reducible refine r_then ?_
                                          refine r_seq ?_
                                          refine r_block ?_
                                          refine r_seq ?_
                                          refine r_region ?_
                                          refine o_q _ rfl rfl rfl (v_move rfl rfl) ?_
                                          refine o_q _ rfl rfl rfl (v_indexAddrSn rfl Tryd.underlying23 inf54 rfl rfl rfl (by omega) rfl) ?_
                                          refine o_q _ rfl rfl rfl (v_loadEN (us := encP (D.paid.getD k default)) rfl Tryd.underlying54 rfl inf54 rfl (by omega) rfl rfl rfl) ?_
                                          refine o_alloc rfl inf54 rfl rfl rfl rfl rfl (fun b32 => ?_)
                                          refine o_q _ rfl rfl rfl (v_assign rfl rfl) ?_
                                          refine o_st rfl inf54 rfl rfl rfl rfl rfl rfl rfl rfl ?_
                                          refine o_nil ?_
                                          with_reducible refine r_then ?_
                                          refine r_seq ?_
                                          refine Imp.box_to b32 (encP (D.paid.getD k default)) rfl ?_
                                          have hpt := paid_bdT hg htr (wk : Int) dk (n := k) (by omega)
                                          have hpk := htr.bdP hg k (by omega)
                                          refine r_region ?_
                                          refine o_q _ rfl rfl rfl (v_fieldAddr rfl Tryd.underlying54 inf3 rfl rfl rfl rfl) ?_
                                          refine o_q _ rfl rfl rfl (v_ld1 rfl Tryd.underlying3 rfl rfl rfl) ?_
                                          refine o_q _ rfl rfl rfl (v_move rfl rfl) ?_
                                          refine o_test rfl rfl rfl (v_eql rfl rfl rfl) (fun h214 => ?_) (fun h214 => ?_)
                                          all_goals
                                            refine o_q _ rfl rfl rfl (v_move rfl rfl) ?_
                                            first | refine o_gn rfl rfl rfl rfl ?_ | refine o_g _ rfl rfl rfl rfl (v_fieldAddr rfl Tryd.underlying54 inf3 rfl rfl rfl rfl) ?_
                                            first | refine o_gn rfl rfl rfl rfl ?_ | refine o_g _ rfl rfl rfl rfl (v_ld1 rfl Tryd.underlying3 rfl rfl rfl) ?_
                                            first | refine o_gn rfl rfl rfl rfl ?_ | refine o_g _ rfl rfl rfl rfl (v_move rfl rfl) ?_
                                            first | refine o_gn rfl rfl rfl rfl ?_ | refine o_gtest rfl rfl rfl rfl (v_eql rfl rfl rfl) (fun h219 => ?_) (fun h219 => ?_)
                                            all_goals
                                              first | refine o_q _ rfl rfl rfl (v_pick_t rfl rfl rfl) ?_ | refine o_q _ rfl rfl rfl (v_pick_f rfl rfl rfl) ?_
                                              refine o_nil ?_
                                              with_reducible refine r_then ?_
                                              refine r_cond rfl (fun hc220 => ?_) (fun hc220 => ?_)
                                              ·
                                                first
                                                | (exfalso; revert hc220; decide)
                                                | skip
                                                  refine r_region ?_
                                                  refine o_q _ rfl rfl rfl (v_move rfl rfl) ?_
                                                  refine o_q _ rfl rfl rfl (v_fieldAddr rfl Tryd.underlying43 inf41 rfl rfl rfl rfl) ?_
                                                  refine o_q _ rfl rfl rfl (v_ld1 rfl Tryd.underlying41 rfl rfl rfl) ?_
                                                  refine o_q _ rfl rfl rfl (v_move rfl rfl) ?_
                                                  refine o_q _ rfl rfl rfl (v_indexAddrSn rfl Tryd.underlying41 inf3 rfl rfl rfl (by omega) rfl) ?_
                                                  refine o_q _ rfl rfl rfl (v_loadE1 (v := i64 ((trP D bys D.paid.length).getD k default)) rfl Tryd.underlying3 rfl rfl (by omega) rfl rfl) ?_
                                                  refine o_q _ rfl rfl rfl (v_add rfl rfl rfl (by omega)) ?_
                                                  refine o_q _ rfl rfl rfl (v_assign rfl rfl) ?_
                                                  refine o_nil ?_
                                                  with_reducible refine r_in_normal ?_; refine r_then ?_
                                                  refine r_region ?_
                                                  refine o_q _ rfl rfl rfl (v_add rfl rfl rfl (by omega)) ?_
                                                  refine o_q _ rfl rfl rfl (v_move rfl rfl) ?_
                                                  refine o_nil ?_
                                                  with_reducible refine r_then ?_
                                                  exact r_next (k + 1) (by exact r_here (by (repeat (first | exact FSub.nil | refine FSub.cons rfl ?_ | refine FSub.cons2 rfl (i64c (paidTo_y (D := D) (pa := amF (trP D bys D.paid.length)) (who := (wk : Int)) (d := dk) (k := k) (by omega) (by omega)).symm) ?_ | refine FSub.cons2 rfl (i64c (paidTo_n (D := D) (pa := amF (trP D bys D.paid.length)) (who := (wk : Int)) (d := dk) (k := k) (by omega)).symm) ?_)); first | done | fail) SelMC.sel SubRC.sub) (by first | omega | (show _ + 1 ≤ _; omega)) (by first | omega | (show _ - (_ + 1) < _ - _; omega))
                                              ·
                                                first
                                                | (exfalso; revert hc220; decide)
                                                | skip
                                                  refine r_skip ?_
                                                  with_reducible refine r_in_normal ?_; refine r_then ?_
                                                  refine r_region ?_
                                                  refine o_q _ rfl rfl rfl (v_add rfl rfl rfl (by omega)) ?_
                                                  refine o_q _ rfl rfl rfl (v_move rfl rfl) ?_
                                                  refine o_nil ?_
                                                  with_reducible refine r_then ?_
                                                  exact r_next (k + 1) (by exact r_here (by (repeat (first | exact FSub.nil | refine FSub.cons rfl ?_ | refine FSub.cons2 rfl (i64c (paidTo_y (D := D) (pa := amF (trP D bys D.paid.length)) (who := (wk : Int)) (d := dk) (k := k) (by omega) (by omega)).symm) ?_ | refine FSub.cons2 rfl (i64c (paidTo_n (D := D) (pa := amF (trP D bys D.paid.length)) (who := (wk : Int)) (d := dk) (k := k) (by omega)).symm) ?_)); first | done | fail) SelMC.sel SubRC.sub) (by first | omega | (show _ + 1 ≤ _; omega)) (by first | omega | (show _ - (_ + 1) < _ - _; omega))
                                        ·
                                          refine r_exit ?_
                                          with_reducible refine r_then_exit ?_; refine r_then_exit ?_; refine r_in_here ?_; refine r_then ?_
                                          refine r_seq ?_
                                          obtain rfl : k = D.paid.length := by omega
                                          have hk0 : (total (accT D (trA D bys D.dues.length) (trP D bys D.paid.length) (wk : Int) (dk)).1) + (total (newTo D (amF (trA D bys D.dues.length)) (wk : Int) dk D.dues.length)) + (lateK D (trA D bys D.dues.length) (trP D bys D.paid.length) (wk : Int) dk D.dues.length) - (total (accT D (trA D bys D.dues.length) (trP D bys D.paid.length) (wk : Int) (dk + 1)).1) = (accT D (trA D bys D.dues.length) (trP D bys D.paid.length) (wk : Int) (dk)).2 + (paidTo D (amF (trP D bys D.paid.length)) (wk : Int) dk D.paid.length) - (accT D (trA D bys D.dues.length) (trP D bys D.paid.length) (wk : Int) (dk + 1)).2 := kept hg htr (wk : Int) dk hdp
                                          have q1 := totT_bd hg htr (wk : Int) (d := dk) (by omega)
                                          have q2 := totT_bd hg htr (wk : Int) (d := dk + 1) (by omega)
                                          have q3 := accT_fit hg htr (wk : Int) dk
                                          have q4 := accT_fit hg htr (wk : Int) (dk + 1)
                                          have q5 := new_tot_bd hg htr (wk : Int) dk D.dues.length (Nat.le_refl _)
                                          have q6 := late_bd hg htr (wk : Int) dk D.dues.length (Nat.le_refl _)
                                          have q7 := paid_bdT hg htr (wk : Int) dk (n := D.paid.length) (Nat.le_refl _)
                                          refine r_region ?_
                                          refine o_q _ rfl rfl rfl (v_move rfl rfl) ?_
                                          refine o_q _ rfl rfl rfl (v_move rfl rfl) ?_
                                          refine o_q _ rfl rfl rfl (v_add rfl rfl rfl (by omega)) ?_
                                          refine o_q _ rfl rfl rfl (v_move rfl rfl) ?_
                                          refine o_q _ rfl rfl rfl (v_add rfl rfl rfl (by omega)) ?_
                                          refine o_q _ rfl rfl rfl (v_fieldAddr rfl Tryd.underlying29 inf3 rfl rfl rfl rfl) ?_
                                          refine o_q _ rfl rfl rfl (v_ld1 rfl Tryd.underlying3 rfl rfl rfl) ?_
                                          refine o_q _ rfl rfl rfl (v_sub rfl rfl rfl (by omega)) ?_
                                          refine o_q _ rfl rfl rfl (v_move rfl rfl) ?_
                                          refine o_q _ rfl rfl rfl (v_move rfl rfl) ?_
                                          refine o_q _ rfl rfl rfl (v_add rfl rfl rfl (by omega)) ?_
                                          refine o_q _ rfl rfl rfl (v_fieldAddr rfl Tryd.underlying29 inf3 rfl rfl rfl rfl) ?_
                                          refine o_q _ rfl rfl rfl (v_ld1 rfl Tryd.underlying3 rfl rfl rfl) ?_
                                          refine o_q _ rfl rfl rfl (v_sub rfl rfl rfl (by omega)) ?_
                                          refine o_q _ rfl rfl rfl (v_true (v_eql rfl rfl rfl) (by omega)) ?_
                                          all_goals
                                            refine o_q _ rfl rfl rfl (v_move rfl rfl) ?_
                                            refine o_g _ rfl rfl rfl rfl (OpQ.fn awake_v rfl rfl SubRC.sub) ?_
                                            refine o_q _ rfl rfl rfl (v_pick_t rfl rfl rfl) ?_
                                            refine o_q _ rfl rfl rfl (v_assign rfl rfl) ?_
                                            refine o_nil ?_
                                            with_reducible refine r_then ?_
                                            refine r_ret ?_
                                            exact r_retv2 (Rd.tmp rfl rfl) rfl SelMC.sel SubRC.sub
    ·
      refine r_skip ?_
      with_reducible refine r_then ?_
      refine r_seq ?_
      (have hT13 : (0 : Int) = (total (accT D (trA D bys D.dues.length) (trP D bys D.paid.length) (wk : Int) (dk)).1) := by rw [show dk = 0 from by omega]; unfold acc0; rfl)
      (have hA14 : (0 : Int) = (accT D (trA D bys D.dues.length) (trP D bys D.paid.length) (wk : Int) (dk)).2 := by rw [show dk = 0 from by omega]; unfold acc0; rfl)
      refine r_region ?_
      refine o_q _ rfl rfl rfl (v_ldW rfl Tryd.underlying25 rfl inf25 rfl rfl) ?_
      refine o_q _ rfl rfl rfl (v_move rfl rfl) ?_
      refine o_q _ rfl rfl rfl (v_move rfl rfl) ?_
      refine o_q _ rfl rfl rfl (v_cast (v := .tuple #[vS ⟨(total (accT D (trA D bys D.dues.length) (trP D bys D.paid.length) (wk : Int) (dk + 1)).1), (total (accT D (trA D bys D.dues.length) (trP D bys D.paid.length) (wk : Int) (dk + 1)).1)⟩, i64 0]) (OpQ.fn (left14_v (exactD D (trA D bys D.dues.length) (trP D bys D.paid.length)) e0 f0 c0 k0 (wk : Int) (dk : Int) (by rw [(exact_lens D _ _).1]; exact hl1) (by rw [(exact_lens D _ _).2.1]; exact hl2)) rfl rfl SubRC.sub) (kL hg htr hwp (by omega))) ?_
      refine o_q _ rfl rfl rfl (v_move rfl rfl) ?_
      refine o_q _ rfl rfl rfl (v_extract rfl rfl rfl) ?_
      refine o_q _ rfl rfl rfl (v_extract rfl rfl rfl) ?_
      refine o_alloc rfl inf29 rfl rfl rfl rfl rfl (fun b19 => ?_)
      refine o_st rfl inf29 rfl rfl rfl rfl rfl rfl rfl rfl ?_
      refine o_q _ rfl rfl rfl (v_assign rfl rfl) ?_
      refine o_nil ?_
      with_reducible refine r_then ?_
      refine r_seq ?_
      refine r_region ?_
      refine o_q _ rfl rfl rfl (v_ldW rfl Tryd.underlying25 rfl inf25 rfl rfl) ?_
      refine o_q _ rfl rfl rfl (v_move rfl rfl) ?_
      refine o_q _ rfl rfl rfl (v_move rfl rfl) ?_
      refine o_q _ rfl rfl rfl (v_cast (v := .tuple #[vS ⟨(accT D (trA D bys D.dues.length) (trP D bys D.paid.length) (wk : Int) (dk + 1)).2, (accT D (trA D bys D.dues.length) (trP D bys D.paid.length) (wk : Int) (dk + 1)).2⟩, i64 0]) (OpQ.fn (ahead16_v (exactD D (trA D bys D.dues.length) (trP D bys D.paid.length)) e0 f0 c0 k0 (wk : Int) (dk : Int) (by rw [(exact_lens D _ _).1]; exact hl1) (by rw [(exact_lens D _ _).2.1]; exact hl2)) rfl rfl SubRC.sub) (kA hg htr hwp (by omega))) ?_
      refine o_q _ rfl rfl rfl (v_move rfl rfl) ?_
      refine o_q _ rfl rfl rfl (v_extract rfl rfl rfl) ?_
      refine o_q _ rfl rfl rfl (v_extract rfl rfl rfl) ?_
      refine o_alloc rfl inf29 rfl rfl rfl rfl rfl (fun b21 => ?_)
      refine o_st rfl inf29 rfl rfl rfl rfl rfl rfl rfl rfl ?_
      refine o_q _ rfl rfl rfl (v_assign rfl rfl) ?_
      refine o_nil ?_
      with_reducible refine r_then ?_
      refine r_seq ?_
      refine r_region ?_
      refine o_q _ rfl rfl rfl (v_ldW rfl Tryd.underlying25 rfl inf25 rfl rfl) ?_
      refine o_q _ rfl rfl rfl (v_move rfl rfl) ?_
      refine o_q _ rfl rfl rfl (v_move rfl rfl) ?_
      refine o_q _ rfl rfl rfl (v_cast (v := .tuple #[i64 ((bitX D (trA D bys D.dues.length) (trP D bys D.paid.length) (wk : Int) dk) : Nat), i64 ((bitX D (trA D bys D.dues.length) (trP D bys D.paid.length) (wk : Int) dk) : Nat), i64 0]) (OpQ.fn (open20_v (exactD D (trA D bys D.dues.length) (trP D bys D.paid.length)) e0 f0 c0 k0 (wk : Int) (dk : Int) (by rw [(exact_lens D _ _).1]; exact hl1) (by rw [(exact_lens D _ _).2.1]; exact hl2)) rfl rfl SubRC.sub) (kO hg htr hwp hdp)) ?_
      refine o_q _ rfl rfl rfl (v_move rfl rfl) ?_
      refine o_q _ rfl rfl rfl (v_extract rfl rfl rfl) ?_
      refine o_q _ rfl rfl rfl (v_extract rfl rfl rfl) ?_
      refine o_q _ rfl rfl rfl (v_extract rfl rfl rfl) ?_
      refine o_q _ rfl rfl rfl (v_assign rfl rfl) ?_
      refine o_q _ rfl rfl rfl (v_assign rfl rfl) ?_
      refine o_q _ rfl rfl rfl (v_assign rfl rfl) ?_
      refine o_nil ?_
      with_reducible refine r_then ?_
      refine r_seq ?_
      refine r_seq ?_
      refine Imp.box_to b19 [i64 (total (accT D (trA D bys D.dues.length) (trP D bys D.paid.length) (wk : Int) (dk + 1)).1), i64 (total (accT D (trA D bys D.dues.length) (trP D bys D.paid.length) (wk : Int) (dk + 1)).1)] rfl ?_
      refine Imp.box_to b21 [i64 (accT D (trA D bys D.dues.length) (trP D bys D.paid.length) (wk : Int) (dk + 1)).2, i64 (accT D (trA D bys D.dues.length) (trP D bys D.paid.length) (wk : Int) (dk + 1)).2] rfl ?_
      have hone : (total (accT D (trA D bys D.dues.length) (trP D bys D.paid.length) (wk : Int) (dk + 1)).1) = 0 ∨ (accT D (trA D bys D.dues.length) (trP D bys D.paid.length) (wk : Int) (dk + 1)).2 = 0 := acc_one hg (fun i hi => by have := htr.bdA hg i hi; omega) (fun i hi => by have := htr.bdP hg i hi; omega) (wk : Int) dk
      refine r_region ?_
      refine o_q _ rfl rfl rfl (v_move rfl rfl) ?_
      refine o_q _ rfl rfl rfl (v_false (v_neq rfl rfl rfl) (by omega)) ?_
      all_goals
        refine o_q _ rfl rfl rfl (v_move rfl rfl) ?_
        refine o_g _ rfl rfl rfl rfl (v_move rfl rfl) ?_
        refine o_g _ rfl rfl rfl rfl (v_false (v_neq rfl rfl rfl) (by omega)) ?_
        all_goals
          refine o_q _ rfl rfl rfl (v_pick_f rfl rfl rfl) ?_
          refine o_q _ rfl rfl rfl (v_move rfl rfl) ?_
          refine o_g _ rfl rfl rfl rfl (v_move rfl rfl) ?_
          refine o_g _ rfl rfl rfl rfl (v_false (v_neq rfl rfl rfl) (by omega)) ?_
          all_goals
            refine o_q _ rfl rfl rfl (v_pick_f rfl rfl rfl) ?_
            refine o_q _ rfl rfl rfl (v_move rfl rfl) ?_
            refine o_g _ rfl rfl rfl rfl (v_fieldAddr rfl Tryd.underlying29 inf3 rfl rfl rfl rfl) ?_
            refine o_g _ rfl rfl rfl rfl (v_ld1 rfl Tryd.underlying3 rfl rfl rfl) ?_
            refine o_g _ rfl rfl rfl rfl (v_fieldAddr rfl Tryd.underlying29 inf3 rfl rfl rfl rfl) ?_
            refine o_g _ rfl rfl rfl rfl (v_ld1 rfl Tryd.underlying3 rfl rfl rfl) ?_
            refine o_g _ rfl rfl rfl rfl (v_false (v_neq rfl rfl rfl) (by omega)) ?_
            all_goals
              refine o_q _ rfl rfl rfl (v_pick_f rfl rfl rfl) ?_
              refine o_q _ rfl rfl rfl (v_move rfl rfl) ?_
              refine o_g _ rfl rfl rfl rfl (v_fieldAddr rfl Tryd.underlying29 inf3 rfl rfl rfl rfl) ?_
              refine o_g _ rfl rfl rfl rfl (v_ld1 rfl Tryd.underlying3 rfl rfl rfl) ?_
              refine o_g _ rfl rfl rfl rfl (v_fieldAddr rfl Tryd.underlying29 inf3 rfl rfl rfl rfl) ?_
              refine o_g _ rfl rfl rfl rfl (v_ld1 rfl Tryd.underlying3 rfl rfl rfl) ?_
              refine o_g _ rfl rfl rfl rfl (v_false (v_neq rfl rfl rfl) (by omega)) ?_
              all_goals
                refine o_q _ rfl rfl rfl (v_pick_f rfl rfl rfl) ?_
                refine o_q _ rfl rfl rfl (v_move rfl rfl) ?_
                refine o_g _ rfl rfl rfl rfl (v_move rfl rfl) ?_
                refine o_g _ rfl rfl rfl rfl (v_move rfl rfl) ?_
                refine o_g _ rfl rfl rfl rfl (v_false (v_neq rfl rfl rfl) (by omega)) ?_
                all_goals
                  refine o_q _ rfl rfl rfl (v_pick_f rfl rfl rfl) ?_
                  refine o_q _ rfl rfl rfl (v_move rfl rfl) ?_
                  refine o_g _ rfl rfl rfl rfl (v_fieldAddr rfl Tryd.underlying29 inf3 rfl rfl rfl rfl) ?_
                  refine o_g _ rfl rfl rfl rfl (v_ld1 rfl Tryd.underlying3 rfl rfl rfl) ?_
                  refine o_gtest rfl rfl rfl rfl (v_gtr rfl rfl rfl) (fun h147 => ?_) (fun h147 => ?_)
                  all_goals
                    refine o_g _ rfl rfl rfl rfl (v_move rfl rfl) ?_
                    first | refine o_gn rfl rfl rfl rfl ?_ | refine o_g _ rfl rfl rfl rfl (v_fieldAddr rfl Tryd.underlying29 inf3 rfl rfl rfl rfl) ?_
                    first | refine o_gn rfl rfl rfl rfl ?_ | refine o_g _ rfl rfl rfl rfl (v_ld1 rfl Tryd.underlying3 rfl rfl rfl) ?_
                    first | refine o_gn rfl rfl rfl rfl ?_ | refine o_g _ rfl rfl rfl rfl (v_false (v_gtr rfl rfl rfl) (by omega)) ?_
                    all_goals
                      first | refine o_g _ rfl rfl rfl rfl (v_pick_t rfl rfl rfl) ?_ | refine o_g _ rfl rfl rfl rfl (v_pick_f rfl rfl rfl) ?_
                      refine o_q _ rfl rfl rfl (v_pick_f rfl rfl rfl) ?_
                      refine o_nil ?_
                      with_reducible refine r_then ?_
                      refine r_cond rfl (fun hc153 => ?_) (fun hc153 => ?_)
                      ·
                        (exfalso; revert hc153; decide)
                      ·
                        refine r_skip ?_
                        with_reducible refine r_then ?_
                        refine r_seq ?_
                        refine r_region ?_
                        refine o_q _ rfl rfl rfl (v_assign rfl rfl) ?_
                        refine o_q _ rfl rfl rfl (v_assign rfl rfl) ?_
                        refine o_q _ rfl rfl rfl (v_assign rfl rfl) ?_
                        refine o_nil ?_
                        with_reducible refine r_then ?_
                        refine r_seq ?_
                        refine r_seq ?_
                        refine r_region ?_
                        refine o_q _ rfl rfl rfl (v_fieldAddr rfl Tryd.underlying25 inf22 rfl rfl rfl rfl) ?_
                        refine o_q _ rfl rfl rfl (v_ld1 rfl Tryd.underlying22 rfl rfl rfl) ?_
                        refine o_q _ rfl rfl rfl (v_len rfl rfl Tryd.underlying22 rfl) ?_
                        refine o_q _ rfl rfl rfl (v_move rfl rfl) ?_
                        refine o_nil ?_
                        with_reducible refine r_then ?_
                        refine r_block ?_
                        refine r_loop (ι := Nat) (fun k => k ≤ D.dues.length) (fun k => [(4, pt b4 0), (9, pt b9 0), (11, i64 (wk : Int)), (12, i64 (dk : Int)), (13, i64 (total (accT D (trA D bys D.dues.length) (trP D bys D.paid.length) (wk : Int) (dk)).1)), (14, i64 (accT D (trA D bys D.dues.length) (trP D bys D.paid.length) (wk : Int) (dk)).2), (19, pt b19 0), (21, pt b21 0), (23, i64 ((bitX D (trA D bys D.dues.length) (trP D bys D.paid.length) (wk : Int) dk) : Nat)), (26, i64 (total (newTo D (amF (trA D bys D.dues.length)) (wk : Int) dk k))), (27, i64 0), (28, i64 (lateK D (trA D bys D.dues.length) (trP D bys D.paid.length) (wk : Int) dk k)), (155, .slice uo D.dues.length uc), (156, i64 D.dues.length), (157, i64 (k : Int))]) (fun k => bx b19 29 [i64 (total (accT D (trA D bys D.dues.length) (trP D bys D.paid.length) (wk : Int) (dk + 1)).1), i64 (total (accT D (trA D bys D.dues.length) (trP D bys D.paid.length) (wk : Int) (dk + 1)).1)] :: bx b21 29 [i64 (accT D (trA D bys D.dues.length) (trP D bys D.paid.length) (wk : Int) (dk + 1)).2, i64 (accT D (trA D bys D.dues.length) (trP D bys D.paid.length) (wk : Int) (dk + 1)).2] :: bx b9 43 [.slice ao (trA D bys D.dues.length).length ac, .slice qo (trP D bys D.paid.length).length qc] :: bx b4 25 (cellsD D uo po uc pc) :: M) (fun k => rowD ao 1 encI (trA D bys D.dues.length) :: rowD qo 1 encI (trP D bys D.paid.length) :: ([rowD uo 5 encD D.dues, rowD po 4 encP D.paid, rowD (some ⟨0, 0, none⟩) 1 encE ([0, 1] : List Nat), rowD ba 1 encH bys] ++ Rf)) (fun k => D.dues.length - k) 0 ?_ ?_ ?_
                        ·
                          exact r_here (by (repeat (first | exact FSub.nil | refine FSub.cons rfl ?_ | refine FSub.cons2 rfl (i64c hT13) ?_ | refine FSub.cons2 rfl (i64c hA14) ?_ | refine FSub.cons2 rfl (i64c (show (0 : Int) = lateK _ _ _ _ _ 0 from by unfold lateK; rfl)) ?_)); first | done | fail) SelMC.sel SubRC.sub
                        ·
                          omega
                        ·
                          rintro k hI0
                          refine r_seq ?_
                          refine r_region ?_
                          refine o_q _ rfl rfl rfl (v_lss rfl rfl rfl) ?_
                          refine o_nil ?_
                          with_reducible refine r_then ?_
                          refine r_seq ?_
                          refine r_condd rfl (fun hc158 => ?_) (fun hc158 => ?_)
                          ·
                            refine r_skip ?_
                            with_reducible refine r_then ?_
                            refine r_seq ?_
                            refine r_block ?_
                            refine r_seq ?_
                            refine r_region ?_
                            refine o_q _ rfl rfl rfl (v_move rfl rfl) ?_
                            refine o_q _ rfl rfl rfl (v_indexAddrSn rfl Tryd.underlying22 inf62 rfl rfl rfl (by omega) rfl) ?_
                            refine o_q _ rfl rfl rfl (v_loadEN (us := encD (D.dues.getD k default)) rfl Tryd.underlying62 rfl inf62 rfl (by omega) rfl rfl rfl) ?_
                            refine o_alloc rfl inf62 rfl rfl rfl rfl rfl (fun b30 => ?_)
                            refine o_q _ rfl rfl rfl (v_assign rfl rfl) ?_
                            refine o_st rfl inf62 rfl rfl rfl rfl rfl rfl rfl rfl ?_
                            refine o_nil ?_
                            with_reducible refine r_then ?_
                            refine r_seq ?_
                            refine r_seq ?_
                            refine Imp.box_to b30 (encD (D.dues.getD k default)) rfl ?_
                            have hnw := new_tot_bd hg htr (wk : Int) dk k (by omega)
                            have hlt := late_bd hg htr (wk : Int) dk k (by omega)
                            have hak := htr.bdA hg k (by omega)
                            obtain ⟨_, _, _, hlate⟩ := hg.dues k (by omega)
                            refine r_region ?_
                            refine o_q _ rfl rfl rfl (v_fieldAddr rfl Tryd.underlying62 inf3 rfl rfl rfl rfl) ?_
                            refine o_q _ rfl rfl rfl (v_ld1 rfl Tryd.underlying3 rfl rfl rfl) ?_
                            refine o_q _ rfl rfl rfl (v_move rfl rfl) ?_
                            refine o_test rfl rfl rfl (v_eql rfl rfl rfl) (fun h165 => ?_) (fun h165 => ?_)
                            all_goals
                              refine o_q _ rfl rfl rfl (v_move rfl rfl) ?_
                              first | refine o_gn rfl rfl rfl rfl ?_ | refine o_g _ rfl rfl rfl rfl (v_fieldAddr rfl Tryd.underlying62 inf3 rfl rfl rfl rfl) ?_
                              first | refine o_gn rfl rfl rfl rfl ?_ | refine o_g _ rfl rfl rfl rfl (v_ld1 rfl Tryd.underlying3 rfl rfl rfl) ?_
                              first | refine o_gn rfl rfl rfl rfl ?_ | refine o_g _ rfl rfl rfl rfl (v_move rfl rfl) ?_
                              first | refine o_gn rfl rfl rfl rfl ?_ | refine o_gtest rfl rfl rfl rfl (v_eql rfl rfl rfl) (fun h170 => ?_) (fun h170 => ?_)
                              all_goals
                                first | refine o_q _ rfl rfl rfl (v_pick_t rfl rfl rfl) ?_ | refine o_q _ rfl rfl rfl (v_pick_f rfl rfl rfl) ?_
                                refine o_nil ?_
                                with_reducible refine r_then ?_
                                refine r_cond rfl (fun hc171 => ?_) (fun hc171 => ?_)
                                ·
                                  first
                                  | (exfalso; revert hc171; decide)
                                  | skip
                                    refine r_region ?_
                                    refine o_q _ rfl rfl rfl (v_move rfl rfl) ?_
                                    refine o_q _ rfl rfl rfl (v_fieldAddr rfl Tryd.underlying43 inf41 rfl rfl rfl rfl) ?_
                                    refine o_q _ rfl rfl rfl (v_ld1 rfl Tryd.underlying41 rfl rfl rfl) ?_
                                    refine o_q _ rfl rfl rfl (v_move rfl rfl) ?_
                                    refine o_q _ rfl rfl rfl (v_indexAddrSn rfl Tryd.underlying41 inf3 rfl rfl rfl (by omega) rfl) ?_
                                    refine o_q _ rfl rfl rfl (v_loadE1 (v := i64 ((trA D bys D.dues.length).getD k default)) rfl Tryd.underlying3 rfl rfl (by omega) rfl rfl) ?_
                                    refine o_q _ rfl rfl rfl (v_add rfl rfl rfl (by omega)) ?_
                                    refine o_q _ rfl rfl rfl (v_assign rfl rfl) ?_
                                    refine o_nil ?_
                                    with_reducible refine r_then ?_
                                    refine r_seq ?_
                                    refine r_region ?_
                                    refine o_q _ rfl rfl rfl (v_move rfl rfl) ?_
                                    refine o_q _ rfl rfl rfl (v_move rfl rfl) ?_
                                    refine o_q _ rfl rfl rfl (v_shrI (a := (bitX D (trA D bys D.dues.length) (trP D bys D.paid.length) (wk : Int) dk)) (h := k) rfl rfl rfl (bit_lt hg htr _ hdp) (by omega)) ?_
                                    refine o_q _ rfl rfl rfl (v_andn (a := (bitX D (trA D bys D.dues.length) (trP D bys D.paid.length) (wk : Int) dk) >>> k) (b := 1) rfl rfl rfl (Nat.lt_of_le_of_lt (Nat.shiftRight_le _ _) (bit_lt hg htr _ hdp)) (by decide)) ?_
                                    refine o_q _ rfl rfl rfl (v_eql rfl rfl rfl) ?_
                                    refine o_nil ?_
                                    with_reducible refine r_then ?_
                                    refine r_condd rfl (fun hc183 => ?_) (fun hc183 => ?_)
                                    ·
                                      refine r_seq ?_
                                      refine r_seq ?_
                                      have hoe := open_ent hg htr (wk : Int) dk ((shr_bit _ _).1 hc183)
                                      refine r_region ?_
                                      refine o_q _ rfl rfl rfl (v_fieldAddr rfl Tryd.underlying62 inf3 rfl rfl rfl rfl) ?_
                                      refine o_q _ rfl rfl rfl (v_ld1 rfl Tryd.underlying3 rfl rfl rfl) ?_
                                      refine o_q _ rfl rfl rfl (v_move rfl rfl) ?_
                                      refine o_q _ rfl rfl rfl (v_false (v_neq rfl rfl rfl) (by omega)) ?_
                                      all_goals
                                        refine o_q _ rfl rfl rfl (v_move rfl rfl) ?_
                                        refine o_g _ rfl rfl rfl rfl (v_fieldAddr rfl Tryd.underlying62 inf3 rfl rfl rfl rfl) ?_
                                        refine o_g _ rfl rfl rfl rfl (v_ld1 rfl Tryd.underlying3 rfl rfl rfl) ?_
                                        refine o_g _ rfl rfl rfl rfl (v_move rfl rfl) ?_
                                        refine o_g _ rfl rfl rfl rfl (v_false (v_gtr rfl rfl rfl) (by omega)) ?_
                                        all_goals
                                          refine o_q _ rfl rfl rfl (v_pick_f rfl rfl rfl) ?_
                                          refine o_nil ?_
                                          with_reducible refine r_then ?_
                                          refine r_cond rfl (fun hc193 => ?_) (fun hc193 => ?_)
                                          ·
                                            (exfalso; revert hc193; decide)
                                          ·
                                            refine r_skip ?_
                                            with_reducible refine r_then ?_
                                            refine r_seq ?_
                                            refine r_region ?_
                                            refine o_q _ rfl rfl rfl (v_fieldAddr rfl Tryd.underlying62 inf3 rfl rfl rfl rfl) ?_
                                            refine o_q _ rfl rfl rfl (v_ld1 rfl Tryd.underlying3 rfl rfl rfl) ?_
                                            refine o_q _ rfl rfl rfl (v_move rfl rfl) ?_
                                            refine o_q _ rfl rfl rfl (v_lss rfl rfl rfl) ?_
                                            refine o_nil ?_
                                            with_reducible refine r_then ?_
                                            refine r_condd rfl (fun hc197 => ?_) (fun hc197 => ?_)
                                            ·
                                              (exfalso; omega)
                                            ·
                                              refine r_skip ?_
                                              with_reducible refine r_in_normal ?_; refine r_then ?_
                                              refine r_region ?_
                                              refine o_q _ rfl rfl rfl (v_add rfl rfl rfl (by omega)) ?_
                                              refine o_q _ rfl rfl rfl (v_move rfl rfl) ?_
                                              refine o_nil ?_
                                              with_reducible refine r_then ?_
                                              exact r_next (k + 1) (by exact r_here (by (repeat (first | exact FSub.nil | refine FSub.cons rfl ?_ | refine FSub.cons2 rfl (i64c (new_y (by omega) (by omega))) ?_ | refine FSub.cons2 rfl (i64c (new_n (by omega))) ?_ | refine FSub.cons2 rfl (i64c (late_y (by omega) (by omega))) ?_ | refine FSub.cons2 rfl (i64c (late_n (by omega))) ?_)); first | done | fail) SelMC.sel SubRC.sub) (by first | omega | (show _ + 1 ≤ _; omega)) (by first | omega | (show _ - (_ + 1) < _ - _; omega))
                                    ·
                                      refine r_skip ?_
                                      with_reducible refine r_in_normal ?_; refine r_then ?_
                                      refine r_region ?_
                                      refine o_q _ rfl rfl rfl (v_add rfl rfl rfl (by omega)) ?_
                                      refine o_q _ rfl rfl rfl (v_move rfl rfl) ?_
                                      refine o_nil ?_
                                      with_reducible refine r_then ?_
                                      exact r_next (k + 1) (by exact r_here (by (repeat (first | exact FSub.nil | refine FSub.cons rfl ?_ | refine FSub.cons2 rfl (i64c (new_y (by omega) (by omega))) ?_ | refine FSub.cons2 rfl (i64c (new_n (by omega))) ?_ | refine FSub.cons2 rfl (i64c (late_y (by omega) (by omega))) ?_ | refine FSub.cons2 rfl (i64c (late_n (by omega))) ?_)); first | done | fail) SelMC.sel SubRC.sub) (by first | omega | (show _ + 1 ≤ _; omega)) (by first | omega | (show _ - (_ + 1) < _ - _; omega))
                                ·
                                  first
                                  | (exfalso; revert hc171; decide)
                                  | skip
                                    refine r_skip ?_
                                    with_reducible refine r_then ?_
                                    refine r_seq ?_
                                    refine r_region ?_
                                    refine o_q _ rfl rfl rfl (v_move rfl rfl) ?_
                                    refine o_q _ rfl rfl rfl (v_move rfl rfl) ?_
                                    refine o_q _ rfl rfl rfl (v_shrI (a := (bitX D (trA D bys D.dues.length) (trP D bys D.paid.length) (wk : Int) dk)) (h := k) rfl rfl rfl (bit_lt hg htr _ hdp) (by omega)) ?_
                                    refine o_q _ rfl rfl rfl (v_andn (a := (bitX D (trA D bys D.dues.length) (trP D bys D.paid.length) (wk : Int) dk) >>> k) (b := 1) rfl rfl rfl (Nat.lt_of_le_of_lt (Nat.shiftRight_le _ _) (bit_lt hg htr _ hdp)) (by decide)) ?_
                                    refine o_q _ rfl rfl rfl (v_eql rfl rfl rfl) ?_
                                    refine o_nil ?_
                                    with_reducible refine r_then ?_
                                    refine r_condd rfl (fun hc183 => ?_) (fun hc183 => ?_)
                                    ·
                                      refine r_seq ?_
                                      refine r_seq ?_
                                      have hoe := open_ent hg htr (wk : Int) dk ((shr_bit _ _).1 hc183)
                                      refine r_region ?_
                                      refine o_q _ rfl rfl rfl (v_fieldAddr rfl Tryd.underlying62 inf3 rfl rfl rfl rfl) ?_
                                      refine o_q _ rfl rfl rfl (v_ld1 rfl Tryd.underlying3 rfl rfl rfl) ?_
                                      refine o_q _ rfl rfl rfl (v_move rfl rfl) ?_
                                      refine o_q _ rfl rfl rfl (v_true (v_neq rfl rfl rfl) (by omega)) ?_
                                      all_goals
                                        refine o_q _ rfl rfl rfl (v_move rfl rfl) ?_
                                        refine o_gn rfl rfl rfl rfl ?_
                                        refine o_gn rfl rfl rfl rfl ?_
                                        refine o_gn rfl rfl rfl rfl ?_
                                        refine o_gn rfl rfl rfl rfl ?_
                                        all_goals
                                          refine o_q _ rfl rfl rfl (v_pick_t rfl rfl rfl) ?_
                                          refine o_nil ?_
                                          with_reducible refine r_then ?_
                                          refine r_cond rfl (fun hc193 => ?_) (fun hc193 => ?_)
                                          ·
                                            (exfalso; omega)
                                          ·
                                            (exfalso; revert hc193; decide)
                                    ·
                                      refine r_skip ?_
                                      with_reducible refine r_in_normal ?_; refine r_then ?_
                                      refine r_region ?_
                                      refine o_q _ rfl rfl rfl (v_add rfl rfl rfl (by omega)) ?_
                                      refine o_q _ rfl rfl rfl (v_move rfl rfl) ?_
                                      refine o_nil ?_
                                      with_reducible refine r_then ?_
                                      exact r_next (k + 1) (by exact r_here (by (repeat (first | exact FSub.nil | refine FSub.cons rfl ?_ | refine FSub.cons2 rfl (i64c (new_y (by omega) (by omega))) ?_ | refine FSub.cons2 rfl (i64c (new_n (by omega))) ?_ | refine FSub.cons2 rfl (i64c (late_y (by omega) (by omega))) ?_ | refine FSub.cons2 rfl (i64c (late_n (by omega))) ?_)); first | done | fail) SelMC.sel SubRC.sub) (by first | omega | (show _ + 1 ≤ _; omega)) (by first | omega | (show _ - (_ + 1) < _ - _; omega))
                          ·
                            refine r_exit ?_
                            with_reducible refine r_then_exit ?_; refine r_then_exit ?_; refine r_in_here ?_; refine r_then ?_
                            refine r_seq ?_
                            refine r_seq ?_
                            obtain rfl : k = D.dues.length := by omega
                            refine r_region ?_
                            refine o_q _ rfl rfl rfl (v_fieldAddr rfl Tryd.underlying25 inf23 rfl rfl rfl rfl) ?_
                            refine o_q _ rfl rfl rfl (v_ld1 rfl Tryd.underlying23 rfl rfl rfl) ?_
                            refine o_q _ rfl rfl rfl (v_len rfl rfl Tryd.underlying23 rfl) ?_
                            refine o_q _ rfl rfl rfl (v_move rfl rfl) ?_
                            refine o_nil ?_
                            with_reducible refine r_then ?_
                            refine r_block ?_
                            refine r_loop (ι := Nat) (fun k => k ≤ D.paid.length) (fun k => [(4, pt b4 0), (9, pt b9 0), (11, i64 (wk : Int)), (12, i64 (dk : Int)), (13, i64 (total (accT D (trA D bys D.dues.length) (trP D bys D.paid.length) (wk : Int) (dk)).1)), (14, i64 (accT D (trA D bys D.dues.length) (trP D bys D.paid.length) (wk : Int) (dk)).2), (19, pt b19 0), (21, pt b21 0), (26, i64 (total (newTo D (amF (trA D bys D.dues.length)) (wk : Int) dk D.dues.length))), (27, i64 (paidTo D (amF (trP D bys D.paid.length)) (wk : Int) dk k)), (28, i64 (lateK D (trA D bys D.dues.length) (trP D bys D.paid.length) (wk : Int) dk D.dues.length)), (204, .slice po D.paid.length pc), (205, i64 D.paid.length), (206, i64 (k : Int))]) (fun k => bx b19 29 [i64 (total (accT D (trA D bys D.dues.length) (trP D bys D.paid.length) (wk : Int) (dk + 1)).1), i64 (total (accT D (trA D bys D.dues.length) (trP D bys D.paid.length) (wk : Int) (dk + 1)).1)] :: bx b21 29 [i64 (accT D (trA D bys D.dues.length) (trP D bys D.paid.length) (wk : Int) (dk + 1)).2, i64 (accT D (trA D bys D.dues.length) (trP D bys D.paid.length) (wk : Int) (dk + 1)).2] :: bx b9 43 [.slice ao (trA D bys D.dues.length).length ac, .slice qo (trP D bys D.paid.length).length qc] :: bx b4 25 (cellsD D uo po uc pc) :: M) (fun k => rowD ao 1 encI (trA D bys D.dues.length) :: rowD qo 1 encI (trP D bys D.paid.length) :: ([rowD uo 5 encD D.dues, rowD po 4 encP D.paid, rowD (some ⟨0, 0, none⟩) 1 encE ([0, 1] : List Nat), rowD ba 1 encH bys] ++ Rf)) (fun k => D.paid.length - k) 0 ?_ ?_ ?_
                            ·
                              exact r_here (by (repeat (first | exact FSub.nil | refine FSub.cons rfl ?_)); first | done | fail) SelMC.sel SubRC.sub
                            ·
                              omega
                            ·
                              rintro k hI1
                              refine r_seq ?_
                              refine r_region ?_
                              refine o_q _ rfl rfl rfl (v_lss rfl rfl rfl) ?_
                              refine o_nil ?_
                              with_reducible refine r_then ?_
                              refine r_seq ?_
                              refine r_condd rfl (fun hc207 => ?_) (fun hc207 => ?_)
                              ·
                                refine r_skip ?_
                                with_reducible refine r_then ?_
                                refine r_seq ?_
                                refine r_block ?_
                                refine r_seq ?_
                                refine r_region ?_
                                refine o_q _ rfl rfl rfl (v_move rfl rfl) ?_
                                refine o_q _ rfl rfl rfl (v_indexAddrSn rfl Tryd.underlying23 inf54 rfl rfl rfl (by omega) rfl) ?_
                                refine o_q _ rfl rfl rfl (v_loadEN (us := encP (D.paid.getD k default)) rfl Tryd.underlying54 rfl inf54 rfl (by omega) rfl rfl rfl) ?_
                                refine o_alloc rfl inf54 rfl rfl rfl rfl rfl (fun b32 => ?_)
                                refine o_q _ rfl rfl rfl (v_assign rfl rfl) ?_
                                refine o_st rfl inf54 rfl rfl rfl rfl rfl rfl rfl rfl ?_
                                refine o_nil ?_
                                with_reducible refine r_then ?_
                                refine r_seq ?_
                                refine Imp.box_to b32 (encP (D.paid.getD k default)) rfl ?_
                                have hpt := paid_bdT hg htr (wk : Int) dk (n := k) (by omega)
                                have hpk := htr.bdP hg k (by omega)
                                refine r_region ?_
                                refine o_q _ rfl rfl rfl (v_fieldAddr rfl Tryd.underlying54 inf3 rfl rfl rfl rfl) ?_
                                refine o_q _ rfl rfl rfl (v_ld1 rfl Tryd.underlying3 rfl rfl rfl) ?_
                                refine o_q _ rfl rfl rfl (v_move rfl rfl) ?_
                                refine o_test rfl rfl rfl (v_eql rfl rfl rfl) (fun h214 => ?_) (fun h214 => ?_)
                                all_goals
                                  refine o_q _ rfl rfl rfl (v_move rfl rfl) ?_
                                  first | refine o_gn rfl rfl rfl rfl ?_ | refine o_g _ rfl rfl rfl rfl (v_fieldAddr rfl Tryd.underlying54 inf3 rfl rfl rfl rfl) ?_
                                  first | refine o_gn rfl rfl rfl rfl ?_ | refine o_g _ rfl rfl rfl rfl (v_ld1 rfl Tryd.underlying3 rfl rfl rfl) ?_
                                  first | refine o_gn rfl rfl rfl rfl ?_ | refine o_g _ rfl rfl rfl rfl (v_move rfl rfl) ?_
                                  first | refine o_gn rfl rfl rfl rfl ?_ | refine o_gtest rfl rfl rfl rfl (v_eql rfl rfl rfl) (fun h219 => ?_) (fun h219 => ?_)
                                  all_goals
                                    first | refine o_q _ rfl rfl rfl (v_pick_t rfl rfl rfl) ?_ | refine o_q _ rfl rfl rfl (v_pick_f rfl rfl rfl) ?_
                                    refine o_nil ?_
                                    with_reducible refine r_then ?_
                                    refine r_cond rfl (fun hc220 => ?_) (fun hc220 => ?_)
                                    ·
                                      first
                                      | (exfalso; revert hc220; decide)
                                      | skip
                                        refine r_region ?_
                                        refine o_q _ rfl rfl rfl (v_move rfl rfl) ?_
                                        refine o_q _ rfl rfl rfl (v_fieldAddr rfl Tryd.underlying43 inf41 rfl rfl rfl rfl) ?_
                                        refine o_q _ rfl rfl rfl (v_ld1 rfl Tryd.underlying41 rfl rfl rfl) ?_
                                        refine o_q _ rfl rfl rfl (v_move rfl rfl) ?_
                                        refine o_q _ rfl rfl rfl (v_indexAddrSn rfl Tryd.underlying41 inf3 rfl rfl rfl (by omega) rfl) ?_
                                        refine o_q _ rfl rfl rfl (v_loadE1 (v := i64 ((trP D bys D.paid.length).getD k default)) rfl Tryd.underlying3 rfl rfl (by omega) rfl rfl) ?_
                                        refine o_q _ rfl rfl rfl (v_add rfl rfl rfl (by omega)) ?_
                                        refine o_q _ rfl rfl rfl (v_assign rfl rfl) ?_
                                        refine o_nil ?_
                                        with_reducible refine r_in_normal ?_; refine r_then ?_
                                        refine r_region ?_
                                        refine o_q _ rfl rfl rfl (v_add rfl rfl rfl (by omega)) ?_
                                        refine o_q _ rfl rfl rfl (v_move rfl rfl) ?_
                                        refine o_nil ?_
                                        with_reducible refine r_then ?_
                                        exact r_next (k + 1) (by exact r_here (by (repeat (first | exact FSub.nil | refine FSub.cons rfl ?_ | refine FSub.cons2 rfl (i64c (paidTo_y (D := D) (pa := amF (trP D bys D.paid.length)) (who := (wk : Int)) (d := dk) (k := k) (by omega) (by omega)).symm) ?_ | refine FSub.cons2 rfl (i64c (paidTo_n (D := D) (pa := amF (trP D bys D.paid.length)) (who := (wk : Int)) (d := dk) (k := k) (by omega)).symm) ?_)); first | done | fail) SelMC.sel SubRC.sub) (by first | omega | (show _ + 1 ≤ _; omega)) (by first | omega | (show _ - (_ + 1) < _ - _; omega))
                                    ·
                                      first
                                      | (exfalso; revert hc220; decide)
                                      | skip
                                        refine r_skip ?_
                                        with_reducible refine r_in_normal ?_; refine r_then ?_
                                        refine r_region ?_
                                        refine o_q _ rfl rfl rfl (v_add rfl rfl rfl (by omega)) ?_
                                        refine o_q _ rfl rfl rfl (v_move rfl rfl) ?_
                                        refine o_nil ?_
                                        with_reducible refine r_then ?_
                                        exact r_next (k + 1) (by exact r_here (by (repeat (first | exact FSub.nil | refine FSub.cons rfl ?_ | refine FSub.cons2 rfl (i64c (paidTo_y (D := D) (pa := amF (trP D bys D.paid.length)) (who := (wk : Int)) (d := dk) (k := k) (by omega) (by omega)).symm) ?_ | refine FSub.cons2 rfl (i64c (paidTo_n (D := D) (pa := amF (trP D bys D.paid.length)) (who := (wk : Int)) (d := dk) (k := k) (by omega)).symm) ?_)); first | done | fail) SelMC.sel SubRC.sub) (by first | omega | (show _ + 1 ≤ _; omega)) (by first | omega | (show _ - (_ + 1) < _ - _; omega))
                              ·
                                refine r_exit ?_
                                with_reducible refine r_then_exit ?_; refine r_then_exit ?_; refine r_in_here ?_; refine r_then ?_
                                refine r_seq ?_
                                obtain rfl : k = D.paid.length := by omega
                                have hk0 : (total (accT D (trA D bys D.dues.length) (trP D bys D.paid.length) (wk : Int) (dk)).1) + (total (newTo D (amF (trA D bys D.dues.length)) (wk : Int) dk D.dues.length)) + (lateK D (trA D bys D.dues.length) (trP D bys D.paid.length) (wk : Int) dk D.dues.length) - (total (accT D (trA D bys D.dues.length) (trP D bys D.paid.length) (wk : Int) (dk + 1)).1) = (accT D (trA D bys D.dues.length) (trP D bys D.paid.length) (wk : Int) (dk)).2 + (paidTo D (amF (trP D bys D.paid.length)) (wk : Int) dk D.paid.length) - (accT D (trA D bys D.dues.length) (trP D bys D.paid.length) (wk : Int) (dk + 1)).2 := kept hg htr (wk : Int) dk hdp
                                have q1 := totT_bd hg htr (wk : Int) (d := dk) (by omega)
                                have q2 := totT_bd hg htr (wk : Int) (d := dk + 1) (by omega)
                                have q3 := accT_fit hg htr (wk : Int) dk
                                have q4 := accT_fit hg htr (wk : Int) (dk + 1)
                                have q5 := new_tot_bd hg htr (wk : Int) dk D.dues.length (Nat.le_refl _)
                                have q6 := late_bd hg htr (wk : Int) dk D.dues.length (Nat.le_refl _)
                                have q7 := paid_bdT hg htr (wk : Int) dk (n := D.paid.length) (Nat.le_refl _)
                                refine r_region ?_
                                refine o_q _ rfl rfl rfl (v_move rfl rfl) ?_
                                refine o_q _ rfl rfl rfl (v_move rfl rfl) ?_
                                refine o_q _ rfl rfl rfl (v_add rfl rfl rfl (by omega)) ?_
                                refine o_q _ rfl rfl rfl (v_move rfl rfl) ?_
                                refine o_q _ rfl rfl rfl (v_add rfl rfl rfl (by omega)) ?_
                                refine o_q _ rfl rfl rfl (v_fieldAddr rfl Tryd.underlying29 inf3 rfl rfl rfl rfl) ?_
                                refine o_q _ rfl rfl rfl (v_ld1 rfl Tryd.underlying3 rfl rfl rfl) ?_
                                refine o_q _ rfl rfl rfl (v_sub rfl rfl rfl (by omega)) ?_
                                refine o_q _ rfl rfl rfl (v_move rfl rfl) ?_
                                refine o_q _ rfl rfl rfl (v_move rfl rfl) ?_
                                refine o_q _ rfl rfl rfl (v_add rfl rfl rfl (by omega)) ?_
                                refine o_q _ rfl rfl rfl (v_fieldAddr rfl Tryd.underlying29 inf3 rfl rfl rfl rfl) ?_
                                refine o_q _ rfl rfl rfl (v_ld1 rfl Tryd.underlying3 rfl rfl rfl) ?_
                                refine o_q _ rfl rfl rfl (v_sub rfl rfl rfl (by omega)) ?_
                                refine o_q _ rfl rfl rfl (v_true (v_eql rfl rfl rfl) (by omega)) ?_
                                all_goals
                                  refine o_q _ rfl rfl rfl (v_move rfl rfl) ?_
                                  refine o_g _ rfl rfl rfl rfl (OpQ.fn awake_v rfl rfl SubRC.sub) ?_
                                  refine o_q _ rfl rfl rfl (v_pick_t rfl rfl rfl) ?_
                                  refine o_q _ rfl rfl rfl (v_assign rfl rfl) ?_
                                  refine o_nil ?_
                                  with_reducible refine r_then ?_
                                  refine r_ret ?_
                                  exact r_retv2 (Rd.tmp rfl rfl) rfl SelMC.sel SubRC.sub
theorem kepts_v (w0 : Nat) (b0 : w0 ≤ 255) (w1 : Nat) (b1 : w1 ≤ 255) (bys : List Int) (ba : Option Addr) (bc : Nat) (hu : U16l bys) (hbl : bys.length ≤ 9223372036854775807) : FnV Tryd.prog 10 [valD D uo po uc pc, .int .u8 w0, .int .u8 w1, .slice ba bys.length bc] [rowD uo 5 encD D.dues, rowD po 4 encP D.paid, rowD (some ⟨0, 0, none⟩) 1 encE ([0, 1] : List Nat), rowD ba 1 encH bys] (.bool true) := by
  by_cases h : ¬ farD D ∧ GoodD D
  · exact kepts_ok D uo po uc pc w0 b0 w1 b1 bys ba bc hu hbl _ _ rfl rfl h.1 h.2
  · exact kepts_not D uo po uc pc w0 b0 w1 b1 bys ba bc hu hbl h
end Go.Proofs.YtpfgiednfjfdmaaDoor

