/- Part 6 of 6 of what the proofs of this seat stand on: a small logic for walks, what the functions come to, and the walks themselves. No condition of its own. -/
import Derived.Test.YtpndeonmmcaikaaGreatL5
import Derived.Test.YtpndeonmmcaikaaGreatL2
import Derived.Test.YtpndeonmmcaikaaGreatL1
import Derived.Test.YtpndeonmmcaikaaGreatL4
import Derived.Test.YtpndeonmmcaikaaGreatL3
import Derived.Test.YtpndeonmmcaikaaGreatRows
set_option linter.unusedVariables false
set_option linter.unusedSimpArgs false
set_option linter.unusedSectionVars false
namespace Go.Proofs.YtpndeonmmcaikaaGreat.FootW
open Go.G Foot4
set_option maxRecDepth 1000000
attribute [local irreducible] G.ParO G.Fin
theorem mk115 {W : World} {n : Nat} {L : Tm} {M : List Res} {R : List Fact} {o : Oper} {x y : Operand} {hp : Nat} {B : List Int} (ho : o.op = .build 272 #[(0, x), (1, y)]) (hx : ev L x = some (i64 ((hp : Int) + 1))) (hy : ev L y = some (.agg (B.map iv).toArray)) (hB : B.length = 8) : OpQ Tryz.prog W n L M R o (keyL (hp + 1) B) := by
  have hc : CatC [i64 ((hp : Int) + 1), .agg (B.map iv).toArray] (i64 ((hp : Int) + 1) :: (B.map iv ++ [])) := inferInstance
  refine v_cast (v_bS (ps := [(0, x), (1, y)]) (vs := [i64 ((hp : Int) + 1), .agg (B.map iv).toArray]) ho Tryz.underlying272 inf272 plt272 rfl ?_ rfl ?_ ?_) (by simp [keyL])
  · show evs L [x, y] = _
    simp only [evs, hx, hy]
  · refine ⟨rfl, ?_, trivial⟩
    have : (Value.agg (B.map iv).toArray).cells.size = 8 := by simp [Value.cells, hB]
    rw [this]; rfl
  · simp [hB]; rfl
theorem hab_of {a b c : Int} (h : ∀ j, j < 3 → 0 ≤ (⟨a, b, c⟩ : T3).at j ∧ (⟨a, b, c⟩ : T3).at j ≤ 7) : ∀ j, j < [a, b, c].length → 0 ≤ [a, b, c].getD j default ∧ [a, b, c].getD j default ≤ 7 := by
  intro j hj
  simp only [List.length_cons, List.length_nil] at hj
  obtain rfl | rfl | rfl : j = 0 ∨ j = 1 ∨ j = 2 := by omega
  · exact h 0 (by omega)
  · exact h 1 (by omega)
  · exact h 2 (by omega)
theorem total2_v (b : Nat) (x y : Int) (hx : -10000 ≤ x ∧ x ≤ 10000) (hy : -10000 ≤ y ∧ y ≤ 10000) : FnV Tryz.prog 185 [.slice (some ⟨b, 0, none⟩) 2 2] [boxF b 3 [i64 x, i64 y]] (i64 (x + y)) := by
  have h := total_v [x, y] (some ⟨b, 0, none⟩) 2 (by simp) (fun k => by
    match k with
    | 0 => exact hx
    | 1 => exact hy
    | k + 2 => show -10000 ≤ (0 : Int) ∧ (0 : Int) ≤ 10000; omega)
  have e : sumTo [x, y] [x, y].length = x + y := by simp [sumTo]
  rw [e] at h
  exact h.pre (fun V hV φ hφ => by
    have : φ = rowD (some ⟨b, 0, none⟩) 1 (fun x : Int => [i64 x]) [x, y] := by simpa using hφ
    subst this
    exact row_of_box (hV _ (by simp)))
set_option maxHeartbeats 4000000 in
theorem best1_0 (F : Work) (ro ho : Option Addr) (rc hc : Nat) (fb : Nat) (men : Int) (hg : GoodF F) (b1 b2 b3 b4 b5 b6 mb : Nat) (sa : Option Addr) (sc : Nat) (xs : List Inner) (hxl : xs.length = F.heaps.length) (hR : Foot4.Rows F xs) (hp : Nat) (hpr : hp + 0 = F.heaps.length) (B : List Int) (hB : B.length = 8) (hs : Small B (3 * hp)) : FnM Tryz.prog 182 [keyL hp B, pt b1 0, pt b2 0, pt b3 0, pt b4 0, pt b5 0, pt b6 0] (memo Tryz.prog 272 (okW F men) mb) [boxF b1 265 [pt fb 0], boxF b2 315 [.map (some mb)], boxF b3 267 [.func (.func 182) #[] #[pt b1 0, pt b2 0, pt b3 0, pt b4 0, pt b5 0, pt b6 0]], boxF b4 273 [i64 (-1), i64 (-1), i64 (-1)], boxF b5 310 [.slice sa xs.length sc], boxF b6 3 [i64 men], rowD sa 1 encO xs, allRows F xs, boxF fb 309 (cellsF F ro rc ho hc), rowD ro 2 encS F.rain, rowD ho 3 encH F.heaps] (fun u => u = valWay (bestW F men 0 B)) := by
 refine FnM.intro Tryz.call182 Tryz.func182 rfl Tryz.ntmps182 rfl ?_; intro W M Rf; refine r_seq (r_region ?_); refine o_boxA rfl rfl rfl rfl rfl (fun b7 => ?_); refine o_alloc rfl inf275 rfl rfl rfl rfl rfl (fun b8 => ?_); refine o_nil (r_then (r_seq ?_)); refine r_seq ?_; refine Imp.sealB b7 ?_; refine r_region_q mixed (by kernel_rfl) ?_; refine q_q _ rfl rfl rfl (v_fieldAddr rfl Tryz.underlying272 inf3 rfl rfl rfl rfl) ?_; refine q_q _ rfl rfl rfl (v_lf1 rfl Tryz.underlying3 rfl rfl rfl) ?_; refine q_q _ rfl rfl rfl (v_lf1 rfl Tryz.underlying265 rfl rfl rfl) ?_; refine q_q _ rfl rfl rfl (v_nilCheck rfl rfl) ?_; refine q_q _ rfl rfl rfl (v_fieldAddr rfl Tryz.underlying309 inf206 rfl rfl rfl rfl) ?_; refine q_q _ rfl rfl rfl (v_fieldAddr rfl Tryz.underlying206 inf204 rfl rfl rfl rfl) ?_; refine q_q _ rfl rfl rfl (v_lf1 rfl Tryz.underlying204 rfl rfl rfl) ?_; refine q_q _ rfl rfl rfl (v_len rfl rfl Tryz.underlying204 rfl) ?_; refine q_q _ rfl rfl rfl (v_eql rfl rfl rfl) ?_; refine q_nil ?_; refine r_then ?_; refine r_condd rfl (fun hc24 => ?_) (fun hc24 => ?_)
 ·
  refine r_seq (r_region ?_); refine o_q _ rfl rfl rfl (v_bS0 rfl Tryz.underlying275 inf275 plt275 rfl rfl) ?_; refine o_st rfl inf275 rfl rfl rfl rfl rfl rfl rfl rfl ?_; refine o_nil (r_then ?_); refine r_ret ?_; (with_reducible refine r_then_ret ?_); exact r_retm (Rd.one rfl (RdI.cellW Tryz.underlying275 rfl inf275 rfl rfl)) (by rfl) SelMC.sel SubRC.sub
 ·
  (exfalso; omega)
set_option maxHeartbeats 4000000 in
theorem best1_s (F : Work) (ro ho : Option Addr) (rc hc : Nat) (fb : Nat) (men : Int) (hg : GoodF F) (b1 b2 b3 b4 b5 b6 mb : Nat) (sa : Option Addr) (sc : Nat) (xs : List Inner) (hxl : xs.length = F.heaps.length) (hR : Foot4.Rows F xs) (r : Nat) (ih : ∀ (hp : Nat) (C : List Int), hp + r = F.heaps.length → C.length = 8 → Small C (3 * hp) → FnM Tryz.prog 182 [keyL hp C, pt b1 0, pt b2 0, pt b3 0, pt b4 0, pt b5 0, pt b6 0] (memo Tryz.prog 272 (okW F men) mb) [boxF b1 265 [pt fb 0], boxF b2 315 [.map (some mb)], boxF b3 267 [.func (.func 182) #[] #[pt b1 0, pt b2 0, pt b3 0, pt b4 0, pt b5 0, pt b6 0]], boxF b4 273 [i64 (-1), i64 (-1), i64 (-1)], boxF b5 310 [.slice sa xs.length sc], boxF b6 3 [i64 men], rowD sa 1 encO xs, allRows F xs, boxF fb 309 (cellsF F ro rc ho hc), rowD ro 2 encS F.rain, rowD ho 3 encH F.heaps] (fun u => u = valWay (bestW F men r C))) (hp : Nat) (hpr : hp + (r + 1) = F.heaps.length) (B : List Int) (hB : B.length = 8) (hs : Small B (3 * hp)) : FnM Tryz.prog 182 [keyL hp B, pt b1 0, pt b2 0, pt b3 0, pt b4 0, pt b5 0, pt b6 0] (memo Tryz.prog 272 (okW F men) mb) [boxF b1 265 [pt fb 0], boxF b2 315 [.map (some mb)], boxF b3 267 [.func (.func 182) #[] #[pt b1 0, pt b2 0, pt b3 0, pt b4 0, pt b5 0, pt b6 0]], boxF b4 273 [i64 (-1), i64 (-1), i64 (-1)], boxF b5 310 [.slice sa xs.length sc], boxF b6 3 [i64 men], rowD sa 1 encO xs, allRows F xs, boxF fb 309 (cellsF F ro rc ho hc), rowD ro 2 encS F.rain, rowD ho 3 encH F.heaps] (fun u => u = valWay (bestW F men (r + 1) B)) := by
 have hkl0 := key_of hp B (by have := hg.2.2.1; omega) hB (fun i => by have := hs i; have := hg.2.2.1; omega); obtain ⟨kl, hkl⟩ := hkl0; have hb := hg.bnd; have hl3 := hg.2.2.1; refine FnM.intro Tryz.call182 Tryz.func182 rfl Tryz.ntmps182 rfl ?_; intro W M Rf; refine r_seq (r_region ?_); refine o_boxA rfl rfl rfl rfl rfl (fun b7 => ?_); refine o_alloc rfl inf275 rfl rfl rfl rfl rfl (fun b8 => ?_); refine o_nil (r_then (r_seq ?_)); refine r_seq ?_; refine Imp.sealB b7 ?_; refine r_region_q mixed (by kernel_rfl) ?_; refine q_q _ rfl rfl rfl (v_fieldAddr rfl Tryz.underlying272 inf3 rfl rfl rfl rfl) ?_; refine q_q _ rfl rfl rfl (v_lf1 rfl Tryz.underlying3 rfl rfl rfl) ?_; refine q_q _ rfl rfl rfl (v_lf1 rfl Tryz.underlying265 rfl rfl rfl) ?_; refine q_q _ rfl rfl rfl (v_nilCheck rfl rfl) ?_; refine q_q _ rfl rfl rfl (v_fieldAddr rfl Tryz.underlying309 inf206 rfl rfl rfl rfl) ?_; refine q_q _ rfl rfl rfl (v_fieldAddr rfl Tryz.underlying206 inf204 rfl rfl rfl rfl) ?_; refine q_q _ rfl rfl rfl (v_lf1 rfl Tryz.underlying204 rfl rfl rfl) ?_; refine q_q _ rfl rfl rfl (v_len rfl rfl Tryz.underlying204 rfl) ?_; refine q_q _ rfl rfl rfl (v_eql rfl rfl rfl) ?_; refine q_nil ?_; refine r_then ?_; refine r_condd rfl (fun hc24 => ?_) (fun hc24 => ?_)
 ·
  (exfalso; omega)
 ·
  refine r_skip (r_then ?_); refine r_seq ?_; refine r_seq (r_region ?_); refine o_q _ rfl rfl rfl (v_lf1 rfl Tryz.underlying315 rfl rfl rfl) ?_; refine o_q _ rfl rfl rfl (v_lfW rfl Tryz.underlying272 rfl inf272 rfl (by rw [List.length_cons, List.length_map, hB]; rfl)) ?_; refine o_lookupD (ok := okW F men) (b := mb) (valWay (bestW F men (r + 1) B)) (fun u hu => hu hp (r + 1) B hpr rfl) keyLaw115 hkl rfl Tryz.underlying315 inf275 rfl rfl rfl rfl rfl rfl ?_ ?_
  all_goals
   refine q_mv rfl rfl rfl rfl rfl ?_; refine o_q _ rfl rfl rfl (v_extract rfl rfl rfl) ?_; refine o_q _ rfl rfl rfl (v_extract rfl rfl rfl) ?_; refine o_alloc rfl inf275 rfl rfl rfl rfl rfl (fun b9 => ?_); refine o_st rfl inf275 rfl rfl rfl rfl rfl rfl rfl rfl ?_; refine q_as rfl rfl rfl rfl rfl ?_; refine o_nil (r_then (r_seq (r_region ?_))); refine q_mv rfl rfl rfl rfl rfl ?_; refine o_nil (r_then ?_); refine r_cond rfl (fun hc32 => ?_) (fun hc32 => ?_)
   ·
    first
    | (exfalso; revert hc32; decide)
    |
     skip
     refine r_seq (r_region ?_); refine o_q _ rfl rfl rfl (v_ldW rfl Tryz.underlying275 rfl inf275 rfl rfl) ?_; refine o_st rfl inf275 rfl rfl rfl rfl rfl rfl rfl rfl ?_; refine o_nil (r_then ?_); refine r_ret ?_; (with_reducible refine r_then_ret ?_); exact r_retm (Rd.one rfl (RdI.cellW Tryz.underlying275 rfl inf275 rfl rfl)) (by rfl) SelMC.sel SubRC.sub
   ·
    first
    | (exfalso; revert hc32; decide)
    |
     skip
     refine r_skip (r_then ?_); refine r_seq ?_; refine r_par' 10 mixed (by kernel_rfl) (by rfl) ?_; refine p_q _ rfl rfl rfl (fun _ _ => v_lf1 rfl Tryz.underlying267 rfl rfl rfl) ?_; refine p_q _ rfl rfl rfl (fun _ _ => v_fieldAddr rfl Tryz.underlying272 inf3 rfl rfl rfl rfl) ?_; refine p_q _ rfl rfl rfl (fun _ _ => v_lf1 rfl Tryz.underlying3 rfl rfl rfl) ?_; refine p_q _ rfl rfl rfl (fun _ _ => v_add rfl rfl rfl (by omega)) ?_; refine p_q _ rfl rfl rfl (fun _ _ => v_fieldAddr rfl Tryz.underlying272 inf270 rfl rfl rfl rfl) ?_; refine p_q _ rfl rfl rfl (fun _ _ => v_lfN (us := B.map iv) rfl Tryz.underlying270 rfl inf270 rfl (take8 hB) (by rw [List.length_map, hB]; rfl)) ?_; refine p_q _ rfl rfl rfl (fun _ _ => mk115 rfl rfl rfl hB) ?_; refine p_q _ rfl rfl rfl (fun _ _ => OpQ.fnm (ih (hp + 1) B (by omega) hB (fun i => by have := hs i; omega)) rfl [] [pt b1 0, pt b2 0, pt b3 0, pt b4 0, pt b5 0, pt b6 0] rfl rfl rfl SubRC.sub) ?_; refine p_q _ rfl rfl rfl (fun _ _ => v_field rfl Tryz.underlying275 Tryz.underlying3 inf3 rfl rfl rfl rfl) ?_; refine p_q _ rfl rfl rfl (fun _ _ => v_lfW rfl Tryz.underlying273 rfl inf273 rfl rfl) ?_; refine p_nil2 (by simp only [List.nil_append, List.cons_append]; rfl) rfl ?_; (iterate 10 refine f_q rfl ?_); refine f_nil ?_; refine o_q _ rfl rfl rfl (v_bS rfl Tryz.underlying275 inf275 plt275 rfl rfl rfl (by repeat (first | exact trivial | refine ⟨rfl, ?_⟩)) (by rfl)) ?_; refine o_lit rfl Tryz.underlying317 inf275 rfl rfl rfl rfl rfl rfl rfl rfl (by repeat (first | exact trivial | refine ⟨rfl, ?_⟩)) (by rfl) (fun b45 => ?_); refine q_as rfl rfl rfl rfl rfl ?_; refine o_nil (r_then (r_seq ?_)); refine r_seq ?_; obtain ⟨oa, ln, cp, hxe⟩ : ∃ oa ln cp, xs.getD hp default = (oa, ln, cp) := ⟨_, _, _, rfl⟩; have hln : ln = (sureF selW F hp).length := by have := hR.2 hp (by omega); rw [hxe] at this; exact this
     subst hln; refine Imp.derive (ψ := rowD oa 3 encT (sureF selW F hp)) ?_ (fun V hV => by have := hV (allRows F xs) InR.mem hp (by omega); rw [hxe] at this; exact this); refine Imp.ownBox (enc := encW) (sz := 4) b45 [⟨(bestW F men r B).sods, noneT⟩] rfl rfl (by simp [maxLen]) ?_; refine r_region ?_; refine o_q _ rfl rfl rfl (v_lf1 rfl Tryz.underlying310 rfl rfl rfl) ?_; refine o_q _ rfl rfl rfl (v_fieldAddr rfl Tryz.underlying272 inf3 rfl rfl rfl rfl) ?_; refine o_q _ rfl rfl rfl (v_lf1 rfl Tryz.underlying3 rfl rfl rfl) ?_; refine o_q _ rfl rfl rfl (v_indexAddrSn rfl Tryz.underlying310 inf200 rfl rfl rfl (by omega) rfl) ?_; refine o_q _ rfl rfl rfl (v_loadE1 (v := .slice oa (sureF selW F hp).length cp) rfl Tryz.underlying200 rfl rfl (by omega) rfl (by rw [hxe]; rfl)) ?_; refine o_q _ rfl rfl rfl (v_len rfl rfl Tryz.underlying200 rfl) ?_; refine q_mv rfl rfl rfl rfl rfl ?_; refine o_nil (r_then ?_); refine r_block ?_; refine r_loop (ι := Nat × Value) (fun gh => gh.1 ≤ (sureF selW F hp).length) (fun gh => [(1, pt b1 0), (2, pt b2 0), (3, pt b3 0), (4, pt b4 0), (5, pt b5 0), (6, pt b6 0), (7, pt b7 0), (8, pt b8 0), (11, gh.2), (50, .slice oa (sureF selW F hp).length cp), (51, i64 (sureF selW F hp).length), (52, i64 gh.1)]) (fun gh => ownL gh.2 275 4 encW (waysT F men hp B (fun C => (bestW F men r C).sods) gh.1) :: bx b8 275 [i64 0, i64 0, i64 0, i64 0] :: memo Tryz.prog 272 (okW F men) mb :: M) (fun gh => rowD oa 3 encT (sureF selW F hp) :: (boxF b7 272 (i64 hp :: B.map iv) :: ([boxF b1 265 [pt fb 0], boxF b2 315 [.map (some mb)], boxF b3 267 [.func (.func 182) #[] #[pt b1 0, pt b2 0, pt b3 0, pt b4 0, pt b5 0, pt b6 0]], boxF b4 273 [i64 (-1), i64 (-1), i64 (-1)], boxF b5 310 [.slice sa xs.length sc], boxF b6 3 [i64 men], rowD sa 1 encO xs, allRows F xs, boxF fb 309 (cellsF F ro rc ho hc), rowD ro 2 encS F.rain, rowD ho 3 encH F.heaps] ++ Rf))) (fun gh => (sureF selW F hp).length - gh.1) (0, .slice (some ⟨b45, 0, none⟩) 1 1) ?_ ?_ ?_
     ·
      refine Imp.own_to (.slice (some ⟨b45, 0, none⟩) 1 1) (waysT F men hp B (fun C => (bestW F men r C).sods) 0) waysT_0.symm ?_; refine Imp.box_to b8 [i64 0, i64 0, i64 0, i64 0] rfl ?_; exact r_here (by repeat (first | exact FSub.nil | refine FSub.cons rfl ?_)) SelMC.sel SubRC.sub
     ·
      exact Nat.zero_le _
     ·
      rintro ⟨k, v⟩ hI0; dsimp only at hI0; dsimp only; have hsl := sureF_le (sel := selW) (F := F) (heap := hp) hb.len; obtain ⟨a, b, c, hp_⟩ : ∃ a b c, (sureF selW F hp).getD k default = ⟨a, b, c⟩ := ⟨_, _, _, rfl⟩; have hwk := waysT_le (F := F) (men := men) (h := hp) (B := B) (rec := (fun C => (bestW F men r C).sods)) (k := k) hb.len; have hpl0 := fun (hk : k < (sureF selW F hp).length) => sure_day (sel := selW) (F := F) (h := hp) hb.len hk
      refine r_seq (r_region ?_); refine o_q _ rfl rfl rfl (v_lss rfl rfl rfl) ?_; refine o_nil (r_then (r_seq ?_)); refine r_condd rfl (fun hc53 => ?_) (fun hc53 => ?_)
      ·
       refine r_skip (r_then ?_); refine r_seq (r_block ?_); refine r_seq (r_region ?_); refine o_q _ rfl rfl rfl (v_indexAddrSn rfl Tryz.underlying200 inf273 rfl rfl rfl (by omega) rfl) ?_; refine o_q _ rfl rfl rfl (v_loadEN rfl Tryz.underlying273 rfl inf273 rfl (by omega) rfl rfl rfl) ?_; simp only [hp_]; refine o_alloc rfl inf273 rfl rfl rfl rfl rfl (fun b13 => ?_); refine o_st rfl inf273 rfl rfl rfl rfl rfl rfl rfl rfl ?_; refine o_nil (r_then (r_seq ?_)); refine r_seq ?_; have hpl : ∀ j, j < 3 → 0 ≤ (⟨a, b, c⟩ : T3).at j ∧ (⟨a, b, c⟩ : T3).at j ≤ 7 := hp_ ▸ hpl0 (by omega); have hab : ∀ j, j < [a, b, c].length → 0 ≤ [a, b, c].getD j default ∧ [a, b, c].getD j default ≤ 7 := hab_of hpl; refine Imp.sealB b13 ?_; refine Imp.rowB (b := b13) i64 [a, b, c] rfl ?_; refine r_region ?_; refine o_q _ rfl rfl rfl (v_sliceA rfl Tryz.underlying273 inf3 rfl) ?_; refine o_q _ rfl rfl rfl (v_makeFunc rfl rfl rfl) ?_; refine o_test rfl rfl rfl (OpQ.fn (ints_c (fun d : Int => men ≤ B.getD d.toNat 0) [a, b, c] (some ⟨b13, 0, none⟩) 3 184 [pt b7 0, pt b6 0] [boxF b7 272 (i64 hp :: B.map iv), boxF b6 3 [i64 men]] (by simp) (fun j hj => busyAt_v B hp men _ b7 b6 hB (hab j hj))) rfl rfl SubRC.sub) (fun h58 => ?_) (fun h58 => ?_)
       all_goals
        refine o_nil (r_then ?_); refine r_cond rfl (fun hc58 => ?_) (fun hc58 => ?_)
        ·
         first
         | (exfalso; revert hc58; decide)
         |
          skip
          refine r_exit ?_; refine r_then_exit ?_; refine r_in_here ?_; refine r_then ?_; refine r_region ?_; refine o_q _ rfl rfl rfl (v_add rfl rfl rfl (by omega)) ?_; refine q_mv rfl rfl rfl rfl rfl ?_; refine o_nil (r_then ?_); exact r_next ((k + 1, v)) (by refine Imp.own_to v (waysT F men hp B (fun C => (bestW F men r C).sods) (k + 1)) (waysT_no (by omega) hp_ (by assumption)) ?_; exact r_here (by repeat (first | exact FSub.nil | refine FSub.cons rfl ?_)) SelMC.sel SubRC.sub) (by first | omega | (show _ + 1 ≤ _; omega)) (by first | omega | (show _ - (_ + 1) < _ - _; omega))
        ·
         first
         | (exfalso; revert hc58; decide)
         |
          skip
          refine r_skip (r_then ?_); have hsd : -10000 ≤ (F.heaps.getD hp default).sods ∧ (F.heaps.getD hp default).sods ≤ 10000 := by have := (hg.2.2.2.2.2 hp (by omega)).2; omega
          have hrc : -10000 ≤ (bestW F men r (with_ B ⟨a, b, c⟩)).sods ∧ (bestW F men r (with_ B ⟨a, b, c⟩)).sods ≤ 10000 := by have := bestW_bd hg men r (with_ B ⟨a, b, c⟩) (by omega); omega
          refine r_par' 27 mixed (by kernel_rfl) (by rfl) ?_; refine p_q _ rfl rfl rfl (fun _ _ => v_move rfl rfl) ?_; refine p_q _ rfl rfl rfl (fun _ _ => v_lf1 rfl Tryz.underlying265 rfl rfl rfl) ?_; refine p_q _ rfl rfl rfl (fun _ _ => v_nilCheck rfl rfl) ?_; refine p_q _ rfl rfl rfl (fun _ _ => v_fieldAddr rfl Tryz.underlying309 inf206 rfl rfl rfl rfl) ?_; refine p_q _ rfl rfl rfl (fun _ _ => v_fieldAddr rfl Tryz.underlying206 inf204 rfl rfl rfl rfl) ?_; refine p_q _ rfl rfl rfl (fun _ _ => v_lf1 rfl Tryz.underlying204 rfl rfl rfl) ?_; refine p_q _ rfl rfl rfl (fun _ _ => v_fieldAddr rfl Tryz.underlying272 inf3 rfl rfl rfl rfl) ?_; refine p_q _ rfl rfl rfl (fun _ _ => v_lf1 rfl Tryz.underlying3 rfl rfl rfl) ?_; refine p_q _ rfl rfl rfl (fun _ _ => v_indexAddrSn rfl Tryz.underlying204 inf278 rfl rfl rfl (by omega) rfl) ?_; refine p_q _ rfl rfl rfl (fun _ _ => v_fieldAddr rfl Tryz.underlying278 inf3 rfl rfl rfl rfl) ?_; refine p_q _ rfl rfl rfl (fun _ _ => v_loadE1 rfl Tryz.underlying3 rfl rfl (by omega) rfl rfl) ?_; refine p_q _ rfl rfl rfl (fun _ _ => v_lf1 rfl Tryz.underlying267 rfl rfl rfl) ?_; refine p_q _ rfl rfl rfl (fun _ _ => v_fieldAddr rfl Tryz.underlying272 inf3 rfl rfl rfl rfl) ?_; refine p_q _ rfl rfl rfl (fun _ _ => v_lf1 rfl Tryz.underlying3 rfl rfl rfl) ?_; refine p_q _ rfl rfl rfl (fun _ _ => v_add rfl rfl rfl (by omega)) ?_; refine p_q _ rfl rfl rfl (fun _ _ => v_fieldAddr rfl Tryz.underlying272 inf270 rfl rfl rfl rfl) ?_; refine p_q _ rfl rfl rfl (fun _ _ => v_lfN (us := B.map iv) rfl Tryz.underlying270 rfl inf270 rfl (take8 hB) (by rw [List.length_map, hB]; rfl)) ?_; refine p_q _ rfl rfl rfl (fun _ _ => v_lfW rfl Tryz.underlying273 rfl inf273 rfl rfl) ?_; refine p_q _ rfl rfl rfl (fun _ _ => OpQ.fn (with_v _ _ _ _ hB (fun i => by have := hs i; omega) (fun j hj => (hpl j hj).2)) rfl rfl SubRC.sub) ?_; refine p_q _ rfl rfl rfl (fun _ _ => mk115 rfl rfl rfl (by rw [with_len, hB])) ?_; refine p_q _ rfl rfl rfl (fun _ _ => OpQ.fnm (ih (hp + 1) (with_ B ⟨a, b, c⟩) (by omega) (by rw [with_len, hB]) (fun i => by have := with_small (by omega) hs ⟨a, b, c⟩ i; omega)) rfl [] [pt b1 0, pt b2 0, pt b3 0, pt b4 0, pt b5 0, pt b6 0] rfl rfl rfl SubRC.sub) ?_; refine p_q _ rfl rfl rfl (fun _ _ => v_field rfl Tryz.underlying275 Tryz.underlying3 inf3 rfl rfl rfl rfl) ?_; refine p_lit rfl Tryz.underlying39 inf3 rfl rfl rfl rfl rfl rfl rfl rfl (by repeat (first | exact trivial | refine ⟨rfl, ?_⟩)) (by rfl) ?_; refine p_acc (by simp only [List.nil_append, List.cons_append]; rfl) ?_; refine p_depLit 22 rfl rfl (by kernel_rfl) rfl rfl rfl (fun b82 _ _ => OpQ.fn (total2_v b82 _ _ hsd hrc) rfl rfl SubRC.sub) ?_; refine p_q _ rfl rfl rfl (fun _ _ => v_lfW rfl Tryz.underlying273 rfl inf273 rfl rfl) ?_; refine p_q _ rfl rfl rfl (fun _ _ => v_bS rfl Tryz.underlying275 inf275 plt275 rfl rfl rfl (by repeat (first | exact trivial | refine ⟨rfl, ?_⟩)) (by rfl)) ?_
          refine p_lit rfl Tryz.underlying317 inf275 rfl rfl rfl rfl rfl rfl rfl rfl (by repeat (first | exact trivial | refine ⟨rfl, ?_⟩)) (by rfl) ?_; refine p_nil2 (by simp only [List.nil_append, List.cons_append]; rfl) rfl ?_; (iterate 22 refine f_q rfl ?_); refine f_lit rfl (fun b81 => ?_); (iterate 3 refine f_q rfl ?_); refine f_lit rfl (fun b85 => ?_); refine f_nil ?_; refine o_app1F (⟨(F.heaps.getD hp default).sods + (bestW F men r (with_ B ⟨a, b, c⟩)).sods, ⟨a, b, c⟩⟩) rfl Tryz.underlying317 inf275 rfl (by rfl) (by rfl) rfl rfl rfl rfl rfl (by rfl) (by rfl) (by rfl) (by constructor <;> first | omega | decide) (fun v86 => ?_); refine q_as rfl rfl rfl rfl rfl ?_; refine o_nil ?_; refine r_in_normal ?_; refine r_then ?_; refine r_region ?_; refine o_q _ rfl rfl rfl (v_add rfl rfl rfl (by omega)) ?_; refine q_mv rfl rfl rfl rfl rfl ?_; refine o_nil (r_then ?_); exact r_next ((k + 1, v86)) (by refine Imp.own_to v86 (waysT F men hp B (fun C => (bestW F men r C).sods) (k + 1)) (waysT_yes (by omega) hp_ (by assumption)) ?_; exact r_here (by repeat (first | exact FSub.nil | refine FSub.cons rfl ?_)) SelMC.sel SubRC.sub) (by first | omega | (show _ + 1 ≤ _; omega)) (by first | omega | (show _ - (_ + 1) < _ - _; omega))
      ·
       refine r_exit ?_; refine r_then_exit ?_; refine r_then_exit ?_; refine r_in_here ?_; refine r_then (r_seq ?_); refine Imp.own_to v (waysT F men hp B (fun C => (bestW F men r C).sods) (sureF selW F hp).length) (by rw [show k = (sureF selW F hp).length from by omega]) ?_; have hwl := waysT_le (F := F) (men := men) (h := hp) (B := B) (rec := (fun C => (bestW F men r C).sods)) (k := (sureF selW F hp).length) hb.len; refine Imp.settleS v encW_len (fun wa wc hv => ?_); subst hv; refine r_region ?_; refine q_mv rfl rfl rfl rfl rfl ?_; refine o_q _ rfl rfl rfl (v_bS rfl Tryz.underlying322 inf322 plt322 rfl rfl rfl (by repeat (first | exact trivial | refine ⟨rfl, ?_⟩)) (by rfl)) ?_; refine o_q _ rfl rfl rfl (OpQ.fn (chosenW_v _ _ _ hwl) rfl rfl SubRC.sub) ?_; refine q_mv rfl rfl rfl rfl rfl ?_; refine o_q _ rfl rfl rfl (v_extract rfl rfl rfl) ?_; refine o_q _ rfl rfl rfl (v_extract rfl rfl rfl) ?_; refine o_alloc rfl inf275 rfl rfl rfl rfl rfl (fun b14 => ?_); refine o_st rfl inf275 rfl rfl rfl rfl rfl rfl rfl rfl ?_; refine q_as rfl rfl rfl rfl rfl ?_; refine o_nil (r_then (r_seq (r_region ?_))); refine o_q _ rfl rfl rfl (v_lf1 rfl Tryz.underlying315 rfl rfl rfl) ?_; refine o_q _ rfl rfl rfl (v_lfW rfl Tryz.underlying272 rfl inf272 rfl (by rw [List.length_cons, List.length_map, hB]; rfl)) ?_; refine o_q _ rfl rfl rfl (v_ldW rfl Tryz.underlying275 rfl inf275 rfl rfl) ?_; refine o_mapUpdate (ok := okW F men) (b := mb) keyLaw115 hkl rfl Tryz.underlying315 rfl rfl rfl rfl rfl (okW_mk hpr (waysT_all ▸ bestW_eq hpr)) ?_; refine o_nil (r_then (r_seq (r_region ?_))); refine o_q _ rfl rfl rfl (v_ldW rfl Tryz.underlying275 rfl inf275 rfl rfl) ?_; refine o_st rfl inf275 rfl rfl rfl rfl rfl rfl rfl rfl ?_; refine o_nil (r_then ?_); refine r_ret ?_; exact r_retm (Rd.one rfl (RdI.cellW Tryz.underlying275 rfl inf275 rfl rfl)) (by rw [waysT_all]; exact congrArg valWay (bestW_eq hpr)) SelMC.sel SubRC.sub
end Go.Proofs.YtpndeonmmcaikaaGreat.FootW

namespace Go.Proofs.YtpndeonmmcaikaaGreat.FootW
open Go.G Foot4
set_option maxRecDepth 1000000
attribute [local irreducible] G.ParO G.Fin
theorem best1_m (F : Work) (ro ho : Option Addr) (rc hc : Nat) (fb : Nat) (men : Int) (hg : GoodF F) (b1 b2 b3 b4 b5 b6 mb : Nat) (sa : Option Addr) (sc : Nat) (xs : List Inner) (hxl : xs.length = F.heaps.length) (hR : Foot4.Rows F xs) : ∀ (r hp : Nat) (C : List Int), hp + r = F.heaps.length → C.length = 8 → Small C (3 * hp) → FnM Tryz.prog 182 [keyL hp C, pt b1 0, pt b2 0, pt b3 0, pt b4 0, pt b5 0, pt b6 0] (memo Tryz.prog 272 (okW F men) mb) [boxF b1 265 [pt fb 0], boxF b2 315 [.map (some mb)], boxF b3 267 [.func (.func 182) #[] #[pt b1 0, pt b2 0, pt b3 0, pt b4 0, pt b5 0, pt b6 0]], boxF b4 273 [i64 (-1), i64 (-1), i64 (-1)], boxF b5 310 [.slice sa xs.length sc], boxF b6 3 [i64 men], rowD sa 1 encO xs, allRows F xs, boxF fb 309 (cellsF F ro rc ho hc), rowD ro 2 encS F.rain, rowD ho 3 encH F.heaps] (fun u => u = valWay (bestW F men r C))
  | 0, hp, C, h1, h2, h3 => best1_0 F ro ho rc hc fb men hg b1 b2 b3 b4 b5 b6 mb sa sc xs hxl hR hp h1 C h2 h3
  | r + 1, hp, C, h1, h2, h3 => best1_s F ro ho rc hc fb men hg b1 b2 b3 b4 b5 b6 mb sa sc xs hxl hR r (best1_m F ro ho rc hc fb men hg b1 b2 b3 b4 b5 b6 mb sa sc xs hxl hR r) hp h1 C h2 h3
theorem sure_n (F : Work) (ro ho : Option Addr) (rc hc : Nat) (fb k : Nat) (h : k < F.heaps.length) (hb : Bnd F) : FnR Tryz.prog 181 [pt fb 0, i64 (k : Int), wetT.i] [boxF fb 309 (cellsF F ro rc ho hc), rowD ro 2 encS F.rain, rowD ho 3 encH F.heaps] (isSl (sureF selW F k).length) (fun v => [rowD (adr v) 3 encT (sureF selW F k)]) := sure_fr wetT F ro ho rc hc fb (k : Int) (by omega) (by omega) hb
theorem encO_len (x : Inner) : (encO x).length = 1 := rfl
set_option maxHeartbeats 4000000 in
theorem best_s (F : Work) (ro ho : Option Addr) (rc hc : Nat) (fb : Nat) (men : Int) (hg : GoodF F) : FnS Tryz.prog 157 [pt fb 0, i64 men] [] [boxF fb 309 (cellsF F ro rc ho hc), rowD ro 2 encS F.rain, rowD ho 3 encH F.heaps] (fun e M' R' => ∃ v m, e = .returned v ∧ M' = [m] ∧ FnOk Tryz.prog (domW F) keyW (ansW F men) v m R') := by
 have hb := hg.bnd; have hl3 := hg.2.2.1; refine FnS.intro0 Tryz.call157 Tryz.func157 rfl Tryz.ntmps157 rfl ?_; intro W M Rf; refine r_seq (r_region ?_); refine o_box1 rfl rfl rfl rfl rfl rfl (fun b2 => ?_); refine o_box1 rfl rfl rfl rfl rfl rfl (fun b3 => ?_); refine q_as rfl rfl rfl rfl rfl ?_; refine o_nil (r_then (r_seq (r_region ?_))); refine o_q _ rfl rfl rfl (v_bA rfl Tryz.underlying273 inf273 inf3 rfl rfl rfl (by repeat (first | exact trivial | refine ⟨rfl, ?_⟩)) (by rfl)) ?_; refine o_alloc rfl inf273 rfl rfl rfl rfl rfl (fun b5 => ?_); refine o_st rfl inf273 rfl rfl rfl rfl rfl rfl rfl rfl ?_; refine o_nil (r_then (r_seq ?_)); refine Imp.box_to b5 [i64 (-1), i64 (-1), i64 (-1)] rfl ?_; refine Imp.sealB b5 ?_; refine Imp.sealB b3 ?_; refine Imp.sealB b2 ?_; refine r_region ?_; refine o_alloc rfl inf310 rfl rfl rfl rfl rfl (fun b6 => ?_); refine o_nil (r_then (r_seq ?_)); refine r_seq ?_; refine Imp.nilL 200 1 encO ?_; refine Imp.derive (ψ := allRows F []) ?_ (fun V _ => allRows_nil); refine r_region ?_; refine o_q _ rfl rfl rfl (v_lf1 rfl Tryz.underlying265 rfl rfl rfl) ?_; refine o_q _ rfl rfl rfl (v_nilCheck rfl rfl) ?_; refine o_q _ rfl rfl rfl (v_fieldAddr rfl Tryz.underlying309 inf206 rfl rfl rfl rfl) ?_; refine o_q _ rfl rfl rfl (v_fieldAddr rfl Tryz.underlying206 inf204 rfl rfl rfl rfl) ?_; refine o_q _ rfl rfl rfl (v_lf1 rfl Tryz.underlying204 rfl rfl rfl) ?_; refine o_q _ rfl rfl rfl (v_len rfl rfl Tryz.underlying204 rfl) ?_; refine q_mv rfl rfl rfl rfl rfl ?_; refine o_nil (r_then ?_); refine r_block ?_; refine r_loop (ι := Nat × Value × List Inner) (fun gh => gh.1 ≤ F.heaps.length ∧ gh.2.2.length = gh.1 ∧ Foot4.Rows F gh.2.2) (fun gh => [(2, pt b2 0), (3, pt b3 0), (5, pt b5 0), (6, pt b6 0), (16, i64 F.heaps.length), (17, i64 gh.1)]) (fun gh => ownL gh.2.1 200 1 encO gh.2.2 :: bx b6 310 [gh.2.1] :: M) (fun gh => allRows F gh.2.2 :: boxF b5 273 [i64 (-1), i64 (-1), i64 (-1)] :: boxF b3 3 [i64 men] :: boxF b2 265 [pt fb 0] :: ([boxF fb 309 (cellsF F ro rc ho hc), rowD ro 2 encS F.rain, rowD ho 3 encH F.heaps] ++ Rf)) (fun gh => F.heaps.length - gh.1) (0, .slice none 0 0, []) ?_ ?_ ?_
 ·
  refine Imp.box_to b6 [.slice none 0 0] rfl ?_; exact r_here (by repeat (first | exact FSub.nil | refine FSub.cons rfl ?_)) SelMC.sel SubRC.sub
 ·
  exact ⟨Nat.zero_le _, rfl, Nat.zero_le _, fun h hh => absurd hh (by simp)⟩
 ·
  rintro ⟨k, v, xs⟩ hI0; dsimp only at hI0; dsimp only; have hR := hI0.2.2; have hlx : xs.length = k := hI0.2.1; have hkl : k ≤ F.heaps.length := hI0.1; refine r_seq (r_region ?_); refine o_q _ rfl rfl rfl (v_lss rfl rfl rfl) ?_; refine o_nil (r_then (r_seq ?_)); refine r_condd rfl (fun hc18 => ?_) (fun hc18 => ?_)
  ·
   refine r_skip (r_then ?_); refine r_seq (r_block ?_); refine r_seq (r_region ?_); refine q_mv rfl rfl rfl rfl rfl ?_; refine q_as rfl rfl rfl rfl rfl ?_; refine o_nil (r_then ?_); refine r_par' 7 mixed (by kernel_rfl) (by rfl) ?_; refine p_q _ rfl rfl rfl (fun _ _ => v_ld1 rfl Tryz.underlying310 rfl rfl rfl) ?_; refine p_q _ rfl rfl rfl (fun _ _ => v_lf1 rfl Tryz.underlying265 rfl rfl rfl) ?_; refine p_q _ rfl rfl rfl (fun _ _ => v_move rfl rfl) ?_; refine p_q _ rfl rfl rfl (fun _ _ => v_bS0 rfl Tryz.underlying314 inf314 plt314 rfl rfl) ?_; refine p_q _ rfl rfl rfl (fun _ _ => v_makeIface rfl Tryz.underlying314 rfl rfl) ?_; refine p_fn (sure_n F ro ho rc hc fb k (by omega) hb) rfl rfl rfl rfl rfl SubRC.sub ?_; refine p_acc (by simp only [List.nil_append, List.cons_append]; rfl) ?_; refine p_depSl 5 rfl rfl (by kernel_rfl) rfl rfl rfl rfl rfl Tryz.underlying310 inf200 rfl rfl ?_; refine p_nil2 (by simp only [List.nil_append, List.cons_append]; rfl) rfl ?_; (iterate 5 refine f_q rfl ?_); refine f_gf rfl (fun v25 hv25 => ?_); refine f_slsl rfl (fun b26 => ?_); refine f_nil ?_; refine Imp.slF (b := b26) (e := 200) (m := (sureF selW F k).length) (sz := 3) (enc := encT) (ys := (sureF selW F k)) (fun oa cp => ?_); refine o_app1F (((oa, (sureF selW F k).length, cp) : Inner)) rfl Tryz.underlying310 inf200 rfl (by rfl) (by rfl) rfl rfl rfl rfl rfl (by rfl) (by rfl) (by rfl) (by first | omega | (constructor <;> first | omega | decide)) (fun v27 => ?_); refine Imp.own_is v27 (fun hs27 => ?_); obtain ⟨oa27, cp27, rfl⟩ := hs27; refine o_st rfl inf310 rfl rfl rfl rfl rfl rfl rfl rfl ?_; refine o_nil ?_; refine r_in_normal ?_; refine r_then ?_; refine r_region ?_; refine o_q _ rfl rfl rfl (v_add rfl rfl rfl (by omega)) ?_; refine q_mv rfl rfl rfl rfl rfl ?_; refine o_nil (r_then ?_); exact r_next ((k + 1, .slice oa27 (xs ++ [(oa, (sureF selW F k).length, cp)]).length cp27, xs ++ [(oa, (sureF selW F k).length, cp)])) (by refine Imp.box_to b6 [.slice oa27 (xs ++ [(oa, (sureF selW F k).length, cp)]).length cp27] rfl ?_; refine Imp.derive (ψ := allRows F (xs ++ [(oa, (sureF selW F k).length, cp)])) ?_ (fun V hV => allRows_add (hV (allRows F xs) InR.mem) (by rw [hlx]; exact hV (rowD oa 3 encT (sureF selW F k)) InR.mem)); exact r_here (by repeat (first | exact FSub.nil | refine FSub.cons rfl ?_)) SelMC.sel SubRC.sub) (by exact ⟨by show k + 1 ≤ _; omega, by simp [hlx], Rows_add hR (by omega) (by rw [hlx])⟩) (by show _ - (k + 1) < _ - k; omega)
  ·
   refine r_exit ?_; refine r_then_exit ?_; refine r_then_exit ?_; refine r_in_here ?_; refine r_then (r_seq ?_); refine Imp.settleS v encO_len (fun sa sc hv => ?_); subst hv; have hxl : xs.length = F.heaps.length := by omega
   refine Imp.box_to b6 [.slice sa xs.length sc] rfl ?_; refine Imp.sealB b6 ?_; refine r_region ?_; refine o_makeMap (k := 272) (okW F men) rfl rfl rfl rfl (fun mb => ?_); refine o_alloc rfl inf315 rfl rfl rfl rfl rfl (fun b8 => ?_); refine o_st rfl inf315 rfl rfl rfl rfl rfl rfl rfl rfl ?_; refine o_nil (r_then (r_seq ?_)); refine Imp.box_to b8 [.map (some mb)] rfl ?_; refine Imp.sealB b8 ?_; refine r_region ?_; refine o_alloc rfl inf267 rfl rfl rfl rfl rfl (fun b9 => ?_); refine o_nil (r_then (r_seq (r_region ?_))); refine o_q _ rfl rfl rfl (v_makeFunc rfl rfl rfl) ?_; refine o_st rfl inf267 rfl rfl rfl rfl rfl rfl rfl rfl ?_; refine o_nil (r_then (r_seq ?_)); refine Imp.box_to b9 [.func (.func 182) #[] #[pt b2 0, pt b8 0, pt b9 0, pt b5 0, pt b6 0, pt b3 0]] rfl ?_; refine Imp.sealB b9 ?_; refine r_region ?_; refine o_q _ rfl rfl rfl (v_lf1 rfl Tryz.underlying267 rfl rfl rfl) ?_; refine q_as rfl rfl rfl rfl rfl ?_; refine o_nil (r_then ?_); refine r_ret ?_; exact r_rete [memo Tryz.prog 272 (okW F men) mb] [boxF b2 265 [pt fb 0], boxF b8 315 [.map (some mb)], boxF b9 267 [.func (.func 182) #[] #[pt b2 0, pt b8 0, pt b9 0, pt b5 0, pt b6 0, pt b3 0]], boxF b5 273 [i64 (-1), i64 (-1), i64 (-1)], boxF b6 310 [.slice sa xs.length sc], boxF b3 3 [i64 men], rowD sa 1 encO xs, allRows F xs, boxF fb 309 (cellsF F ro rc ho hc), rowD ro 2 encS F.rain, rowD ho 3 encH F.heaps] (Rd.tmp rfl rfl) ⟨_, _, rfl, rfl, _, [pt b2 0, pt b8 0, pt b9 0, pt b5 0, pt b6 0, pt b3 0], rfl, fun x hx => best1_m F ro ho rc hc fb men hg b2 b8 b9 b5 b6 b3 mb sa sc xs hxl hR x.2.1 x.1 x.2.2 hx.1 hx.2.1 hx.2.2⟩ SelMC.sel (SubR.append SubRC.sub SubRC.sub)
theorem oneCells_cons (x : Int) (xs : List Int) : oneCells (i64 x :: xs.map iv) = true := oneCells_map (x :: xs)
set_option maxHeartbeats 4000000 in
theorem Best_s (F : Work) (ro ho : Option Addr) (rc hc : Nat) (hr : F.rain.length ≤ 40) (hh : F.heaps.length ≤ 40) : FnS Tryz.prog 120 [valF F ro rc ho hc] [] [rowD ro 2 encS F.rain, rowD ho 3 encH F.heaps] (fun e M' R' => ∃ v, e = .returned (.tuple #[i64 (bestP F).1, v, i64 (bestP F).2.2]) ∧ M' = [ownL v 273 3 encT (bestP F).2.1] ∧ R' = []) := by
 refine FnS.introD0 Tryz.call120 Tryz.func120 rfl Tryz.ntmps120 rfl ?_; intro W M Rf; refine r_seq (r_region ?_); refine o_boxA rfl rfl rfl rfl rfl (fun b1 => ?_); refine q_as rfl rfl rfl rfl rfl ?_; refine q_as rfl rfl rfl rfl rfl ?_; refine o_alloc rfl inf47 rfl rfl rfl rfl rfl (fun b4 => ?_); refine o_nil (r_then (r_seq (r_region ?_))); refine o_defer rfl rfl rfl rfl ?_; refine o_nil (r_then (r_seq ?_)); refine Imp.sealB b1 ?_; refine r_region ?_; refine o_q _ rfl rfl rfl (v_lfW rfl Tryz.underlying206 rfl inf206 rfl rfl) ?_
 by_cases hg : GoodF F
 all_goals
  first | refine o_fnp (open_ok F ro ho rc hc hr hh hg) rfl rfl rfl rfl rfl SubRC.sub (fun fb => ?_) | refine o_fnx (open_x F ro ho rc hc _ hr hh (by exact chk_ne hg)) rfl rfl rfl SubRC.sub ?_
  all_goals
   repeat (first | with_reducible refine r_then_panic ?_); try (refine Imp.nilL 273 3 encT ?_; exact d_pane [ownL (.slice none 0 0) 273 3 encT []] [] answer_ans (Rd.three rfl (RdI.tmp rfl) (RdI.tmp rfl) (RdI.cell1 Tryz.underlying47 rfl rfl rfl)) (by rw [bestP_bad hg]; exact ⟨_, by rw [chk_1 hg], rfl, rfl⟩) SelMC.sel SubRC.sub)
   all_goals
    refine q_as rfl rfl rfl rfl rfl ?_; refine o_nil (r_then (r_seq ?_)); have hb := hg.bnd; have hl3 := hg.2.2.1; refine r_region ?_; refine q_mv rfl rfl rfl rfl rfl ?_; refine o_q _ rfl rfl rfl (v_fieldAddr rfl Tryz.underlying206 inf3 rfl rfl rfl rfl) ?_; refine o_q _ rfl rfl rfl (v_lf1 rfl Tryz.underlying3 rfl rfl rfl) ?_; refine o_fnk (best_s F ro ho rc hc fb F.men hg) rfl rfl rfl rfl rfl SubRC.sub (fun kk caps m Rs hk => ?_)
    all_goals
     refine q_as rfl rfl rfl rfl rfl ?_; refine o_nil (r_then (r_seq (r_region ?_))); refine o_alloc rfl inf272 rfl rfl rfl rfl rfl (fun b7 => ?_); refine o_nil (r_then (r_seq (r_region ?_))); refine o_q _ rfl rfl rfl (v_fieldAddr rfl Tryz.underlying206 inf204 rfl rfl rfl rfl) ?_; refine o_q _ rfl rfl rfl (v_lf1 rfl Tryz.underlying204 rfl rfl rfl) ?_; refine o_q _ rfl rfl rfl (v_len rfl rfl Tryz.underlying204 rfl) ?_; refine o_make (enc := encT) (sz := 3) (⟨0, 0, 0⟩ : T3) rfl Tryz.underlying200 inf273 rfl rfl rfl rfl rfl rfl rfl (l := 0) rfl rfl (by omega) (by constructor <;> first | omega | decide) (fun b21 => ?_)
     all_goals
      refine q_as rfl rfl rfl rfl rfl ?_; refine o_nil (r_then (r_seq (r_region ?_))); refine q_mv rfl rfl rfl rfl rfl ?_; refine o_q _ rfl rfl rfl (v_ldW rfl Tryz.underlying272 rfl inf272 rfl rfl) ?_; refine o_q _ rfl rfl rfl (OpQ.fnm (hk (0, F.heaps.length, zeros) ⟨by simp, rfl, small_zeros _ (by simp)⟩) rfl [] caps rfl rfl rfl SubRC.sub) ?_; refine o_q _ rfl rfl rfl (v_field rfl Tryz.underlying275 Tryz.underlying3 inf3 rfl rfl rfl rfl) ?_; refine q_as rfl rfl rfl rfl rfl ?_; refine o_nil (r_then ?_); refine r_seq (r_block ?_); refine r_loop (ι := Nat × Value) (fun gh => gh.1 ≤ F.heaps.length) (fun gh => [(1, pt b1 0), (4, pt b4 0), (6, .func (.func kk) #[] caps.toArray), (7, pt b7 0), (8, gh.2), (9, i64 (bestS F F.men))]) (fun gh => ownL gh.2 273 3 encT (stW F F.men gh.1).2 :: bx b7 272 (i64 ((gh.1 : Nat) : Int) :: (stW F F.men gh.1).1.map iv) :: bx b4 47 [i64 0] :: m :: M) (fun gh => Rs ++ (boxF fb 309 (cellsF F ro rc ho hc) :: boxF b1 206 (cellsF F ro rc ho hc) :: ([rowD ro 2 encS F.rain, rowD ho 3 encH F.heaps] ++ Rf))) (fun gh => F.heaps.length - gh.1) (0, .slice (some ⟨b21, 0, none⟩) 0 F.heaps.length) ?_ ?_ ?_
      ·
       refine Imp.own_to (.slice (some ⟨b21, 0, none⟩) 0 F.heaps.length) (stW F F.men 0).2 rfl ?_; refine Imp.box_to b7 (i64 ((0 : Nat) : Int) :: (stW F F.men 0).1.map iv) rfl ?_; refine Imp.box_to b4 [i64 0] rfl ?_; exact r_here (by repeat (first | exact FSub.nil | refine FSub.cons rfl ?_)) SelMC.sel SubRC.sub
      ·
       exact Nat.zero_le _
      ·
       rintro ⟨k, v⟩ hI0; dsimp only at hI0; dsimp only; have hI : k ≤ F.heaps.length := hI0; have hsl := (stW_len F F.men k).2; refine r_seq ?_; refine r_seq (r_region ?_); refine o_q _ rfl rfl rfl (v_fieldAddr rfl Tryz.underlying272 inf3 rfl rfl rfl rfl) ?_; refine o_q _ rfl rfl rfl (v_ld1 rfl Tryz.underlying3 rfl rfl rfl) ?_; refine o_q _ rfl rfl rfl (v_fieldAddr rfl Tryz.underlying206 inf204 rfl rfl rfl rfl) ?_; refine o_q _ rfl rfl rfl (v_lf1 rfl Tryz.underlying204 rfl rfl rfl) ?_; refine o_q _ rfl rfl rfl (v_len rfl rfl Tryz.underlying204 rfl) ?_; refine o_q _ rfl rfl rfl (v_lss rfl rfl rfl) ?_; refine o_nil (r_then ?_); refine r_condd rfl (fun hc31 => ?_) (fun hc31 => ?_)
       ·
        refine r_skip (r_then ?_); refine r_block ?_; refine r_seq (r_region ?_); refine q_mv rfl rfl rfl rfl rfl ?_; refine o_q _ rfl rfl rfl (v_ldW rfl Tryz.underlying272 rfl inf272 rfl (by rw [List.length_cons, List.length_map, (stW_len F F.men k).1]; rfl)) ?_; refine o_q _ rfl rfl rfl (OpQ.fnm (hk (k, F.heaps.length - k, (stW F F.men k).1) ⟨by show k + (F.heaps.length - k) = _; omega, (stW_len F F.men k).1, stW_small F F.men k⟩) rfl [] caps rfl rfl rfl SubRC.sub) ?_; refine o_alloc rfl inf275 rfl rfl rfl rfl rfl (fun b10 => ?_); refine o_st rfl inf275 rfl rfl rfl rfl rfl rfl rfl rfl ?_; refine o_nil (r_then (r_seq (r_region ?_))); refine q_mv rfl rfl rfl rfl rfl ?_; refine o_q _ rfl rfl rfl (v_fieldAddr rfl Tryz.underlying275 inf273 rfl rfl rfl rfl) ?_; refine o_q _ rfl rfl rfl (v_ldN rfl Tryz.underlying273 rfl inf273 rfl rfl rfl) ?_; refine o_lit rfl Tryz.underlying200 inf273 rfl rfl rfl rfl rfl rfl rfl rfl (by repeat (first | exact trivial | refine ⟨rfl, ?_⟩)) (by rfl) (fun b38 => ?_); refine o_app1 ((bestW F F.men (F.heaps.length - k) (stW F F.men k).1).plan) rfl Tryz.underlying200 inf273 rfl (by rfl) (by rfl) rfl rfl rfl rfl rfl (by rfl) (by rfl) (by rfl) (by first | omega | (constructor <;> first | omega | decide)) (fun v39 => ?_); refine q_as rfl rfl rfl rfl rfl ?_; refine o_nil (r_then ?_); refine r_par' 8 mixed (by kernel_rfl) (by rfl) ?_; refine p_q _ rfl rfl rfl (fun _ _ => v_fieldAddr rfl Tryz.underlying272 inf3 rfl rfl rfl rfl) ?_; refine p_q _ rfl rfl rfl (fun _ _ => v_ld1 rfl Tryz.underlying3 rfl rfl rfl) ?_; refine p_q _ rfl rfl rfl (fun _ _ => v_add rfl rfl rfl (by omega)) ?_; refine p_q _ rfl rfl rfl (fun _ _ => v_fieldAddr rfl Tryz.underlying272 inf270 rfl rfl rfl rfl) ?_; refine p_q _ rfl rfl rfl (fun _ _ => v_ldN (us := (stW F F.men k).1.map iv) rfl Tryz.underlying270 rfl inf270 rfl (take8 (stW_len F F.men k).1) (by rw [List.length_map, (stW_len F F.men k).1]; rfl)) ?_; refine p_q _ rfl rfl rfl (fun _ _ => v_fieldAddr rfl Tryz.underlying275 inf273 rfl rfl rfl rfl) ?_; refine p_q _ rfl rfl rfl (fun _ _ => v_ldN rfl Tryz.underlying273 rfl inf273 rfl rfl rfl) ?_; refine p_q _ rfl rfl rfl (fun _ _ => OpQ.fn (with_v (stW F F.men k).1 _ _ _ (stW_len F F.men k).1 (fun i => by have := stW_small F F.men k i; omega) (fun j hj => (bestW_plan hb.len F.men (F.heaps.length - k) (stW F F.men k).1 (by omega) j hj).2)) rfl rfl SubRC.sub) ?_; refine p_nil2 (by simp only [List.nil_append, List.cons_append]; rfl) rfl ?_; (iterate 8 refine f_q rfl ?_); refine f_nil ?_; refine o_q _ rfl rfl rfl (mk115 rfl rfl rfl (by rw [with_len, (stW_len F F.men k).1])) ?_
        refine o_st (B := 272) (vs := (i64 ((k : Nat) : Int) :: (stW F F.men k).1.map iv)) (us := i64 ((k + 1 : Nat) : Int) :: (with_ (stW F F.men k).1 (bestW F F.men (F.heaps.length - k) (stW F F.men k).1).plan).map iv) rfl inf272 rfl rfl rfl rfl rfl (by rw [List.length_cons, List.length_map, with_len, (stW_len F F.men k).1]; rfl) (oneCells_cons _ _) (by rw [List.length_cons, List.length_cons, List.length_map, List.length_map, with_len]; simp [(stW_len F F.men k).1]) ?_; refine o_nil ?_; refine r_in_normal ?_; refine r_then ?_; exact r_next ((k + 1, v39)) (by refine Imp.box_to b7 (i64 (((k + 1) : Nat) : Int) :: (stW F F.men (k + 1)).1.map iv) (by show splice _ 0 _ = _; rw [splice_all (by rw [List.length_cons, List.length_cons, List.length_map, List.length_map, with_len])]; rfl) ?_; refine Imp.own_to v39 (stW F F.men (k + 1)).2 rfl ?_; exact r_here (by repeat (first | exact FSub.nil | refine FSub.cons rfl ?_)) SelMC.sel SubRC.sub) (by first | omega | (show _ + 1 ≤ _; omega)) (by first | omega | (show _ - (_ + 1) < _ - _; omega))
       ·
        refine r_exit ?_; refine r_then_exit ?_; refine r_then_exit ?_; refine r_in_here ?_; refine r_then (r_seq ?_); refine Imp.own_to v (stW F F.men F.heaps.length).2 (by rw [show k = F.heaps.length from by omega]) ?_; refine Imp.settleS v encT_len (fun oa cp hv => ?_); subst hv; have hsl := (stW_len F F.men F.heaps.length).2; refine r_region ?_; refine q_mv rfl rfl rfl rfl rfl ?_; refine o_q _ rfl rfl rfl (v_len rfl rfl Tryz.underlying200 rfl) ?_; refine o_make (enc := encT) (sz := 3) (⟨0, 0, 0⟩ : T3) rfl Tryz.underlying200 inf273 rfl rfl rfl rfl rfl rfl rfl rfl rfl (by omega) (by constructor <;> first | omega | decide) (fun b51 => ?_)
        all_goals
         refine q_as rfl rfl rfl rfl rfl ?_; refine o_nil (r_then (r_seq (r_region ?_))); refine q_mv rfl rfl rfl rfl rfl ?_; refine q_mv rfl rfl rfl rfl rfl ?_; refine o_copy (enc := encT) (sz := 3) (xs := List.replicate (stW F F.men F.heaps.length).2.length ⟨0, 0, 0⟩) (ys := (stW F F.men F.heaps.length).2) rfl Tryz.underlying200 inf273 rfl rfl rfl rfl encT_len oneT rfl rfl rfl (by simp) ?_
         all_goals
          refine o_nil (r_then (r_seq (r_region ?_))); refine q_mv rfl rfl rfl rfl rfl ?_; refine q_mv rfl rfl rfl rfl rfl ?_; refine q_as rfl rfl rfl rfl rfl ?_; refine q_as rfl rfl rfl rfl rfl ?_; refine o_st rfl inf47 rfl rfl rfl rfl rfl rfl rfl rfl ?_; refine o_nil (r_then ?_); refine r_ret ?_; exact d_rete [ownL (.slice (some ⟨b51, 0, none⟩) (stW F F.men F.heaps.length).2.length (stW F F.men F.heaps.length).2.length) 273 3 encT (stW F F.men F.heaps.length).2] [] answer_ans (Rd.three rfl (RdI.tmp rfl) (RdI.tmp rfl) (RdI.cell1 Tryz.underlying47 rfl rfl rfl)) (by rw [bestP_ok hg]; exact ⟨_, rfl, rfl, rfl⟩) SelMC.sel SubRC.sub
end Go.Proofs.YtpndeonmmcaikaaGreat.FootW

namespace Go.Proofs.YtpndeonmmcaikaaGreat.FootW
open Go.G Foot4
set_option maxRecDepth 1000000
theorem guard31 : Tryz.prog.eqGuardType Tryz.prog.depth 43 = false := by kernel_rfl
theorem pc3 {w : World} {us : Array Value} {k : Nat} {v : Value} (h : us[k]? = some v) : (part 3 us k).run Tryz.prog w = .ok v w := run_partC Tryz.underlying3 rfl h
theorem eqIn31 (dd : Nat) (a b c d : Int) (w : World) : (Op.equalIn (dd + 1 + 1) 43 (.agg #[i64 a, i64 b]) (.agg #[i64 c, i64 d])).run Tryz.prog w = .ok (decide (a = c ∧ b = d ∧ True)) w := by
  refine eq_struct Tryz.underlying43 (by kernel_rfl) ?_
  exact fields_cons rfl (pc3 rfl) (pc3 rfl) (eq_int Tryz.underlying3) (fields_cons rfl (pc3 rfl) (pc3 rfl) (eq_int Tryz.underlying3) fields_nil)
theorem eq31 (a b c d : Int) (w : World) : (Op.equal 43 (.agg #[i64 a, i64 b]) (.agg #[i64 c, i64 d])).run Tryz.prog w = .ok (decide ((⟨a, b⟩ : Span) = ⟨c, d⟩)) w :=
  eq_to (fun w => eqIn31 9998 a b c d w) (by simp) w
end Go.Proofs.YtpndeonmmcaikaaGreat.FootW

namespace Go.Proofs.YtpndeonmmcaikaaGreat.FootW
open Go.G Foot4
set_option maxRecDepth 1000000
attribute [local irreducible] G.ParO G.Fin
end Go.Proofs.YtpndeonmmcaikaaGreat.FootW

namespace Go.Proofs.YtpndeonmmcaikaaGreat.FootW
open Go.G Foot4
set_option maxRecDepth 1000000
attribute [local irreducible] G.ParO G.Fin
end Go.Proofs.YtpndeonmmcaikaaGreat.FootW

namespace Go.Proofs.YtpndeonmmcaikaaGreat.FootW
open Go.G Foot4
set_option maxRecDepth 1000000
attribute [local irreducible] G.ParO G.Fin
end Go.Proofs.YtpndeonmmcaikaaGreat.FootW

namespace Go.Proofs.YtpndeonmmcaikaaGreat.FootW
open Go.G Foot4
set_option maxRecDepth 1000000
attribute [local irreducible] G.ParO G.Fin
end Go.Proofs.YtpndeonmmcaikaaGreat.FootW

namespace Go.Proofs.YtpndeonmmcaikaaGreat.FootW
open Go.G Foot4
set_option maxRecDepth 1000000
attribute [local irreducible] G.ParO G.Fin
end Go.Proofs.YtpndeonmmcaikaaGreat.FootW

namespace Go.Proofs.YtpndeonmmcaikaaGreat.FootW
open Go.G Foot4
set_option maxRecDepth 1000000
attribute [local irreducible] G.ParO G.Fin
variable (F : Work) (ro ho : Option Addr) (rc hc : Nat)
end Go.Proofs.YtpndeonmmcaikaaGreat.FootW

namespace Go.Proofs.YtpndeonmmcaikaaGreat.FootW
open Go.G Foot4
set_option maxRecDepth 1000000
attribute [local irreducible] G.ParO G.Fin
variable (F : Work) (ro ho : Option Addr) (rc hc : Nat)
end Go.Proofs.YtpndeonmmcaikaaGreat.FootW

namespace Go.Proofs.YtpndeonmmcaikaaGreat.FootW
open Go.G Foot4
set_option maxRecDepth 1000000
attribute [local irreducible] G.ParO G.Fin
variable (F : Work) (ro ho : Option Addr) (rc hc : Nat)
end Go.Proofs.YtpndeonmmcaikaaGreat.FootW

namespace Go.Proofs.YtpndeonmmcaikaaGreat.FootW
open Go.G Foot4
set_option maxRecDepth 1000000
attribute [local irreducible] G.ParO G.Fin
variable (F : Work) (ro ho : Option Addr) (rc hc : Nat)
end Go.Proofs.YtpndeonmmcaikaaGreat.FootW

namespace Go.Proofs.YtpndeonmmcaikaaGreat.FootW
open Go.G Foot4
set_option maxRecDepth 1000000
attribute [local irreducible] G.ParO G.Fin
variable (F : Work) (ro ho : Option Addr) (rc hc : Nat)
end Go.Proofs.YtpndeonmmcaikaaGreat.FootW

namespace Go.Proofs.YtpndeonmmcaikaaGreat
open Go.G Foot4 Sod2
set_option maxRecDepth 1000000
attribute [local irreducible] G.ParO G.Fin
set_option maxHeartbeats 4000000 in
theorem span04_v (a b : Int) : FnV Tryz.prog 10 [i64 a, i64 b] [] (.agg #[i64 a, i64 b]) := by
 refine FnV.intro Tryz.call10 Tryz.func10 rfl Tryz.ntmps10 rfl ?_; intro W M Rf; refine r_seq (r_region ?_); refine o_alloc rfl inf43 rfl rfl rfl rfl rfl (fun b4 => ?_); refine o_nil (r_then (r_seq (r_region ?_))); refine q_mv rfl rfl rfl rfl rfl ?_; refine q_mv rfl rfl rfl rfl rfl ?_; refine o_q _ rfl rfl rfl (v_bS rfl Tryz.underlying43 inf43 plt43 rfl rfl rfl (by repeat (first | exact trivial | refine ⟨rfl, ?_⟩)) (by rfl)) ?_; refine o_st rfl inf43 rfl rfl rfl rfl rfl rfl rfl rfl ?_; refine o_nil (r_then ?_); refine r_ret ?_; exact r_retv2 (Rd.one rfl (RdI.cellW Tryz.underlying43 rfl inf43 rfl rfl)) rfl SelMC.sel SubRC.sub
def S04 : Bank := ⟨[⟨4, 2, 2⟩, ⟨3, 3, 4⟩], [⟨6, 8⟩, ⟨6, 8⟩, ⟨4, 10⟩], []⟩
theorem good_S04 : GoodS S04 := by decide +kernel
theorem can_S04 : canS S04 := by decide +kernel
theorem cut_S04 : cutP S04 1 = ⟨5, 6⟩ := by decide +kernel
@[reducible] def valS04 (po so : Option Addr) : Value := .agg #[.slice po 2 2, .slice so 3 3, .slice none 0 0]
set_option maxHeartbeats 4000000 in
theorem sod04_r  : FnR Tryz.prog 119 [] [] (fun v => ∃ po so, v = valS04 po so) (fun v => [rowD (adrAt v 0) 3 encSp S04.spits, rowD (adrAt v 1) 2 encS S04.days]) := by
 refine FnR.intro Tryz.call119 Tryz.func119 rfl Tryz.ntmps119 rfl ?_; intro W M Rf; refine r_seq (r_region ?_); refine o_alloc rfl inf62 rfl rfl rfl rfl rfl (fun b0 => ?_); refine o_nil (r_then (r_seq (r_region ?_))); refine o_q _ rfl rfl rfl (OpQ.fn (span04_v _ _) rfl rfl SubRC.sub) ?_; refine o_q _ rfl rfl rfl (v_bS rfl Tryz.underlying135 inf135 plt135 rfl rfl rfl (by repeat (first | exact trivial | refine ⟨rfl, ?_⟩)) (by rfl)) ?_; refine o_q _ rfl rfl rfl (OpQ.fn (span04_v _ _) rfl rfl SubRC.sub) ?_; refine o_q _ rfl rfl rfl (v_bS rfl Tryz.underlying135 inf135 plt135 rfl rfl rfl (by repeat (first | exact trivial | refine ⟨rfl, ?_⟩)) (by rfl)) ?_; refine o_lit rfl Tryz.underlying58 inf135 rfl rfl rfl rfl rfl rfl rfl rfl (by repeat (first | exact trivial | refine ⟨rfl, ?_⟩)) (by rfl) (fun b5 => ?_); (iterate 3 refine o_q _ rfl rfl rfl (OpQ.fn (span04_v _ _) rfl rfl SubRC.sub) ?_); refine o_lit rfl Tryz.underlying59 inf43 rfl rfl rfl rfl rfl rfl rfl rfl (by repeat (first | exact trivial | refine ⟨rfl, ?_⟩)) (by rfl) (fun b9 => ?_); refine o_q _ rfl rfl rfl (v_bSp rfl Tryz.underlying62 inf62 plt62 rfl rfl rfl (by repeat (first | exact trivial | refine ⟨rfl, ?_⟩)) (by show 2 ≤ 3; omega) (by rfl)) ?_; refine o_st rfl inf62 rfl rfl rfl rfl rfl rfl rfl rfl ?_; refine o_nil (r_then ?_); refine r_ret ?_; refine Imp.box_to b0 [.slice (some ⟨b5, 0, none⟩) 2 2, .slice (some ⟨b9, 0, none⟩) 3 3, .slice none 0 0] rfl ?_; refine Imp.sealB b5 ?_; refine Imp.rowN (b := b5) S04.spits encSp_len rfl ?_; refine Imp.sealB b9 ?_; refine Imp.rowN (b := b9) S04.days encS_len rfl ?_; exact r_retr (Rd.one rfl (RdI.cellW Tryz.underlying62 rfl inf62 rfl rfl)) ⟨some ⟨b5, 0, none⟩, some ⟨b9, 0, none⟩, rfl⟩ SelMC.sel (by show SubR _ ([rowD (some ⟨b5, 0, none⟩) 3 encSp S04.spits, rowD (some ⟨b9, 0, none⟩) 2 encS S04.days] ++ _); exact SubRC.sub)
set_option maxHeartbeats 4000000 in
theorem foot04_r  : FnR Tryz.prog 121 [] [] (fun v => ∃ ro ho, v = valF (sampleF 2) ro 6 ho 3) (fun v => [rowD (adrAt v 0) 2 encS (sampleF 2).rain, rowD (adrAt v 8) 3 encH (sampleF 2).heaps]) := by
 refine FnR.intro Tryz.call121 Tryz.func121 rfl Tryz.ntmps121 rfl ?_; intro W M Rf; refine r_seq (r_region ?_); refine o_alloc rfl inf206 rfl rfl rfl rfl rfl (fun b0 => ?_); refine o_nil (r_then (r_seq (r_region ?_))); (iterate 6 refine o_q _ rfl rfl rfl (OpQ.fn (span04_v _ _) rfl rfl SubRC.sub) ?_); refine o_lit rfl Tryz.underlying59 inf43 rfl rfl rfl rfl rfl rfl rfl rfl (by repeat (first | exact trivial | refine ⟨rfl, ?_⟩)) (by rfl) (fun b7 => ?_); refine o_q _ rfl rfl rfl (v_bA rfl Tryz.underlying203 inf203 inf3 rfl rfl rfl (by repeat (first | exact trivial | refine ⟨rfl, ?_⟩)) (by rfl)) ?_; refine o_q _ rfl rfl rfl (v_bA rfl Tryz.underlying203 inf203 inf3 rfl rfl rfl (by repeat (first | exact trivial | refine ⟨rfl, ?_⟩)) (by rfl)) ?_; refine o_q _ rfl rfl rfl (OpQ.fn (span04_v _ _) rfl rfl SubRC.sub) ?_; refine o_q _ rfl rfl rfl (v_bS rfl Tryz.underlying278 inf278 plt278 rfl rfl rfl (by repeat (first | exact trivial | refine ⟨rfl, ?_⟩)) (by rfl)) ?_; refine o_q _ rfl rfl rfl (OpQ.fn (span04_v _ _) rfl rfl SubRC.sub) ?_; refine o_q _ rfl rfl rfl (v_bS rfl Tryz.underlying278 inf278 plt278 rfl rfl rfl (by repeat (first | exact trivial | refine ⟨rfl, ?_⟩)) (by rfl)) ?_; refine o_q _ rfl rfl rfl (OpQ.fn (span04_v _ _) rfl rfl SubRC.sub) ?_; refine o_q _ rfl rfl rfl (v_bS rfl Tryz.underlying278 inf278 plt278 rfl rfl rfl (by repeat (first | exact trivial | refine ⟨rfl, ?_⟩)) (by rfl)) ?_; refine o_lit rfl Tryz.underlying204 inf278 rfl rfl rfl rfl rfl rfl rfl rfl (by repeat (first | exact trivial | refine ⟨rfl, ?_⟩)) (by rfl) (fun b16 => ?_); refine o_q _ rfl rfl rfl (v_bS rfl Tryz.underlying206 inf206 plt206 rfl rfl rfl (by repeat (first | exact trivial | refine ⟨rfl, ?_⟩)) (by rfl)) ?_; refine o_st rfl inf206 rfl rfl rfl rfl rfl rfl rfl rfl ?_; refine o_nil (r_then ?_); refine r_ret ?_; refine Imp.box_to b0 (cellsF (sampleF 2) (some ⟨b7, 0, none⟩) 6 (some ⟨b16, 0, none⟩) 3) rfl ?_; refine Imp.sealB b7 ?_; refine Imp.rowN (b := b7) (sampleF 2).rain encS_len rfl ?_; refine Imp.sealB b16 ?_; refine Imp.rowN (b := b16) (sampleF 2).heaps encH_len rfl ?_; exact r_retr (Rd.one rfl (RdI.cellW Tryz.underlying206 rfl inf206 rfl rfl)) ⟨some ⟨b7, 0, none⟩, some ⟨b16, 0, none⟩, rfl⟩ SelMC.sel (by show SubR _ ([rowD (some ⟨b7, 0, none⟩) 2 encS (sampleF 2).rain, rowD (some ⟨b16, 0, none⟩) 3 encH (sampleF 2).heaps] ++ _); exact SubRC.sub)
theorem o_sod04 {W : World} {n : Nat} {D : List Deferred} {L : Tm} {M : List Res} {R : List Fact} {Q : Exit → Act → World → Prop} {o : Oper} {ops : Array Oper} {rest : List Oper} {xs : List Operand} {ts : Array TypeId} {d : Nat} (ho : o.op = .call { callee := .value (.func 119), args := xs.toArray, argTypes := ts }) (hx : evs L xs = some []) (hg : o.guard = none) (hdst : o.dst = some d) (hd : Nat.blt d n = true)
    (hret : ∀ po so, Imp W n D ((d, valS04 po so) :: L) M (rowD po 3 encSp S04.spits :: rowD so 2 encS S04.days :: rowD none 3 encLg S04.logs :: R) (wpList Tryz.prog ops Q rest)) : Imp W n D L M R (wpList Tryz.prog ops Q (o :: rest)) :=
  o_fn sod04_r ho hx hg hdst hd SubR.nil (fun v ⟨po, so, hv⟩ => by
    subst hv
    refine Imp.derive (ψ := rowD none 3 encLg S04.logs) ?_ (fun V _ => .inl rfl)
    exact (hret po so).weak (fun _ _ h => h) SelM.refl (fun φ h => by
      simp only [List.mem_cons, List.mem_append, List.not_mem_nil, or_false] at h ⊢
      rcases h with h | h | h | h
      · exact .inr (.inl (.inl h))
      · exact .inr (.inl (.inr h))
      · exact .inl h
      · exact .inr (.inr h)))
theorem o_foot04 {W : World} {n : Nat} {D : List Deferred} {L : Tm} {M : List Res} {R : List Fact} {Q : Exit → Act → World → Prop} {o : Oper} {ops : Array Oper} {rest : List Oper} {xs : List Operand} {ts : Array TypeId} {d : Nat} (ho : o.op = .call { callee := .value (.func 121), args := xs.toArray, argTypes := ts }) (hx : evs L xs = some []) (hg : o.guard = none) (hdst : o.dst = some d) (hd : Nat.blt d n = true)
    (hret : ∀ ro ho, Imp W n D ((d, valF (sampleF 2) ro 6 ho 3) :: L) M (rowD ro 2 encS (sampleF 2).rain :: rowD ho 3 encH (sampleF 2).heaps :: R) (wpList Tryz.prog ops Q rest)) : Imp W n D L M R (wpList Tryz.prog ops Q (o :: rest)) :=
  o_fn foot04_r ho hx hg hdst hd SubR.nil (fun v ⟨ro, ho, hv⟩ => by subst hv; exact hret ro ho)
theorem cut04s_v (po so : Option Addr) : FnV Tryz.prog 20 [valS04 po so, i64 1] [rowD po 3 encSp S04.spits, rowD so 2 encS S04.days, rowD none 3 encLg S04.logs] (.tuple #[vS ⟨5, 6⟩, i64 0]) := by
  have h := SodW.Cut_v S04 po so none 2 3 0 1 good_S04 can_S04 (by decide)
  rw [cut_S04] at h; exact h
theorem best04_s (ro ho : Option Addr) (rc hc : Nat) : FnS Tryz.prog 120 [valF (sampleF 2) ro rc ho hc] [] [rowD ro 2 encS (sampleF 2).rain, rowD ho 3 encH (sampleF 2).heaps] (fun e M' R' => ∃ v, e = .returned (.tuple #[i64 160, v, i64 0]) ∧ M' = [ownL v 273 3 encT [⟨0, 3, 5⟩, ⟨0, 3, 5⟩, ⟨-1, -1, -1⟩]] ∧ R' = []) := by
  have h := FootW.Best_s (sampleF 2) ro ho rc hc (by simp) (by simp)
  rw [smp_best] at h; exact h
set_option maxHeartbeats 4000000 in
theorem awake04_v  : FnV Tryz.prog 68 [] [] (.bool true) := by
 refine FnV.intro Tryz.call68 Tryz.func68 rfl Tryz.ntmps68 rfl ?_; intro W M Rf; refine r_seq (r_region ?_); refine q_as rfl rfl rfl rfl rfl ?_; refine o_nil (r_then (r_seq (r_region ?_))); refine o_sod04 rfl rfl rfl rfl rfl (fun po so => ?_)
 all_goals
  refine o_q _ rfl rfl rfl (OpQ.fn (cut04s_v po so) rfl rfl SubRC.sub) ?_; refine q_mv rfl rfl rfl rfl rfl ?_; refine o_q _ rfl rfl rfl (v_extract rfl rfl rfl) ?_; refine o_q _ rfl rfl rfl (v_extract rfl rfl rfl) ?_; refine o_alloc rfl inf43 rfl rfl rfl rfl rfl (fun b1 => ?_); refine o_st rfl inf43 rfl rfl rfl rfl rfl rfl rfl rfl ?_; refine q_as rfl rfl rfl rfl rfl ?_; refine o_nil (r_then (r_seq (r_region ?_))); refine o_foot04 rfl rfl rfl rfl rfl (fun ro ho => ?_)
  all_goals
   refine o_fnown (best04_s ro ho 6 3) rfl rfl rfl rfl rfl SubRC.sub (fun v13 => ?_)
   all_goals
    refine q_mv rfl rfl rfl rfl rfl ?_; (iterate 3 refine o_q _ rfl rfl rfl (v_extract rfl rfl rfl) ?_); (iterate 3 refine q_as rfl rfl rfl rfl rfl ?_); refine o_nil (r_then (r_seq ?_)); refine Imp.box_to b1 [i64 5, i64 6] rfl ?_; refine r_region_q mixed (by kernel_rfl) ?_; refine q_q _ rfl rfl rfl (v_ldW rfl Tryz.underlying43 rfl inf43 rfl rfl) ?_; refine q_q _ rfl rfl rfl (OpQ.fn (span04_v _ _) rfl rfl SubRC.sub) ?_; refine q_q _ rfl rfl rfl (v_cast (v := .bool true) (v_eqP rfl rfl rfl FootW.guard31 (FootW.eq31 _ _ _ _)) rfl) ?_; refine q_q _ rfl rfl rfl (v_move rfl rfl) ?_; refine q_g _ rfl rfl rfl rfl (v_move rfl rfl) ?_; refine q_g _ rfl rfl rfl rfl (v_true (v_eql rfl rfl rfl) (by omega)) ?_
    all_goals
     refine q_q _ rfl rfl rfl (v_pick_t rfl rfl rfl) ?_; refine q_q _ rfl rfl rfl (v_move rfl rfl) ?_; refine q_g _ rfl rfl rfl rfl (v_move rfl rfl) ?_; refine q_g _ rfl rfl rfl rfl (v_true (v_eql rfl rfl rfl) (by omega)) ?_
     all_goals
      refine q_q _ rfl rfl rfl (v_pick_t rfl rfl rfl) ?_; refine q_q _ rfl rfl rfl (v_move rfl rfl) ?_; refine q_g _ rfl rfl rfl rfl (v_move rfl rfl) ?_; refine q_g _ rfl rfl rfl rfl (v_true (v_eql rfl rfl rfl) (by omega)) ?_
      all_goals
       refine q_q _ rfl rfl rfl (v_pick_t rfl rfl rfl) ?_; refine q_q _ rfl rfl rfl (v_assign rfl rfl) ?_; refine q_nil ?_; refine r_then ?_; refine r_ret ?_; exact r_retv2 (Rd.tmp rfl rfl) rfl SelMC.sel SubRC.sub
end Go.Proofs.YtpndeonmmcaikaaGreat

namespace Go.Proofs.YtpndeonmmcaikaaGreat
open Go.G Foot4 Sod2
set_option maxRecDepth 1000000
attribute [local irreducible] G.ParO G.Fin
set_option maxHeartbeats 4000000 in
theorem draws_s (bys : List Int) (ba : Option Addr) (bc : Nat) : FnS Tryz.prog 9 [.slice ba bys.length bc] [] [] (fun e M' R' => ∃ x : Nat × Nat, e = .returned (.func (.func 38) #[] #[pt x.1 0, pt x.2 0]) ∧ True ∧ M' = [bx x.1 3 [i64 ((0 : Nat) : Int)]] ∧ R' = [boxF x.2 31 [.slice ba bys.length bc]]) := by
 refine FnS.intro0 Tryz.call9 Tryz.func9 rfl Tryz.ntmps9 rfl ?_; intro W M Rf; refine r_seq (r_region ?_); refine o_box1 rfl rfl rfl rfl rfl rfl (fun b1 => ?_); refine q_as rfl rfl rfl rfl rfl ?_; refine o_nil (r_then (r_seq (r_region ?_))); refine o_alloc rfl inf3 rfl rfl rfl rfl rfl (fun b3 => ?_); refine o_st rfl inf3 rfl rfl rfl rfl rfl rfl rfl rfl ?_; refine o_nil (r_then (r_seq ?_)); refine Imp.sealB b1 ?_; refine r_region ?_; refine o_q _ rfl rfl rfl (v_makeFunc rfl rfl rfl) ?_; refine q_as rfl rfl rfl rfl rfl ?_; refine o_nil (r_then ?_); refine r_ret ?_; refine Imp.box_to b3 [i64 ((0 : Nat) : Int)] rfl ?_; exact r_rete [bx b3 3 [i64 ((0 : Nat) : Int)]] [boxF b1 31 [.slice ba bys.length bc]] (Rd.tmp rfl rfl) ⟨(b3, b1), rfl, trivial, rfl, rfl⟩ SelMC.sel SubRC.sub
theorem u16_at {bys : List Int} (hu : U16s bys) (i : Nat) : 0 ≤ bys.getD i 0 ∧ bys.getD i 0 ≤ 65535 := by
  by_cases hl : i < bys.length
  · have hm : bys.getD i 0 ∈ bys := by simp [List.getD_eq_getElem?_getD, hl]
    exact hu _ hm
  · simp [List.getD_eq_getElem?_getD, List.getElem?_eq_none (by omega : bys.length ≤ i)]
set_option maxHeartbeats 4000000 in
theorem draw1_c (bys : List Int) (ba : Option Addr) (bc : Nat) (hu : U16s bys) (hbl : bys.length ≤ 9223372036854775807) (ab bb k : Nat) (s : Span) (hk : k ≤ 100000) (hs : s.lo ≤ s.hi) (h0 : -1000 ≤ s.lo) (h1 : s.hi ≤ 1000) : FnC Tryz.prog 38 [.agg #[i64 s.lo, i64 s.hi], pt ab 0, pt bb 0] (bx ab 3 [i64 k]) [boxF bb 31 [.slice ba bys.length bc], rowD ba 1 encU bys] (i64 (drawT bys (k + 1) s)) (bx ab 3 [i64 ((k + 1 : Nat) : Int)]) := by
 refine FnC.intro Tryz.call38 Tryz.func38 rfl Tryz.ntmps38 rfl ?_; intro W M Rf; refine r_seq (r_region ?_); refine o_boxA rfl rfl rfl rfl rfl (fun b3 => ?_); refine q_as rfl rfl rfl rfl rfl ?_; refine o_nil (r_then (r_seq ?_)); refine Imp.box_to ab [i64 k] rfl ?_; refine r_region ?_; refine o_q _ rfl rfl rfl (v_ld1 rfl Tryz.underlying3 rfl rfl rfl) ?_; refine o_q _ rfl rfl rfl (v_add rfl rfl rfl (by omega)) ?_; refine o_st rfl inf3 rfl rfl rfl rfl rfl rfl rfl rfl ?_; refine o_nil (r_then (r_seq ?_)); refine r_seq (r_region ?_); refine o_q _ rfl rfl rfl (v_lf1 rfl Tryz.underlying31 rfl rfl rfl) ?_; refine o_q _ rfl rfl rfl (v_len rfl rfl Tryz.underlying31 rfl) ?_; refine o_q _ rfl rfl rfl (v_eql rfl rfl rfl) ?_; refine o_nil (r_then ?_); refine r_condd rfl (fun hc9 => ?_) (fun hc9 => ?_)
 ·
  refine r_seq ?_; refine Imp.box_to ab [i64 ((k + 1 : Nat) : Int)] rfl ?_; refine r_region ?_; refine o_q _ rfl rfl rfl (v_fieldAddr rfl Tryz.underlying43 inf3 rfl rfl rfl rfl) ?_; refine o_q _ rfl rfl rfl (v_ld1 rfl Tryz.underlying3 rfl rfl rfl) ?_; refine q_as rfl rfl rfl rfl rfl ?_; refine o_nil (r_then ?_); refine r_ret ?_; (with_reducible refine r_then_ret ?_); exact r_rete [bx ab 3 [i64 ((k + 1 : Nat) : Int)]] [] (Rd.tmp rfl rfl) ⟨congrArg Ending.returned (congrArg (Value.int .i64) (drawT_0 (by assumption)).symm), rfl, rfl⟩ SelMC.sel SubRC.sub
 ·
  refine r_skip (r_then ?_); refine r_seq ?_; have hpos : 0 < bys.length := by omega
  have hlt : (k + 1) % bys.length < bys.length := Nat.mod_lt _ hpos; have hat := u16_at hu ((k + 1) % bys.length); refine Imp.box_to ab [i64 ((k + 1 : Nat) : Int)] rfl ?_; refine r_region_q mixed (by kernel_rfl) ?_; refine q_q _ rfl rfl rfl (v_fieldAddr rfl Tryz.underlying43 inf3 rfl rfl rfl rfl) ?_; refine q_q _ rfl rfl rfl (v_ld1 rfl Tryz.underlying3 rfl rfl rfl) ?_; refine q_q _ rfl rfl rfl (v_lf1 rfl Tryz.underlying31 rfl rfl rfl) ?_; refine q_q _ rfl rfl rfl (v_ld1 rfl Tryz.underlying3 rfl rfl rfl) ?_; refine q_q _ rfl rfl rfl (v_lf1 rfl Tryz.underlying31 rfl rfl rfl) ?_; refine q_q _ rfl rfl rfl (v_len rfl rfl Tryz.underlying31 rfl) ?_; refine q_q _ rfl rfl rfl (v_cast (v := i64 (((k + 1) % bys.length : Nat) : Int)) (v_rem rfl rfl rfl (by omega)) (congrArg (Value.int .i64) (G.tmod_nat (a := k + 1) (b := bys.length)))) ?_; refine q_q _ rfl rfl rfl (v_indexAddrSn rfl Tryz.underlying31 inf97 rfl rfl rfl (by omega) rfl) ?_; refine q_q _ rfl rfl rfl (v_loadE1 (v := .int .u16 (bys.getD ((k + 1) % bys.length) 0)) rfl Tryz.underlying97 rfl rfl hlt rfl rfl) ?_; refine q_q _ rfl rfl rfl (v_conv rfl Tryz.underlying97 Tryz.underlying3 rfl (IntWalk.i64_in _ (by omega))) ?_; refine q_q _ rfl rfl rfl (v_ld1 rfl Tryz.underlying3 rfl rfl rfl) ?_; refine q_q _ rfl rfl rfl (v_mul rfl rfl rfl (by omega)) ?_; refine q_q _ rfl rfl rfl (v_add rfl rfl rfl (by omega)) ?_; refine q_q _ rfl rfl rfl (v_fieldAddr rfl Tryz.underlying43 inf3 rfl rfl rfl rfl) ?_; refine q_q _ rfl rfl rfl (v_ld1 rfl Tryz.underlying3 rfl rfl rfl) ?_; refine q_q _ rfl rfl rfl (v_fieldAddr rfl Tryz.underlying43 inf3 rfl rfl rfl rfl) ?_; refine q_q _ rfl rfl rfl (v_ld1 rfl Tryz.underlying3 rfl rfl rfl) ?_; refine q_q _ rfl rfl rfl (v_sub rfl rfl rfl (by omega)) ?_; refine q_q _ rfl rfl rfl (v_add rfl rfl rfl (by omega)) ?_; refine q_q _ rfl rfl rfl (v_rem rfl rfl rfl (by omega)) ?_; refine q_q _ rfl rfl rfl (v_add rfl rfl rfl (by have h2 := Int.tmod_nonneg (s.hi - s.lo + 1) (show 0 ≤ (bys.getD ((k + 1) % bys.length) 0) + 79 * ((k + 1 : Nat) : Int) by omega); have h3 := Int.tmod_lt_of_pos ((bys.getD ((k + 1) % bys.length) 0) + 79 * ((k + 1 : Nat) : Int)) (show 0 < s.hi - s.lo + 1 by omega); omega)) ?_; refine q_q _ rfl rfl rfl (v_assign rfl rfl) ?_; refine q_nil ?_; refine r_then ?_; refine r_ret ?_; exact r_rete [bx ab 3 [i64 ((k + 1 : Nat) : Int)]] [] (Rd.tmp rfl rfl) ⟨congrArg Ending.returned (congrArg (Value.int .i64) (drawT_1 (by assumption)).symm), rfl, rfl⟩ SelMC.sel SubRC.sub
variable (B : Bank) (po so lo : Option Addr) (pc sc lc : Nat)
set_option maxHeartbeats 4000000 in
theorem cut04_s (bys : List Int) (ba : Option Addr) (bc : Nat) (hu : U16s bys) (hbl : bys.length ≤ 9223372036854775807) (ab bb k0 : Nat) (hg : GoodS B) (hk0 : k0 ≤ 1000) : FnS Tryz.prog 19 [valS B po pc so sc lo lc, .func (.func 38) #[] #[pt ab 0, pt bb 0]] [bx ab 3 [i64 ((k0 : Nat) : Int)]] [rowD po 3 encSp B.spits, rowD so 2 encS B.days, rowD lo 3 encLg B.logs, boxF bb 31 [.slice ba bys.length bc], rowD ba 1 encU bys] (fun e M' R' => ∃ x : Option Addr × Nat, e = .returned (.tuple #[valS (bankX (drawT bys) k0 B) po pc so sc x.1 x.2, i64 (sodsOf B (cD (drawT bys) k0 B) (strD (drawT bys) k0 B B.days.length))]) ∧ True ∧ M' = [bx ab 3 [i64 ((k0 + B.spits.length + B.days.length : Nat) : Int)]] ∧ R' = [rowD x.1 3 encLg (bankX (drawT bys) k0 B).logs]) := by
 refine FnS.intro1 Tryz.call19 Tryz.func19 rfl Tryz.ntmps19 rfl ?_; intro W M Rf; refine r_seq (r_region ?_); refine o_boxA rfl rfl rfl rfl rfl (fun b2 => ?_); refine o_alloc rfl inf62 rfl rfl rfl rfl rfl (fun b4 => ?_); refine q_as rfl rfl rfl rfl rfl ?_; refine o_nil (r_then (r_seq (r_region ?_))); refine o_q _ rfl rfl rfl (v_ldW rfl Tryz.underlying62 rfl inf62 rfl rfl) ?_; refine o_st rfl inf62 rfl rfl rfl rfl rfl rfl rfl rfl ?_; refine o_nil (r_then (r_seq (r_region ?_))); refine o_q _ rfl rfl rfl (v_fieldAddr rfl Tryz.underlying62 inf60 rfl rfl rfl rfl) ?_; refine o_st rfl inf60 rfl rfl rfl rfl rfl rfl rfl rfl ?_; refine o_nil (r_then (r_seq ?_)); refine Imp.box_to b4 [.slice po B.spits.length pc, .slice so B.days.length sc, .slice none 0 0] rfl ?_; refine r_region ?_; refine q_as rfl rfl rfl rfl rfl ?_; refine q_as rfl rfl rfl rfl rfl ?_; refine o_nil (r_then (r_seq ?_)); refine r_seq ?_; have hf : InD (drawT bys) := drawT_in hu; have hq1 := hg.1; have hq2 := hg.2.1; have hq3 := hg.2.2.1; refine Imp.nilL 3 1 Sod2.encI ?_; refine r_region ?_; refine o_q _ rfl rfl rfl (v_fieldAddr rfl Tryz.underlying62 inf58 rfl rfl rfl rfl) ?_; refine o_q _ rfl rfl rfl (v_ld1 rfl Tryz.underlying58 rfl rfl rfl) ?_; refine o_q _ rfl rfl rfl (v_len rfl rfl Tryz.underlying58 rfl) ?_; refine q_mv rfl rfl rfl rfl rfl ?_; refine o_nil (r_then ?_); refine r_block ?_; refine r_loop (ι := Nat × Value) (fun gh => gh.1 ≤ B.spits.length) (fun gh => [(1, .func (.func 38) #[] #[pt ab 0, pt bb 0]), (2, pt b2 0), (4, pt b4 0), (5, i64 0), (6, gh.2), (7, .slice none 0 0), (19, .slice po B.spits.length pc), (20, i64 B.spits.length), (21, i64 gh.1)]) (fun gh => ownL gh.2 3 1 Sod2.encI (costTo (drawT bys) k0 B (gh.1)) :: bx ab 3 [i64 ((k0 + gh.1 : Nat) : Int)] :: bx b2 62 (cellsS B po pc so sc lo lc) :: bx b4 62 [.slice po B.spits.length pc, .slice so B.days.length sc, .slice none 0 0] :: M) (fun gh => [rowD po 3 encSp B.spits, rowD so 2 encS B.days, rowD lo 3 encLg B.logs, boxF bb 31 [.slice ba bys.length bc], rowD ba 1 encU bys] ++ Rf) (fun gh => B.spits.length - gh.1) (0, .slice none 0 0) ?_ ?_ ?_
 ·
  refine Imp.own_to (.slice none 0 0) (costTo (drawT bys) k0 B (0)) rfl ?_; exact r_here (by repeat (first | exact FSub.nil | refine FSub.cons rfl ?_)) SelMC.sel SubRC.sub
 ·
  exact Nat.zero_le _
 ·
  rintro ⟨k, v⟩ hI0; dsimp only at hI0; dsimp only; refine r_seq (r_region ?_); refine o_q _ rfl rfl rfl (v_lss rfl rfl rfl) ?_; refine o_nil (r_then (r_seq ?_)); refine r_condd rfl (fun hc22 => ?_) (fun hc22 => ?_)
  ·
   refine r_skip (r_then ?_); refine r_seq (r_block ?_); refine r_seq (r_region ?_); refine o_q _ rfl rfl rfl (v_indexAddrSn rfl Tryz.underlying58 inf135 rfl rfl rfl (by omega) rfl) ?_; refine o_q _ rfl rfl rfl (v_loadEN rfl Tryz.underlying135 rfl inf135 rfl (by omega) rfl rfl rfl) ?_; refine o_alloc rfl inf135 rfl rfl rfl rfl rfl (fun b9 => ?_); refine o_st rfl inf135 rfl rfl rfl rfl rfl rfl rfl rfl ?_; refine o_nil (r_then ?_); refine Imp.box_to b9 [i64 (B.spits.getD k default).sods, i64 (B.spits.getD k default).lo, i64 (B.spits.getD k default).hi] rfl ?_; have hsp := hg.2.2.2.1 k (by omega); have hs1 : (spD (B.spits.getD k default)).lo = (B.spits.getD k default).lo := rfl; have hs2 : (spD (B.spits.getD k default)).hi = (B.spits.getD k default).hi := rfl; have hlen : (costTo (drawT bys) k0 B (k)).length = k := costTo_len; refine r_region ?_; refine q_mv rfl rfl rfl rfl rfl ?_; refine q_mv rfl rfl rfl rfl rfl ?_; refine o_q _ rfl rfl rfl (v_fieldAddr rfl Tryz.underlying135 inf43 rfl rfl rfl rfl) ?_; refine o_q _ rfl rfl rfl (v_ldN rfl Tryz.underlying43 rfl inf43 rfl rfl rfl) ?_; refine o_fnc (draw1_c bys ba bc hu hbl ab bb (k0 + k) (spD (B.spits.getD k default)) (by omega) (by omega) (by omega) (by omega)) rfl [] [pt ab 0, pt bb 0] rfl rfl rfl rfl rfl rfl SubRC.sub ?_; refine o_lit rfl Tryz.underlying39 inf3 rfl rfl rfl rfl rfl rfl rfl rfl (by repeat (first | exact trivial | refine ⟨rfl, ?_⟩)) (by rfl) (fun b30 => ?_); refine o_app1 (drawT bys (k0 + k + 1) (spD (B.spits.getD k default))) rfl Tryz.underlying39 inf3 rfl (by rfl) (by rfl) rfl rfl rfl rfl rfl (by rfl) (by rfl) (by rfl) (by first | omega | (constructor <;> first | omega | decide)) (fun v31 => ?_); refine q_as rfl rfl rfl rfl rfl ?_; refine o_nil ?_; refine r_in_normal ?_; refine r_then ?_; refine r_region ?_; refine o_q _ rfl rfl rfl (v_add rfl rfl rfl (by omega)) ?_; refine q_mv rfl rfl rfl rfl rfl ?_; refine o_nil (r_then ?_); exact r_next ((k + 1, v31)) (by refine Imp.own_to v31 (costTo (drawT bys) k0 B (k + 1)) costTo_s ?_; exact r_here (by repeat (first | exact FSub.nil | refine FSub.cons rfl ?_)) SelMC.sel SubRC.sub) (by first | omega | (show _ + 1 ≤ _; omega)) (by first | omega | (show _ - (_ + 1) < _ - _; omega))
  ·
   refine r_exit ?_; refine r_then_exit ?_; refine r_then_exit ?_; refine r_in_here ?_; refine r_then (r_seq ?_); have hk9 : k = B.spits.length := (by omega); subst hk9; refine Imp.settleS v Sod2.encI_len (fun oc cc hc6 => ?_); subst hc6; refine Imp.nilL 3 1 Sod2.encI ?_; have hcb : ∀ k, k < (costD (drawT bys) k0 B).length → 1 ≤ (costD (drawT bys) k0 B).getD k default ∧ (costD (drawT bys) k0 B).getD k default ≤ 6 := fun k hk => cost_16 hf hg (by rw [costTo_len] at hk; exact hk)
   refine r_region ?_; refine q_as rfl rfl rfl rfl rfl ?_; refine o_nil (r_then (r_seq ?_)); refine r_seq (r_region ?_); refine o_q _ rfl rfl rfl (v_fieldAddr rfl Tryz.underlying62 inf59 rfl rfl rfl rfl) ?_; refine o_q _ rfl rfl rfl (v_ld1 rfl Tryz.underlying59 rfl rfl rfl) ?_; refine o_q _ rfl rfl rfl (v_len rfl rfl Tryz.underlying59 rfl) ?_; refine q_mv rfl rfl rfl rfl rfl ?_; refine o_nil (r_then ?_); refine r_block ?_; refine r_loop (ι := Nat × Value) (fun gh => gh.1 ≤ B.days.length) (fun gh => [(1, .func (.func 38) #[] #[pt ab 0, pt bb 0]), (2, pt b2 0), (4, pt b4 0), (5, i64 0), (6, .slice oc (costD (drawT bys) k0 B).length cc), (7, gh.2), (10, i64 (strD (drawT bys) k0 B gh.1)), (34, .slice so B.days.length sc), (35, i64 B.days.length), (36, i64 gh.1)]) (fun gh => ownL gh.2 3 1 Sod2.encI (daysTo (drawT bys) k0 B (gh.1)) :: bx ab 3 [i64 ((k0 + B.spits.length + gh.1 : Nat) : Int)] :: bx b2 62 (cellsS B po pc so sc lo lc) :: bx b4 62 [.slice po B.spits.length pc, .slice so B.days.length sc, .slice none 0 0] :: M) (fun gh => rowD oc 1 Sod2.encI (costD (drawT bys) k0 B) :: [rowD po 3 encSp B.spits, rowD so 2 encS B.days, rowD lo 3 encLg B.logs, boxF bb 31 [.slice ba bys.length bc], rowD ba 1 encU bys] ++ Rf) (fun gh => B.days.length - gh.1) (0, .slice none 0 0) ?_ ?_ ?_
   ·
    refine Imp.own_to (.slice none 0 0) (daysTo (drawT bys) k0 B (0)) rfl ?_; exact r_here (by repeat (first | exact FSub.nil | refine FSub.cons rfl ?_)) SelMC.sel SubRC.sub
   ·
    exact Nat.zero_le _
   ·
    rintro ⟨k, v⟩ hI1; dsimp only at hI1; dsimp only; refine r_seq (r_region ?_); refine o_q _ rfl rfl rfl (v_lss rfl rfl rfl) ?_; refine o_nil (r_then (r_seq ?_)); refine r_condd rfl (fun hc37 => ?_) (fun hc37 => ?_)
    ·
     refine r_skip (r_then ?_); refine r_seq (r_block ?_); refine r_seq (r_region ?_); refine o_q _ rfl rfl rfl (v_indexAddrSn rfl Tryz.underlying59 inf43 rfl rfl rfl (by omega) rfl) ?_; refine o_q _ rfl rfl rfl (v_loadEN rfl Tryz.underlying43 rfl inf43 rfl (by omega) rfl rfl rfl) ?_; refine o_alloc rfl inf43 rfl rfl rfl rfl rfl (fun b12 => ?_); refine o_st rfl inf43 rfl rfl rfl rfl rfl rfl rfl rfl ?_; refine o_nil (r_then (r_seq ?_)); refine Imp.box_to b12 [i64 (B.days.getD k default).lo, i64 (B.days.getD k default).hi] rfl ?_; have hsd := hg.2.2.2.2.1 k (by omega); have hdr := str_day (k0 := k0) hf hg (d := k) (by omega); have hst := str_bd (k0 := k0) hf hg k (by omega); have hst1 := str_bd (k0 := k0) hf hg (k + 1) (by omega); have hlen : (daysTo (drawT bys) k0 B (k)).length = k := daysTo_len; have hse : strD (drawT bys) k0 B (k + 1) = strD (drawT bys) k0 B k + drawT bys (k0 + B.spits.length + k + 1) (B.days.getD k default) := rfl; refine r_region ?_; refine q_mv rfl rfl rfl rfl rfl ?_; refine q_mv rfl rfl rfl rfl rfl ?_; refine o_q _ rfl rfl rfl (v_ldW rfl Tryz.underlying43 rfl inf43 rfl rfl) ?_; refine o_fnc (draw1_c bys ba bc hu hbl ab bb (k0 + B.spits.length + k) (B.days.getD k default) (by omega) (by omega) (by omega) (by omega)) rfl [] [pt ab 0, pt bb 0] rfl rfl rfl rfl rfl rfl SubRC.sub ?_; refine o_q _ rfl rfl rfl (v_cast (v := i64 (strD (drawT bys) k0 B (k + 1))) (v_add rfl rfl rfl (by omega)) rfl) ?_; refine q_as rfl rfl rfl rfl rfl ?_; refine o_nil (r_then ?_); refine r_region ?_; refine q_mv rfl rfl rfl rfl rfl ?_; refine q_mv rfl rfl rfl rfl rfl ?_; refine o_lit rfl Tryz.underlying39 inf3 rfl rfl rfl rfl rfl rfl rfl rfl (by repeat (first | exact trivial | refine ⟨rfl, ?_⟩)) (by rfl) (fun b47 => ?_); refine o_app1 (strD (drawT bys) k0 B (k + 1)) rfl Tryz.underlying39 inf3 rfl (by rfl) (by rfl) rfl rfl rfl rfl rfl (by rfl) (by rfl) (by rfl) (by first | omega | (constructor <;> first | omega | decide)) (fun v48 => ?_); refine q_as rfl rfl rfl rfl rfl ?_; refine o_nil ?_; refine r_in_normal ?_; refine r_then ?_; refine r_region ?_; refine o_q _ rfl rfl rfl (v_add rfl rfl rfl (by omega)) ?_; refine q_mv rfl rfl rfl rfl rfl ?_; refine o_nil (r_then ?_); exact r_next ((k + 1, v48)) (by refine Imp.own_to v48 (daysTo (drawT bys) k0 B (k + 1)) daysTo_s ?_; exact r_here (by repeat (first | exact FSub.nil | refine FSub.cons rfl ?_)) SelMC.sel SubRC.sub) (by first | omega | (show _ + 1 ≤ _; omega)) (by first | omega | (show _ - (_ + 1) < _ - _; omega))
    ·
     refine r_exit ?_; refine r_then_exit ?_; refine r_then_exit ?_; refine r_in_here ?_; refine r_then (r_seq ?_); refine r_seq ?_; have hk9 : k = B.days.length := (by omega); subst hk9; refine Imp.settleS v Sod2.encI_len (fun od cd hd7 => ?_); subst hd7; refine Imp.nilL 138 3 encLg ?_; refine r_region ?_; refine o_q _ rfl rfl rfl (v_fieldAddr rfl Tryz.underlying62 inf60 rfl rfl rfl rfl) ?_; refine o_q _ rfl rfl rfl (v_ld1 rfl Tryz.underlying60 rfl rfl rfl) ?_; refine o_q _ rfl rfl rfl (v_len rfl rfl Tryz.underlying60 rfl) ?_; refine q_mv rfl rfl rfl rfl rfl ?_; refine o_nil (r_then ?_); refine r_block ?_; refine r_loop (ι := Nat × Value) (fun gh => gh.1 ≤ B.logs.length) (fun gh => [(1, .func (.func 38) #[] #[pt ab 0, pt bb 0]), (2, pt b2 0), (4, pt b4 0), (5, i64 0), (6, .slice oc (costD (drawT bys) k0 B).length cc), (7, .slice od (daysTo (drawT bys) k0 B (B.days.length)).length cd), (10, i64 (strD (drawT bys) k0 B B.days.length)), (51, .slice lo B.logs.length lc), (52, i64 B.logs.length), (53, i64 gh.1)]) (fun gh => ownL gh.2 138 3 encLg (logsTo (drawT bys) k0 B (gh.1)) :: bx ab 3 [i64 ((k0 + B.spits.length + B.days.length : Nat) : Int)] :: bx b2 62 (cellsS B po pc so sc lo lc) :: bx b4 62 [.slice po B.spits.length pc, .slice so B.days.length sc, gh.2] :: M) (fun gh => rowD od 1 Sod2.encI (daysTo (drawT bys) k0 B (B.days.length)) :: rowD oc 1 Sod2.encI (costD (drawT bys) k0 B) :: [rowD po 3 encSp B.spits, rowD so 2 encS B.days, rowD lo 3 encLg B.logs, boxF bb 31 [.slice ba bys.length bc], rowD ba 1 encU bys] ++ Rf) (fun gh => B.logs.length - gh.1) (0, .slice none 0 0) ?_ ?_ ?_
     ·
      refine Imp.own_to (.slice none 0 0) (logsTo (drawT bys) k0 B (0)) rfl ?_; exact r_here (by repeat (first | exact FSub.nil | refine FSub.cons rfl ?_)) SelMC.sel SubRC.sub
     ·
      exact Nat.zero_le _
     ·
      rintro ⟨k, v⟩ hI2; dsimp only at hI2; dsimp only; refine r_seq (r_region ?_); refine o_q _ rfl rfl rfl (v_lss rfl rfl rfl) ?_; refine o_nil (r_then (r_seq ?_)); refine r_condd rfl (fun hc54 => ?_) (fun hc54 => ?_)
      ·
       refine r_skip (r_then ?_); refine r_seq (r_block ?_); refine r_seq (r_region ?_); refine o_q _ rfl rfl rfl (v_indexAddrSn rfl Tryz.underlying60 inf138 rfl rfl rfl (by omega) rfl) ?_; refine o_q _ rfl rfl rfl (v_loadEN rfl Tryz.underlying138 rfl inf138 rfl (by omega) rfl rfl rfl) ?_; refine o_alloc rfl inf138 rfl rfl rfl rfl rfl (fun b14 => ?_); refine o_st rfl inf138 rfl rfl rfl rfl rfl rfl rfl rfl ?_; refine o_nil (r_then (r_seq ?_)); refine Imp.box_to b14 [i64 (B.logs.getD k default).day, i64 (B.logs.getD k default).lo, i64 (B.logs.getD k default).hi] rfl ?_; have hlg := hg.2.2.2.2.2 k (by omega); have hlen : (logsTo (drawT bys) k0 B (k)).length = k := logsTo_len; have hdl : (daysTo (drawT bys) k0 B (B.days.length)).length = B.days.length := daysTo_len; have hcl : (costD (drawT bys) k0 B).length = B.spits.length := costTo_len; have hst := str_bd (k0 := k0) hf hg ((B.logs.getD k default).day.toNat + 1) (by omega); have hln := logN_bd (k0 := k0) hf hg (k := k) (by omega); refine r_region_q mixed (by kernel_rfl) ?_; refine q_q _ rfl rfl rfl (v_ldW rfl Tryz.underlying62 rfl inf62 rfl rfl) ?_; refine q_q _ rfl rfl rfl (v_move rfl rfl) ?_; refine q_q _ rfl rfl rfl (v_move rfl rfl) ?_; refine q_q _ rfl rfl rfl (v_fieldAddr rfl Tryz.underlying138 inf3 rfl rfl rfl rfl) ?_; refine q_q _ rfl rfl rfl (v_ld1 rfl Tryz.underlying3 rfl rfl rfl) ?_; refine q_q _ rfl rfl rfl (v_indexAddrS rfl Tryz.underlying39 inf3 rfl rfl rfl (by omega) (by omega) rfl) ?_; refine q_q _ rfl rfl rfl (v_cast (v := i64 (strD (drawT bys) k0 B ((B.logs.getD k default).day.toNat + 1))) (v_loadE1 rfl Tryz.underlying3 rfl rfl (by omega) rfl rfl) (by rw [daysTo_at (by omega)])) ?_; refine q_q _ rfl rfl rfl (v_cast (v := i64 (logN (drawT bys) k0 B (B.logs.getD k default))) (OpQ.fn (SodW.Sods_v B po so lo pc sc lc (costD (drawT bys) k0 B) oc cc (strD (drawT bys) k0 B ((B.logs.getD k default).day.toNat + 1)) hg costTo_len hcb (by omega)) rfl rfl SubRC.sub) rfl) ?_; refine q_q _ rfl rfl rfl (v_assign rfl rfl) ?_; refine q_nil ?_; refine r_then ?_; refine r_par' 12 mixed (by kernel_rfl) (by rfl) ?_; refine p_q _ rfl rfl rfl (fun _ _ => v_fieldAddr rfl Tryz.underlying62 inf60 rfl rfl rfl rfl) ?_; refine p_q _ rfl rfl rfl (fun _ _ => v_ld1 rfl Tryz.underlying60 rfl rfl rfl) ?_; refine p_q _ rfl rfl rfl (fun _ _ => v_fieldAddr rfl Tryz.underlying138 inf3 rfl rfl rfl rfl) ?_; refine p_q _ rfl rfl rfl (fun _ _ => v_ld1 rfl Tryz.underlying3 rfl rfl rfl) ?_; refine p_q _ rfl rfl rfl (fun _ _ => v_move rfl rfl) ?_; refine p_q _ rfl rfl rfl (fun _ _ => v_sub rfl rfl rfl (by omega)) ?_; refine p_q _ rfl rfl rfl (fun _ _ => v_max2 rfl rfl rfl) ?_; refine p_q _ rfl rfl rfl (fun _ _ => v_move rfl rfl) ?_; refine p_q _ rfl rfl rfl (fun _ _ => v_add rfl rfl rfl (by omega)) ?_; refine p_q _ rfl rfl rfl (fun _ _ => OpQ.fn (span04_v _ _) rfl rfl SubRC.sub) ?_
       refine p_q _ rfl rfl rfl (fun _ _ => v_bS rfl Tryz.underlying138 inf138 plt138 rfl rfl rfl (by repeat (first | exact trivial | refine ⟨rfl, ?_⟩)) (by rfl)) ?_; refine p_lit rfl Tryz.underlying60 inf138 rfl rfl rfl rfl rfl rfl rfl rfl (by repeat (first | exact trivial | refine ⟨rfl, ?_⟩)) (by rfl) ?_; refine p_nil2 (by simp only [List.nil_append, List.cons_append]; rfl) rfl ?_; (iterate 11 refine f_q rfl ?_); refine f_lit rfl (fun b76 => ?_); refine f_nil ?_; refine o_app1F (logX (drawT bys) k0 B (B.logs.getD k default)) rfl Tryz.underlying60 inf138 rfl (by rfl) (by rfl) rfl rfl rfl rfl rfl (by rfl) (by rfl) (by rfl) (by first | omega | (constructor <;> first | omega | decide)) (fun v77 => ?_); refine Imp.own_is v77 (fun hs77 => ?_); obtain ⟨oa77, cp77, rfl⟩ := hs77; refine o_q _ rfl rfl rfl (v_fieldAddr rfl Tryz.underlying62 inf60 rfl rfl rfl rfl) ?_; refine o_st rfl inf60 rfl rfl rfl rfl rfl rfl rfl rfl ?_; refine o_nil ?_; refine r_in_normal ?_; refine r_then ?_; refine r_region ?_; refine o_q _ rfl rfl rfl (v_add rfl rfl rfl (by omega)) ?_; refine q_mv rfl rfl rfl rfl rfl ?_; refine o_nil (r_then ?_); exact r_next ((k + 1, .slice oa77 ((logsTo (drawT bys) k0 B (k)) ++ [logX (drawT bys) k0 B (B.logs.getD k default)]).length cp77)) (by refine Imp.own_to (.slice oa77 ((logsTo (drawT bys) k0 B (k)) ++ [logX (drawT bys) k0 B (B.logs.getD k default)]).length cp77) (logsTo (drawT bys) k0 B (k + 1)) logsTo_s ?_; refine Imp.box_to b4 [.slice po B.spits.length pc, .slice so B.days.length sc, .slice oa77 ((logsTo (drawT bys) k0 B (k)) ++ [logX (drawT bys) k0 B (B.logs.getD k default)]).length cp77] rfl ?_; exact r_here (by repeat (first | exact FSub.nil | refine FSub.cons rfl ?_)) SelMC.sel SubRC.sub) (by first | omega | (show _ + 1 ≤ _; omega)) (by first | omega | (show _ - (_ + 1) < _ - _; omega))
      ·
       refine r_exit ?_; refine r_then_exit ?_; refine r_then_exit ?_; refine r_in_here ?_; refine r_then (r_seq ?_); have hk9 : k = B.logs.length := (by omega); subst hk9; refine Imp.own_is v (fun hsv => ?_); obtain ⟨oav, cpv, rfl⟩ := hsv; have hst := str_bd (k0 := k0) hf hg B.days.length (Nat.le_refl _); refine r_par' 5 mixed (by kernel_rfl) (by rfl) ?_; refine p_q _ rfl rfl rfl (fun _ _ => v_ldW rfl Tryz.underlying62 rfl inf62 rfl rfl) ?_; refine p_q _ rfl rfl rfl (fun _ _ => v_ldW rfl Tryz.underlying62 rfl inf62 rfl rfl) ?_; refine p_q _ rfl rfl rfl (fun _ _ => v_move rfl rfl) ?_; refine p_q _ rfl rfl rfl (fun _ _ => v_move rfl rfl) ?_; refine p_q _ rfl rfl rfl (fun _ _ => OpQ.fn (SodW.Sods_v B po so lo pc sc lc (costD (drawT bys) k0 B) oc cc (strD (drawT bys) k0 B B.days.length) hg costTo_len hcb (by omega)) rfl rfl SubRC.sub) ?_; refine p_nil2 (by simp only [List.nil_append, List.cons_append]; rfl) rfl ?_; (iterate 5 refine f_q rfl ?_); refine f_nil ?_; refine o_st rfl inf62 rfl rfl rfl rfl rfl rfl rfl rfl ?_; refine q_as rfl rfl rfl rfl rfl ?_; refine o_nil (r_then ?_); refine r_ret ?_; refine Imp.settleS (.slice oav (logsTo (drawT bys) k0 B (B.logs.length)).length cpv) encLg_len (fun ox cx hx7 => ?_)
       cases hx7
       exact r_rete [bx ab 3 [i64 ((k0 + B.spits.length + B.days.length : Nat) : Int)]] [rowD oav 3 encLg (bankX (drawT bys) k0 B).logs] (Rd.two rfl (RdI.cellW Tryz.underlying62 rfl inf62 rfl rfl) (RdI.tmp rfl)) ⟨(oav, cpv), rfl, trivial, rfl, rfl⟩ SelMC.sel SubRC.sub
end Go.Proofs.YtpndeonmmcaikaaGreat

namespace Go.Proofs.YtpndeonmmcaikaaGreat.BurstW
open Go.G Burst8
theorem nat8 {x : Int} (h : (Lit.int .u8 x).wf = true) : ∃ w : Nat, x = w ∧ w ≤ 255 := by
  have m1 : IntKind.u8.min = 0 := rfl
  have m2 : IntKind.u8.max = 255 := rfl
  simp only [Lit.wf, m1, m2, Bool.and_eq_true, decide_eq_true_eq] at h
  exact ⟨x.toNat, by omega, by omega⟩
def encH (n : Int) : List Value := [.int .u16 n]
set_option maxRecDepth 1000000
section
variable {H : Type} {en : TypeId × Value → H} {w : World} {base : Nat} {sp : Nat → Bool} {held : Bool} {fuel : Nat} {cs : List Value} {x : DataW H × List MemPlace}
theorem cells22 : Tryz.prog.cellsOf 63 = 1 := by kernel_rfl
theorem cells24 : Tryz.prog.cellsOf 43 = 2 := by kernel_rfl
theorem cells25 : Tryz.prog.cellsOf 59 = 1 := by kernel_rfl
theorem cells26 : Tryz.prog.cellsOf 64 = 1 := by kernel_rfl
theorem cells28 : Tryz.prog.cellsOf 66 = 6 := by kernel_rfl
theorem cells55 : Tryz.prog.cellsOf 142 = 3 := by kernel_rfl
theorem cells58 : Tryz.prog.cellsOf 75 = 4 := by kernel_rfl
theorem cellsI : Tryz.prog.cellsOf 3 = 1 := by kernel_rfl
theorem open3 (h : DataW.trod en Tryz.prog w base sp held fuel 3 cs = some x) : ∃ n, cs = [i64 n] ∧ (-9223372036854775808 ≤ n ∧ n ≤ 9223372036854775807) := by
  obtain ⟨n, h1, h2⟩ := open_i Tryz.underlying3 h
  refine ⟨n, h1, ?_⟩
  have m1 : IntKind.i64.min = -9223372036854775808 := rfl
  have m2 : IntKind.i64.max = 9223372036854775807 := rfl
  simp only [Lit.wf, m1, m2, Bool.and_eq_true, decide_eq_true_eq] at h2
  exact h2
theorem list2 {cs : List Value} (h : cs.length = 2) : ∃ a b, cs = [a, b] := by
  match cs, h with
  | [a, b], _ => exact ⟨a, b, rfl⟩
theorem list3 {cs : List Value} (h : cs.length = 3) : ∃ a b c, cs = [a, b, c] := by
  match cs, h with
  | [a, b, c], _ => exact ⟨a, b, c, rfl⟩
theorem list4 {cs : List Value} (h : cs.length = 4) : ∃ a b c d, cs = [a, b, c, d] := by
  match cs, h with
  | [a, b, c, d], _ => exact ⟨a, b, c, d, rfl⟩
theorem list6 {cs : List Value} (h : cs.length = 6) : ∃ a b c d e f, cs = [a, b, c, d, e, f] := by
  match cs, h with
  | [a, b, c, d, e, f], _ => exact ⟨a, b, c, d, e, f, rfl⟩
theorem open24 (h : DataW.trod en Tryz.prog w base sp held fuel 43 cs = some x) : ∃ s : Burst8.Span, cs = encS s ∧ True := by
  obtain ⟨a, b, rfl⟩ := list2 ((open_len Tryz.underlying43 h).trans cells24)
  obtain ⟨_, _, h0⟩ := open_field Tryz.underlying43 h 0 rfl cellsI
  obtain ⟨_, _, h1⟩ := open_field Tryz.underlying43 h 1 rfl cellsI
  obtain ⟨n, e0, _⟩ := open3 h0
  obtain ⟨m, e1, _⟩ := open3 h1
  have e0' : [a] = [i64 n] := e0
  have e1' : [b] = [i64 m] := e1
  cases e0'; cases e1'
  exact ⟨⟨n, m⟩, rfl, trivial⟩
theorem open58 (h : DataW.trod en Tryz.prog w base sp held fuel 75 cs = some x) : ∃ s : Burst8.Bank, cs = encB s ∧ True := by
  obtain ⟨a, b, c, d, rfl⟩ := list4 ((open_len Tryz.underlying75 h).trans cells58)
  obtain ⟨_, _, h0⟩ := open_field Tryz.underlying75 h 0 rfl cells24
  obtain ⟨_, _, h1⟩ := open_field Tryz.underlying75 h 1 rfl cells24
  obtain ⟨s, e0, _⟩ := open24 h0
  obtain ⟨t, e1, _⟩ := open24 h1
  have e0' : [a, b] = [i64 s.lo, i64 s.hi] := e0
  have e1' : [c, d] = [i64 t.lo, i64 t.hi] := e1
  cases e0'; cases e1'
  exact ⟨⟨s.lo, s.hi, t.lo, t.hi⟩, rfl, trivial⟩
theorem open55 (h : DataW.trod en Tryz.prog w base sp held fuel 142 cs = some x) : ∃ s : Burst8.Sign, cs = encG s ∧ True := by
  obtain ⟨a, b, c, rfl⟩ := list3 ((open_len Tryz.underlying142 h).trans cells55)
  obtain ⟨_, _, h0⟩ := open_field Tryz.underlying142 h 0 rfl cellsI
  obtain ⟨_, _, h1⟩ := open_field Tryz.underlying142 h 1 rfl cellsI
  obtain ⟨_, _, h2⟩ := open_field Tryz.underlying142 h 2 rfl cellsI
  obtain ⟨n, e0, _⟩ := open3 h0
  obtain ⟨m, e1, _⟩ := open3 h1
  obtain ⟨k, e2, _⟩ := open3 h2
  have e0' : [a] = [i64 n] := e0
  have e1' : [b] = [i64 m] := e1
  have e2' : [c] = [i64 k] := e2
  cases e0'; cases e1'; cases e2'
  exact ⟨⟨n, m, k⟩, rfl, trivial⟩
theorem open28 (h : DataW.trod en Tryz.prog w base sp held fuel 66 cs = some x) : ∃ B bo ro so bc rc sc, cs = cellsB B bo ro so bc rc sc ∧ rowD bo 4 encB B.banks (full w) ∧ rowD ro 2 encS B.rain (full w) ∧ rowD so 3 encG B.signs (full w) := by
  obtain ⟨a, b, c, d, e, f, rfl⟩ := list6 ((open_len Tryz.underlying66 h).trans cells28)
  obtain ⟨_, _, h0⟩ := open_field Tryz.underlying66 h 0 rfl cells22
  obtain ⟨_, _, h1⟩ := open_field Tryz.underlying66 h 1 rfl cells24
  obtain ⟨_, _, h2⟩ := open_field Tryz.underlying66 h 2 rfl cells25
  obtain ⟨_, _, h3⟩ := open_field Tryz.underlying66 h 3 rfl cellsI
  obtain ⟨_, _, h4⟩ := open_field Tryz.underlying66 h 4 rfl cells26
  obtain ⟨bo, bc, banks, e0, r0, _, _⟩ := open_rowD (fun _ : Burst8.Bank => True) Tryz.underlying63 cells58 (by omega) (fun _ _ _ h => open58 h) h0
  obtain ⟨wa, e1, _⟩ := open24 h1
  obtain ⟨ro, rc, rain, e2, r2, _, _⟩ := open_rowD (fun _ : Burst8.Span => True) Tryz.underlying59 cells24 (by omega) (fun _ _ _ h => open24 h) h2
  obtain ⟨dr, e3, _⟩ := open3 h3
  obtain ⟨so, sc, signs, e4, r4, _, _⟩ := open_rowD (fun _ : Burst8.Sign => True) Tryz.underlying64 cells55 (by omega) (fun _ _ _ h => open55 h) h4
  have e0' : [a] = [.slice bo banks.length bc] := e0
  have e1' : [b, c] = [i64 wa.lo, i64 wa.hi] := e1
  have e2' : [d] = [.slice ro rain.length rc] := e2
  have e3' : [e] = [i64 dr] := e3
  have e4' : [f] = [.slice so signs.length sc] := e4
  cases e0'; cases e1'; cases e2'; cases e3'; cases e4'
  exact ⟨⟨banks, wa.lo, wa.hi, rain, dr, signs⟩, bo, ro, so, bc, rc, sc, rfl, r0, r2, r4⟩
end
section
variable {H : Type} {en : TypeId × Value → H} {w : World} {base b0 : Nat} {r : Reach} {sp : Nat → Bool} {held : Bool} {v : Value} {d : DataW H} {ps : List MemPlace}
theorem agg_of {t : TypeId} {dd : TypeDesc} (hd : Tryz.prog.underlying t = some dd) (ha : aggD dd = true) (hv : Value.okWide Tryz.prog w r b0 t v) : ∃ cs : List Value, v = .agg cs.toArray := by
  unfold Value.okWide at hv
  rw [hd] at hv
  cases dd <;> simp [aggD] at ha
  all_goals
    obtain ⟨cs, rfl, _⟩ := hv
    exact ⟨cs.toList, by simp⟩
theorem get28 (hv : Value.okWide Tryz.prog w r b0 66 v) (h : DataW.Trod en Tryz.prog w base sp held 66 v d ps) : ∃ B bo ro so bc rc sc, v = valB B bo ro so bc rc sc ∧ rowD bo 4 encB B.banks (full w) ∧ rowD ro 2 encS B.rain (full w) ∧ rowD so 3 encG B.signs (full w) := by
  obtain ⟨cs, rfl⟩ := agg_of Tryz.underlying66 rfl hv
  obtain ⟨fuel, h⟩ := h
  obtain ⟨B, bo, ro, so, bc, rc, sc, e, h1, h2, h3⟩ := open28 (cs := cs) h
  subst e
  exact ⟨B, bo, ro, so, bc, rc, sc, rfl, h1, h2, h3⟩
end
end Go.Proofs.YtpndeonmmcaikaaGreat.BurstW

namespace Go.Proofs.YtpndeonmmcaikaaGreat.FootW
open Go.G Foot4
set_option maxRecDepth 1000000
section
variable {H : Type} {en : TypeId × Value → H} {w : World} {base : Nat} {sp : Nat → Bool} {held : Bool} {fuel : Nat} {cs : List Value} {x : DataW H × List MemPlace}
theorem cells31 : Tryz.prog.cellsOf 43 = 2 := by kernel_rfl
theorem cellsI : Tryz.prog.cellsOf 3 = 1 := by kernel_rfl
theorem open3 (h : DataW.trod en Tryz.prog w base sp held fuel 3 cs = some x) : ∃ n, cs = [i64 n] := by
  obtain ⟨n, h1, _⟩ := open_i Tryz.underlying3 h
  exact ⟨n, h1⟩
theorem list2 {cs : List Value} (h : cs.length = 2) : ∃ a b, cs = [a, b] := by
  match cs, h with
  | [a, b], _ => exact ⟨a, b, rfl⟩
theorem list3 {cs : List Value} (h : cs.length = 3) : ∃ a b c, cs = [a, b, c] := by
  match cs, h with
  | [a, b, c], _ => exact ⟨a, b, c, rfl⟩
theorem open31 (h : DataW.trod en Tryz.prog w base sp held fuel 43 cs = some x) : ∃ s : Span, cs = encS s ∧ True := by
  obtain ⟨a, b, rfl⟩ := list2 ((open_len Tryz.underlying43 h).trans cells31)
  obtain ⟨_, _, h0⟩ := open_field Tryz.underlying43 h 0 rfl cellsI
  obtain ⟨_, _, h1⟩ := open_field Tryz.underlying43 h 1 rfl cellsI
  obtain ⟨n, e0⟩ := open3 h0
  obtain ⟨m, e1⟩ := open3 h1
  have e0' : [a] = [i64 n] := e0
  have e1' : [b] = [i64 m] := e1
  cases e0'; cases e1'
  exact ⟨⟨n, m⟩, rfl, trivial⟩
end
section
variable {H : Type} {en : TypeId × Value → H} {w : World} {base b0 : Nat} {r : Reach} {sp : Nat → Bool} {held : Bool} {v : Value} {d : DataW H} {ps : List MemPlace}
theorem agg_of {t : TypeId} {dd : TypeDesc} (hd : Tryz.prog.underlying t = some dd) (ha : aggD dd = true) (hv : Value.okWide Tryz.prog w r b0 t v) : ∃ cs : List Value, v = .agg cs.toArray := by
  unfold Value.okWide at hv
  rw [hd] at hv
  cases dd <;> simp [aggD] at ha
  all_goals
    obtain ⟨cs, rfl, _⟩ := hv
    exact ⟨cs.toList, by simp⟩
end
theorem own0 : ownKnob Tryz.prog.godebug = none := by kernel_rfl
theorem monoR {W : World} {α : Type} {oa : Option Addr} {sz : Nat} {enc : α → List Value} {xs : List α} {R : List Fact} (h : rowD oa sz enc xs (full W)) (hR : ∀ φ ∈ R, Mono φ ∧ φ (full W)) : ∀ φ ∈ rowD oa sz enc xs :: R, Mono φ ∧ φ (full W) := by
  intro φ hφ
  rcases List.mem_cons.1 hφ with rfl | hφ
  · exact ⟨Mono.row _ _ _ _, h⟩
  · exact hR φ hφ
theorem mono0 {W : World} : ∀ φ ∈ ([] : List Fact), Mono φ ∧ φ (full W) := fun _ h => by cases h
end Go.Proofs.YtpndeonmmcaikaaGreat.FootW

namespace Go.Proofs.YtpndeonmmcaikaaGreat.FootW
open Go.G Foot4
theorem int16 {x : Int} (h : (Lit.int .u16 x).wf = true) : 0 ≤ x ∧ x ≤ 65535 := by
  have m1 : IntKind.u16.min = 0 := rfl
  have m2 : IntKind.u16.max = 65535 := rfl
  simp only [Lit.wf, m1, m2, Bool.and_eq_true, decide_eq_true_eq] at h
  exact h
set_option maxRecDepth 1000000
theorem cells49 : Tryz.prog.cellsOf 97 = 1 := by kernel_rfl
section
variable {H : Type} {en : TypeId × Value → H} {w : World} {base b0 : Nat} {r : Reach} {sp : Nat → Bool} {held : Bool} {v : Value} {d : DataW H} {ps : List MemPlace}
theorem get50 (hv : Value.okWide Tryz.prog w r b0 31 v) (h : DataW.Trod en Tryz.prog w base sp held 31 v d ps) : ∃ (ba : Option Addr) (bc : Nat) (bys : List Int), v = .slice ba bys.length bc ∧ rowD ba 1 encU bys (full w) ∧ U16s bys ∧ bys.length ≤ 9223372036854775807 := by
  obtain ⟨fuel, h⟩ := h
  obtain ⟨lo, lc, l, e, h1, h2, h3⟩ := open_rowD (enc := encU) (fun x : Int => 0 ≤ x ∧ x ≤ 65535) Tryz.underlying31 cells49 (by omega) (fun _ _ _ h => by
    obtain ⟨n, h1, h2⟩ := open_i Tryz.underlying97 h
    exact ⟨n, h1, int16 h2⟩) h
  refine ⟨lo, lc, l, ?_, h1, h2, h3⟩
  cases v <;> simp_all [Value.cells]
  unfold Value.okWide at hv
  rw [Tryz.underlying31] at hv
  simp [Cell.okWide, Cell.ok, Tryz.underlying31] at hv
end
end Go.Proofs.YtpndeonmmcaikaaGreat.FootW

namespace Sod2
open Go Go.G Foot4
structure BankA where
  B : Bank
  po : Option Addr
  so : Option Addr
  lo : Option Addr
  pc : Nat
  sc : Nat
  lc : Nat
instance : Inhabited BankA := ⟨⟨⟨[], [], []⟩, none, none, none, 0, 0, 0⟩⟩
def encA (x : BankA) : List Value := cellsS x.B x.po x.pc x.so x.sc x.lo x.lc
end Sod2

namespace Go.Proofs.YtpndeonmmcaikaaGreat.SodW
open Go.G Foot4 Sod2
set_option maxRecDepth 1000000
attribute [local irreducible] G.ParO G.Fin
section
variable {H : Type} {en : TypeId × Value → H} {w : World} {base : Nat} {sp : Nat → Bool} {held : Bool} {fuel : Nat} {cs : List Value} {x : DataW H × List MemPlace}
theorem cSl : Tryz.prog.cellsOf 58 = 1 := by kernel_rfl
theorem cDl : Tryz.prog.cellsOf 59 = 1 := by kernel_rfl
theorem cLl : Tryz.prog.cellsOf 60 = 1 := by kernel_rfl
theorem cS : Tryz.prog.cellsOf 43 = 2 := by kernel_rfl
theorem cI : Tryz.prog.cellsOf 3 = 1 := by kernel_rfl
theorem cSpit : Tryz.prog.cellsOf 135 = 3 := by kernel_rfl
theorem cLog : Tryz.prog.cellsOf 138 = 3 := by kernel_rfl
theorem cSod : Tryz.prog.cellsOf 62 = 3 := by kernel_rfl
theorem openSpit (h : DataW.trod en Tryz.prog w base sp held fuel 135 cs = some x) : ∃ s : Spit, cs = encSp s ∧ True := by
  obtain ⟨a, b, c, rfl⟩ := FootW.list3 ((open_len Tryz.underlying135 h).trans cSpit)
  obtain ⟨_, _, h0⟩ := open_field Tryz.underlying135 h 0 rfl cI
  obtain ⟨_, _, h1⟩ := open_field Tryz.underlying135 h 1 rfl cS
  obtain ⟨n, e1⟩ := FootW.open3 h0
  obtain ⟨s, e0, _⟩ := FootW.open31 h1
  have e0' : [b, c] = [i64 s.lo, i64 s.hi] := e0
  have e1' : [a] = [i64 n] := e1
  cases e0'; cases e1'
  exact ⟨⟨n, s.lo, s.hi⟩, rfl, trivial⟩
theorem openLog (h : DataW.trod en Tryz.prog w base sp held fuel 138 cs = some x) : ∃ s : LogS, cs = encLg s ∧ True := by
  obtain ⟨a, b, c, rfl⟩ := FootW.list3 ((open_len Tryz.underlying138 h).trans cLog)
  obtain ⟨_, _, h0⟩ := open_field Tryz.underlying138 h 0 rfl cI
  obtain ⟨_, _, h1⟩ := open_field Tryz.underlying138 h 1 rfl cS
  obtain ⟨n, e1⟩ := FootW.open3 h0
  obtain ⟨s, e0, _⟩ := FootW.open31 h1
  have e0' : [b, c] = [i64 s.lo, i64 s.hi] := e0
  have e1' : [a] = [i64 n] := e1
  cases e0'; cases e1'
  exact ⟨⟨n, s.lo, s.hi⟩, rfl, trivial⟩
def rowsOf (w : World) (x : BankA) : Prop := rowD x.po 3 encSp x.B.spits (full w) ∧ rowD x.so 2 encS x.B.days (full w) ∧ rowD x.lo 3 encLg x.B.logs (full w)
theorem openSod (h : DataW.trod en Tryz.prog w base sp held fuel 62 cs = some x) : ∃ s : BankA, cs = encA s ∧ rowsOf w s := by
  obtain ⟨a, b, c, rfl⟩ := FootW.list3 ((open_len Tryz.underlying62 h).trans cSod)
  obtain ⟨_, _, h0⟩ := open_field Tryz.underlying62 h 0 rfl cSl
  obtain ⟨_, _, h1⟩ := open_field Tryz.underlying62 h 1 rfl cDl
  obtain ⟨_, _, h2⟩ := open_field Tryz.underlying62 h 2 rfl cLl
  obtain ⟨po, pc, sp, e0, r0, _, _⟩ := open_rowD (fun _ : Spit => True) Tryz.underlying58 cSpit (by omega) (fun _ _ _ h => openSpit h) h0
  obtain ⟨so, sc, dy, e1, r1, _, _⟩ := open_rowD (fun _ : Span => True) Tryz.underlying59 cS (by omega) (fun _ _ _ h => FootW.open31 h) h1
  obtain ⟨lo, lc, lg, e2, r2, _, _⟩ := open_rowD (fun _ : LogS => True) Tryz.underlying60 cLog (by omega) (fun _ _ _ h => openLog h) h2
  have e0' : [a] = [.slice po sp.length pc] := e0
  have e1' : [b] = [.slice so dy.length sc] := e1
  have e2' : [c] = [.slice lo lg.length lc] := e2
  cases e0'; cases e1'; cases e2'
  exact ⟨⟨⟨sp, dy, lg⟩, po, so, lo, pc, sc, lc⟩, rfl, r0, r1, r2⟩
end
section
variable {H : Type} {en : TypeId × Value → H} {w : World} {base b0 : Nat} {r : Reach} {sp : Nat → Bool} {held : Bool} {v : Value} {d : DataW H} {ps : List MemPlace}
theorem getSod (hv : Value.okWide Tryz.prog w r b0 62 v) (h : DataW.Trod en Tryz.prog w base sp held 62 v d ps) : ∃ x : BankA, v = valS x.B x.po x.pc x.so x.sc x.lo x.lc ∧ rowsOf w x := by
  obtain ⟨cs, rfl⟩ := FootW.agg_of Tryz.underlying62 rfl hv
  obtain ⟨fuel, h⟩ := h
  obtain ⟨x, e, h1⟩ := openSod (cs := cs) h
  subst e
  exact ⟨x, rfl, h1⟩
end
end Go.Proofs.YtpndeonmmcaikaaGreat.SodW

namespace Go.Proofs.YtpndeonmmcaikaaGreat.CutW
open Go.G Burst8
set_option maxRecDepth 1000000
attribute [local irreducible] G.ParO G.Fin
open BurstW hiding adrAt v_bSp
@[reducible] def valB08 (bo ro : Option Addr) : Value := .agg #[.slice bo 2 2, i64 4, i64 6, .slice ro 2 2, i64 1, .slice none 0 0]
set_option maxHeartbeats 4000000 in
theorem ten_v (n : Int) (h0 : 0 ≤ n) (h : n ≤ 90) : FnV Tryz.prog 21 [i64 n] [] (i64 (tenI n)) := by
 refine FnV.intro Tryz.call21 Tryz.func21 rfl Tryz.ntmps21 rfl ?_; intro W M Rf; refine r_seq (r_region ?_); refine q_as rfl rfl rfl rfl rfl ?_; refine o_nil (r_then (r_seq (r_region ?_))); refine q_mv rfl rfl rfl rfl rfl ?_; refine o_q _ rfl rfl rfl (v_add rfl rfl rfl (by omega)) ?_; refine o_q _ rfl rfl rfl (v_cast (v := i64 (tenI n)) (v_quo rfl rfl rfl (by decide) (by have := ten_bd h0 h; unfold tenI at this; omega)) rfl) ?_; refine q_as rfl rfl rfl rfl rfl ?_; refine o_nil (r_then ?_); refine r_ret ?_; exact r_retv2 (Rd.tmp rfl rfl) rfl SelMC.sel SubRC.sub
set_option maxHeartbeats 4000000 in
theorem burst08_r  : FnR Tryz.prog 67 [] [] (fun v => ∃ bo ro, v = valB08 bo ro) (fun v => [rowD (adrAt v 0) 4 encB bN.banks, rowD (adrAt v 3) 2 encS bN.rain]) := by
 refine FnR.intro Tryz.call67 Tryz.func67 rfl Tryz.ntmps67 rfl ?_; intro W M Rf; refine r_seq (r_region ?_); refine o_alloc rfl inf66 rfl rfl rfl rfl rfl (fun b0 => ?_); refine o_nil (r_then (r_seq (r_region ?_))); refine o_q _ rfl rfl rfl (OpQ.fn (span04_v _ _) rfl rfl SubRC.sub) ?_; refine o_q _ rfl rfl rfl (OpQ.fn (span04_v _ _) rfl rfl SubRC.sub) ?_; refine o_q _ rfl rfl rfl (v_bS rfl Tryz.underlying75 inf75 plt75 rfl rfl rfl (by repeat (first | exact trivial | refine ⟨rfl, ?_⟩)) (by rfl)) ?_; refine o_q _ rfl rfl rfl (OpQ.fn (span04_v _ _) rfl rfl SubRC.sub) ?_; refine o_q _ rfl rfl rfl (OpQ.fn (span04_v _ _) rfl rfl SubRC.sub) ?_; refine o_q _ rfl rfl rfl (v_bS rfl Tryz.underlying75 inf75 plt75 rfl rfl rfl (by repeat (first | exact trivial | refine ⟨rfl, ?_⟩)) (by rfl)) ?_; refine o_lit rfl Tryz.underlying63 inf75 rfl rfl rfl rfl rfl rfl rfl rfl (by repeat (first | exact trivial | refine ⟨rfl, ?_⟩)) (by rfl) (fun b7 => ?_); (iterate 3 refine o_q _ rfl rfl rfl (OpQ.fn (span04_v _ _) rfl rfl SubRC.sub) ?_); refine o_lit rfl Tryz.underlying59 inf43 rfl rfl rfl rfl rfl rfl rfl rfl (by repeat (first | exact trivial | refine ⟨rfl, ?_⟩)) (by rfl) (fun b11 => ?_); refine o_q _ rfl rfl rfl (v_bSp rfl Tryz.underlying66 inf66 plt66 rfl rfl rfl (by repeat (first | exact trivial | refine ⟨rfl, ?_⟩)) (by show 5 ≤ 6; omega) (by rfl)) ?_; refine o_st rfl inf66 rfl rfl rfl rfl rfl rfl rfl rfl ?_; refine o_nil (r_then ?_); refine r_ret ?_; refine Imp.box_to b0 [.slice (some ⟨b7, 0, none⟩) 2 2, i64 4, i64 6, .slice (some ⟨b11, 0, none⟩) 2 2, i64 1, .slice none 0 0] rfl ?_; refine Imp.sealB b7 ?_; refine Imp.rowN (b := b7) bN.banks encB_len rfl ?_; refine Imp.sealB b11 ?_; refine Imp.rowN (b := b11) bN.rain encS_len rfl ?_; exact r_retr (Rd.one rfl (RdI.cellW Tryz.underlying66 rfl inf66 rfl rfl)) ⟨some ⟨b7, 0, none⟩, some ⟨b11, 0, none⟩, rfl⟩ SelMC.sel (by show SubR _ ([rowD (some ⟨b7, 0, none⟩) 4 encB bN.banks, rowD (some ⟨b11, 0, none⟩) 2 encS bN.rain] ++ _); exact SubRC.sub)
theorem o_burst08 {W : World} {n : Nat} {D : List Deferred} {L : Tm} {M : List Res} {R : List Fact} {Q : Exit → Act → World → Prop} {o : Oper} {ops : Array Oper} {rest : List Oper} {xs : List Operand} {ts : Array TypeId} {d : Nat} (ho : o.op = .call { callee := .value (.func 67), args := xs.toArray, argTypes := ts }) (hx : evs L xs = some []) (hg : o.guard = none) (hdst : o.dst = some d) (hd : Nat.blt d n = true)
    (hret : ∀ bo ro, Imp W n D ((d, valB08 bo ro) :: L) M (rowD bo 4 encB bN.banks :: rowD ro 2 encS bN.rain :: rowD none 3 encG ([] : List Sign) :: R) (wpList Tryz.prog ops Q rest)) : Imp W n D L M R (wpList Tryz.prog ops Q (o :: rest)) :=
  o_fn burst08_r ho hx hg hdst hd SubR.nil (fun v ⟨bo, ro, hv⟩ => by
    subst hv
    refine Imp.derive (ψ := rowD none 3 encG ([] : List Sign)) ?_ (fun V _ => .inl rfl)
    exact (hret bo ro).weak (fun _ _ h => h) SelM.refl (fun φ h => by
      simp only [List.mem_cons, List.mem_append, List.not_mem_nil, or_false] at h ⊢
      rcases h with h | h | h | h
      · exact .inr (.inl (.inl h))
      · exact .inr (.inl (.inr h))
      · exact .inl h
      · exact .inr (.inr h)))
theorem until08_v (bo ro : Option Addr) : FnV Tryz.prog 23 [valB08 bo ro] [rowD bo 4 encB bN.banks, rowD ro 2 encS bN.rain, rowD none 3 encG ([] : List Sign)] (.tuple #[i64 1, i64 0]) := smpU bo ro none 0
theorem spare08_v (bo ro : Option Addr) : FnV Tryz.prog 22 [valB08 bo ro, i64 1] [rowD bo 4 encB bN.banks, rowD ro 2 encS bN.rain, rowD none 3 encG ([] : List Sign)] (.tuple #[i64 4, i64 0]) := smpP bo ro none 0
set_option maxHeartbeats 4000000 in
theorem awake08_v  : FnV Tryz.prog 18 [] [] (.bool true) := by
 refine FnV.intro Tryz.call18 Tryz.func18 rfl Tryz.ntmps18 rfl ?_; intro W M Rf; refine r_seq (r_region ?_); refine q_as rfl rfl rfl rfl rfl ?_; refine o_nil (r_then (r_seq (r_region ?_))); refine o_burst08 rfl rfl rfl rfl rfl (fun bo ro => ?_)
 all_goals
  refine o_q _ rfl rfl rfl (OpQ.fn (until08_v bo ro) rfl rfl SubRC.sub) ?_; refine q_mv rfl rfl rfl rfl rfl ?_; refine o_q _ rfl rfl rfl (v_extract rfl rfl rfl) ?_; refine o_q _ rfl rfl rfl (v_extract rfl rfl rfl) ?_; refine q_as rfl rfl rfl rfl rfl ?_; refine q_as rfl rfl rfl rfl rfl ?_; refine o_nil (r_then (r_seq (r_region ?_))); refine o_burst08 rfl rfl rfl rfl rfl (fun bo2 ro2 => ?_)
  all_goals
   refine o_q _ rfl rfl rfl (OpQ.fn (spare08_v bo2 ro2) rfl rfl SubRC.sub) ?_; refine q_mv rfl rfl rfl rfl rfl ?_; refine o_q _ rfl rfl rfl (v_extract rfl rfl rfl) ?_; refine o_q _ rfl rfl rfl (v_extract rfl rfl rfl) ?_; refine q_as rfl rfl rfl rfl rfl ?_; refine q_as rfl rfl rfl rfl rfl ?_; refine o_nil (r_then (r_seq (r_region ?_))); refine q_mv rfl rfl rfl rfl rfl ?_; refine o_q _ rfl rfl rfl (v_true (v_eql rfl rfl rfl) (by omega)) ?_
   all_goals
    refine q_mv rfl rfl rfl rfl rfl ?_; refine o_g _ rfl rfl rfl rfl (v_move rfl rfl) ?_; refine o_g _ rfl rfl rfl rfl (v_true (v_eql rfl rfl rfl) (by omega)) ?_
    all_goals
     refine o_q _ rfl rfl rfl (v_pick_t rfl rfl rfl) ?_; refine q_mv rfl rfl rfl rfl rfl ?_; refine o_g _ rfl rfl rfl rfl (v_move rfl rfl) ?_; refine o_g _ rfl rfl rfl rfl (v_true (v_eql rfl rfl rfl) (by omega)) ?_
     all_goals
      refine o_q _ rfl rfl rfl (v_pick_t rfl rfl rfl) ?_; refine q_mv rfl rfl rfl rfl rfl ?_; refine o_g _ rfl rfl rfl rfl (v_move rfl rfl) ?_; refine o_g _ rfl rfl rfl rfl (v_true (v_eql rfl rfl rfl) (by omega)) ?_
      all_goals
       refine o_q _ rfl rfl rfl (v_pick_t rfl rfl rfl) ?_; refine q_mv rfl rfl rfl rfl rfl ?_; refine o_g _ rfl rfl rfl rfl (OpQ.fn awake04_v rfl rfl SubRC.sub) ?_; refine o_q _ rfl rfl rfl (v_pick_t rfl rfl rfl) ?_; refine q_as rfl rfl rfl rfl rfl ?_; refine o_nil (r_then ?_); refine r_ret ?_; exact r_retv2 (Rd.tmp rfl rfl) rfl SelMC.sel SubRC.sub
end Go.Proofs.YtpndeonmmcaikaaGreat.CutW

namespace Go.G
section
variable {P : Program} {W : World} {n : Nat} {D : List Deferred} {L : Tm} {M : List Res} {R : List Fact} {Q : Exit → Act → World → Prop} {o : Oper}
end
end Go.G

namespace Go.Proofs.YtpndeonmmcaikaaGreat.CutW
open Go.G Burst8
set_option maxRecDepth 1000000
attribute [local irreducible] G.ParO G.Fin
open BurstW hiding adrAt v_bSp
theorem v_max6 {P : Program} {W : World} {n : Nat} {L : Tm} {M : List Res} {R : List Fact} {o : Oper} {x1 x2 x3 x4 x5 x6 : Operand} {k : IntKind} {a b c d e f : Int} {ts : Array TypeId} (ho : o.op = .call { callee := .builtin .max, args := #[x1, x2, x3, x4, x5, x6], argTypes := ts }) (h1 : ev L x1 = some (.int k a)) (h2 : ev L x2 = some (.int k b)) (h3 : ev L x3 = some (.int k c)) (h4 : ev L x4 = some (.int k d)) (h5 : ev L x5 = some (.int k e)) (h6 : ev L x6 = some (.int k f)) : OpQ P W n L M R o (.int k (max (max (max (max (max a b) c) d) e) f)) :=
  OpQ.of_value fun g w hh _ => by
    have hm : ∀ a b : Int, (if a < b then b else a) = max a b := fun a b => by split <;> omega
    simp [execOp, ho, resolve, invoke, builtin, hh.ev h1, hh.ev h2, hh.ev h3, hh.ev h4, hh.ev h5, hh.ev h6, Builtin.max_, Builtin.max2, hm]
theorem tmodE {a b m : Nat} {c : Int} (e : a % b = m) (h : c = (b : Int)) : Value.int .i64 ((a : Int).tmod c) = i64 (m : Int) := by subst e; subst h; exact congrArg (Value.int .i64) G.tmod_nat
attribute [local irreducible] leastN mnT yB wT kT fw fwR fwC emptyT tabOf knownT canB boundsL marginT Sod2.cutP Sod2.sodsOf Sod2.strD
theorem movesY_v (B : Bog) (p : Nat) (NN : Foot4.Span) (hg : GoodB B) (hy : GoodB (yB B p (tenI NN.lo) (tenI NN.hi))) (hp : p < B.banks.length) (hc : canB (yB B p (tenI NN.lo) (tenI NN.hi)) (allS (yB B p (tenI NN.lo) (tenI NN.hi))) 0 false = true) (yo ro : Option Addr) (yc rc d : Nat) (hd : d ≤ B.rain.length) : FnV Tryz.prog 24 [valB (yB B p (tenI NN.lo) (tenI NN.hi)) yo ro none yc rc 0, i64 (d : Int)] [rowD yo 4 encB (yB B p (tenI NN.lo) (tenI NN.hi)).banks, rowD ro 2 encS (yB B p (tenI NN.lo) (tenI NN.hi)).rain, rowD none 3 encG (yB B p (tenI NN.lo) (tenI NN.hi)).signs] (.tuple #[i64 ((mvTo (sureB (yB B p (tenI NN.lo) (tenI NN.hi)) d) B.banks.length : Nat) : Int), i64 ((mvTo (someB (yB B p (tenI NN.lo) (tenI NN.hi)) d) B.banks.length : Nat) : Int), i64 0]) := by
  have hb1 := hg.nb; have hb2 := hg.nr
  obtain ⟨e1, e2, e3⟩ := y_lens B p (tenI NN.lo) (tenI NN.hi)
  have h := moves_v (yB B p (tenI NN.lo) (tenI NN.hi)) yo ro none yc rc 0 (d : Int) (by omega) (by omega) (by omega)
  unfold movesB at h
  rw [ansB_0 (chkB_0 hy (decide_eq_true (by omega)) hc), Int.toNat_natCast, e1] at h
  exact h
theorem marginY_v (B : Bog) (p : Nat) (NN : Foot4.Span) (hg : GoodB B) (hy : GoodB (yB B p (tenI NN.lo) (tenI NN.hi))) (hp : p < B.banks.length) (hc : canB (yB B p (tenI NN.lo) (tenI NN.hi)) (allS (yB B p (tenI NN.lo) (tenI NN.hi))) 0 false = true) (yo ro : Option Addr) (yc rc d : Nat) (f1 : Int) (hd : d ≤ B.rain.length) (h0 : 0 ≤ f1) (h1 : f1 < (B.banks.length : Int)) : FnV Tryz.prog 26 [valB (yB B p (tenI NN.lo) (tenI NN.hi)) yo ro none yc rc 0, i64 f1, i64 (d : Int)] [rowD yo 4 encB (yB B p (tenI NN.lo) (tenI NN.hi)).banks, rowD ro 2 encS (yB B p (tenI NN.lo) (tenI NN.hi)).rain, rowD none 3 encG (yB B p (tenI NN.lo) (tenI NN.hi)).signs] (.tuple #[vS (marginT (tB (yB B p (tenI NN.lo) (tenI NN.hi))) f1.toNat d), i64 0]) := by
  have hb1 := hg.nb; have hb2 := hg.nr
  obtain ⟨e1, e2, e3⟩ := y_lens B p (tenI NN.lo) (tenI NN.hi)
  have h := Margin_v (yB B p (tenI NN.lo) (tenI NN.hi)) yo ro none yc rc 0 f1 (d : Int) (by omega) (by omega) (by omega)
  unfold marginB at h
  rw [ansB_0 (chkB_0 hy (decide_eq_true (by omega)) hc), Int.toNat_natCast] at h
  exact h
theorem firstY_v (B : Bog) (p : Nat) (NN : Foot4.Span) (hg : GoodB B) (hy : GoodB (yB B p (tenI NN.lo) (tenI NN.hi))) (hp : p < B.banks.length) (hc : canB (yB B p (tenI NN.lo) (tenI NN.hi)) (allS (yB B p (tenI NN.lo) (tenI NN.hi))) 0 false = true) (yo ro : Option Addr) (yc rc : Nat) : FnV Tryz.prog 25 [valB (yB B p (tenI NN.lo) (tenI NN.hi)) yo ro none yc rc 0, i64 (B.rain.length : Int)] [rowD yo 4 encB (yB B p (tenI NN.lo) (tenI NN.hi)).banks, rowD ro 2 encS (yB B p (tenI NN.lo) (tenI NN.hi)).rain, rowD none 3 encG (yB B p (tenI NN.lo) (tenI NN.hi)).signs] (.tuple #[i64 (firstB (yB B p (tenI NN.lo) (tenI NN.hi)) (B.rain.length : Int)).1, i64 (firstB (yB B p (tenI NN.lo) (tenI NN.hi)) (B.rain.length : Int)).2]) := by
  have hb1 := hg.nb; have hb2 := hg.nr
  obtain ⟨e1, e2, e3⟩ := y_lens B p (tenI NN.lo) (tenI NN.hi)
  exact First_v (yB B p (tenI NN.lo) (tenI NN.hi)) yo ro none yc rc 0 (B.rain.length : Int) (by omega) (by omega) (by omega)
theorem untilY_v (B : Bog) (p : Nat) (NN : Foot4.Span) (hg : GoodB B) (hy : GoodB (yB B p (tenI NN.lo) (tenI NN.hi))) (hp : p < B.banks.length) (hc : canB (yB B p (tenI NN.lo) (tenI NN.hi)) (allS (yB B p (tenI NN.lo) (tenI NN.hi))) 0 false = true) (yo ro : Option Addr) (yc rc : Nat) : FnV Tryz.prog 23 [valB (yB B p (tenI NN.lo) (tenI NN.hi)) yo ro none yc rc 0] [rowD yo 4 encB (yB B p (tenI NN.lo) (tenI NN.hi)).banks, rowD ro 2 encS (yB B p (tenI NN.lo) (tenI NN.hi)).rain, rowD none 3 encG (yB B p (tenI NN.lo) (tenI NN.hi)).signs] (.tuple #[i64 (untilB (yB B p (tenI NN.lo) (tenI NN.hi))).1, i64 (untilB (yB B p (tenI NN.lo) (tenI NN.hi))).2]) := by
  have hb1 := hg.nb; have hb2 := hg.nr
  obtain ⟨e1, e2, e3⟩ := y_lens B p (tenI NN.lo) (tenI NN.hi)
  exact until_v (yB B p (tenI NN.lo) (tenI NN.hi)) yo ro none yc rc 0 (by omega) (by omega) (by omega)
theorem spareO_v (B : Bog) (p : Nat) (hg : GoodB B) (bo ro : Option Addr) (bc rc : Nat) : FnV Tryz.prog 22 [valB (oB B) bo ro none bc rc 0, i64 (p : Int)] [rowD bo 4 encB B.banks, rowD ro 2 encS B.rain, rowD none 3 encG ([] : List Sign)] (.tuple #[i64 (spareB (oB B) (p : Int)).1, i64 (spareB (oB B) (p : Int)).2]) := by
  have hb1 := hg.nb; have hb2 := hg.nr
  exact spare_v (oB B) bo ro none bc rc 0 (p : Int) (by show B.banks.length ≤ 40; omega) (by show B.rain.length ≤ 40; omega) (by show 0 ≤ 40; omega)
variable (S : Sod2.Bank) (po so lo : Option Addr) (pc sc lc : Nat) (B : Bog) (bo ro go : Option Addr) (bc rc gc : Nat)
set_option maxHeartbeats 4000000 in
theorem cutT_v (bys : List Int) (ba : Option Addr) (uc : Nat) (hu : Foot4.U16s bys) (hbl : bys.length ≤ 9223372036854775807) (w0 p : Nat) (b0 : w0 ≤ 255) (hbk : w0 % B.banks.length = p) : FnV Tryz.prog 4 [Sod2.valS S po pc so sc lo lc, valB B bo ro go bc rc gc, .int .u8 w0, .slice ba bys.length uc] [rowD po 3 Sod2.encSp S.spits, rowD so 2 Foot4.encS S.days, rowD lo 3 Sod2.encLg S.logs, rowD bo 4 encB B.banks, rowD ro 2 encS B.rain, rowD go 3 encG B.signs, rowD ba 1 Foot4.encU bys] (.bool true) := by
 refine FnV.intro Tryz.call4 Tryz.func4 rfl Tryz.ntmps4 rfl ?_; intro W M Rf; refine r_seq (r_region ?_); refine o_boxA rfl rfl rfl rfl rfl (fun b4 => ?_); refine o_boxA rfl rfl rfl rfl rfl (fun b5 => ?_); refine q_as rfl rfl rfl rfl rfl ?_; refine o_nil (r_then (r_seq ?_)); refine r_seq (r_region ?_); refine o_q _ rfl rfl rfl (v_fieldAddr rfl Tryz.underlying62 inf58 rfl rfl rfl rfl) ?_; refine o_q _ rfl rfl rfl (v_ld1 rfl Tryz.underlying58 rfl rfl rfl) ?_; refine o_q _ rfl rfl rfl (v_len rfl rfl Tryz.underlying58 rfl) ?_; refine o_q _ rfl rfl rfl (v_fieldAddr rfl Tryz.underlying62 inf59 rfl rfl rfl rfl) ?_; refine o_q _ rfl rfl rfl (v_ld1 rfl Tryz.underlying59 rfl rfl rfl) ?_; refine o_q _ rfl rfl rfl (v_len rfl rfl Tryz.underlying59 rfl) ?_; refine o_q _ rfl rfl rfl (v_fieldAddr rfl Tryz.underlying62 inf60 rfl rfl rfl rfl) ?_; refine o_q _ rfl rfl rfl (v_ld1 rfl Tryz.underlying60 rfl rfl rfl) ?_; refine o_q _ rfl rfl rfl (v_len rfl rfl Tryz.underlying60 rfl) ?_; refine o_q _ rfl rfl rfl (v_fieldAddr rfl Tryz.underlying66 inf63 rfl rfl rfl rfl) ?_; refine o_q _ rfl rfl rfl (v_ld1 rfl Tryz.underlying63 rfl rfl rfl) ?_; refine o_q _ rfl rfl rfl (v_len rfl rfl Tryz.underlying63 rfl) ?_; refine o_q _ rfl rfl rfl (v_fieldAddr rfl Tryz.underlying66 inf59 rfl rfl rfl rfl) ?_; refine o_q _ rfl rfl rfl (v_ld1 rfl Tryz.underlying59 rfl rfl rfl) ?_; refine o_q _ rfl rfl rfl (v_len rfl rfl Tryz.underlying59 rfl) ?_; refine o_q _ rfl rfl rfl (v_fieldAddr rfl Tryz.underlying66 inf64 rfl rfl rfl rfl) ?_; refine o_q _ rfl rfl rfl (v_ld1 rfl Tryz.underlying64 rfl rfl rfl) ?_; refine o_q _ rfl rfl rfl (v_len rfl rfl Tryz.underlying64 rfl) ?_; refine o_q _ rfl rfl rfl (v_max6 rfl rfl rfl rfl rfl rfl rfl) ?_; refine o_test rfl rfl rfl (v_gtr rfl rfl rfl) (fun h59 => ?_) (fun h59 => ?_)
 all_goals
  refine q_mv rfl rfl rfl rfl rfl ?_
  first | refine o_gn rfl rfl rfl rfl ?_ | refine o_g _ rfl rfl rfl rfl (v_ldW rfl Tryz.underlying62 rfl inf62 rfl rfl) ?_
  first | refine o_gn rfl rfl rfl rfl ?_ | refine o_gtest rfl rfl rfl rfl (OpQ.fn (SodW.Sod_v S po so lo pc sc lc (by omega) (by omega) (by omega)) rfl rfl SubRC.sub) (fun h62 => ?_) (fun h62 => ?_)
  all_goals
   first | refine o_gn rfl rfl rfl rfl ?_ | refine o_g _ rfl rfl rfl rfl (v_not rfl rfl) ?_
   first | refine o_q _ rfl rfl rfl (v_pick_t rfl rfl rfl) ?_ | refine o_q _ rfl rfl rfl (v_pick_f rfl rfl rfl) ?_
   refine q_mv rfl rfl rfl rfl rfl ?_
   first | refine o_gn rfl rfl rfl rfl ?_ | refine o_g _ rfl rfl rfl rfl (v_ldW rfl Tryz.underlying66 rfl inf66 rfl rfl) ?_
   first | refine o_gn rfl rfl rfl rfl ?_ | refine o_gtest rfl rfl rfl rfl (OpQ.fn (Burst_v B bo ro go bc rc gc (by omega) (by omega) (by omega)) rfl rfl SubRC.sub) (fun h67 => ?_) (fun h67 => ?_)
   all_goals
    first | refine o_gn rfl rfl rfl rfl ?_ | refine o_g _ rfl rfl rfl rfl (v_not rfl rfl) ?_
    first | refine o_q _ rfl rfl rfl (v_pick_t rfl rfl rfl) ?_ | refine o_q _ rfl rfl rfl (v_pick_f rfl rfl rfl) ?_
    refine o_nil (r_then ?_); refine r_cond rfl (fun hc69 => ?_) (fun hc69 => ?_)
    ·
     first
     | (exfalso; revert hc69; decide)
     |
      skip
      refine r_seq (r_region ?_); refine o_q _ rfl rfl rfl (OpQ.fn awake08_v rfl rfl SubRC.sub) ?_; refine q_as rfl rfl rfl rfl rfl ?_; refine o_nil (r_then ?_); refine r_ret ?_; (with_reducible refine r_then_ret ?_); exact r_retv2 (Rd.tmp rfl rfl) rfl SelMC.sel SubRC.sub
    ·
     first
     | (exfalso; revert hc69; decide)
     |
      skip
      refine r_skip (r_then ?_); refine r_seq ?_; have hgs : Sod2.GoodS S := by assumption
      have hg : GoodB B := by assumption
      have hq1 := hgs.1; have hq2 := hgs.2.1; have hb1 := hg.nb; have hb2 := hg.nr; have hb3 := hg.w; have hb4 := hg.dr; have hf : Sod2.InD (Sod2.drawT bys) := Sod2.drawT_in hu; refine r_region ?_; refine q_mv rfl rfl rfl rfl rfl ?_; refine SodW.o_fnN (draws_s bys ba uc) rfl rfl rfl rfl rfl SubRC.sub (fun x72 _ => ?_)
      all_goals
       refine q_as rfl rfl rfl rfl rfl ?_; refine o_nil (r_then (r_seq (r_region ?_))); refine o_q _ rfl rfl rfl (v_ldW rfl Tryz.underlying62 rfl inf62 rfl rfl) ?_; refine q_mv rfl rfl rfl rfl rfl ?_; refine o_fnX (cut04_s S po so lo pc sc lc bys ba uc hu hbl x72.1 x72.2 0 hgs (by omega)) rfl rfl rfl rfl rfl SubRC.sub (fun x76 _ => ?_); refine q_mv rfl rfl rfl rfl rfl ?_; refine o_q _ rfl rfl rfl (v_extract rfl rfl rfl) ?_; refine o_q _ rfl rfl rfl (v_extract rfl rfl rfl) ?_; refine o_alloc rfl inf62 rfl rfl rfl rfl rfl (fun b10 => ?_); refine o_st rfl inf62 rfl rfl rfl rfl rfl rfl rfl rfl ?_; refine q_as rfl rfl rfl rfl rfl ?_; refine o_nil (r_then (r_seq ?_)); refine Imp.box_to b10 (Sod2.cellsS (Sod2.bankX (Sod2.drawT bys) 0 S) po pc so sc x76.1 x76.2) rfl ?_; have hsx := Sod2.sods_X (k0 := 0) hf hgs; have hgx := Sod2.good_X (k0 := 0) hf hgs; have hcb := Sod2.cutP_bd hgx hsx.1 (d := S.days.length - 1) (by show _ < S.days.length; omega); have hcn := hsx.1; have hss := hsx.2; clear hsx; obtain ⟨sd, hsd⟩ : ∃ sd, (Sod2.sodsOf S (Sod2.cD (Sod2.drawT bys) 0 S) (Sod2.strD (Sod2.drawT bys) 0 S S.days.length)) = sd := ⟨_, rfl⟩; rw [hsd] at hss ⊢; obtain ⟨NN, hNN⟩ : ∃ NN, Sod2.cutP (Sod2.bankX (Sod2.drawT bys) 0 S) (S.days.length - 1) = NN := ⟨_, rfl⟩; rw [hNN] at hss hcb; have hp1 := ten_bd (a := NN.lo) hcb.1 (by omega); have hp2 := ten_bd (a := NN.hi) (by omega) hcb.2.2; have hp3 := ten_le (a := NN.lo) (b := NN.hi) hcb.1 hcb.2.1; have hp4 := ten_le (a := NN.lo) (b := sd) hcb.1 hss.1; have hp5 := ten_le (a := sd) (b := NN.hi) (by omega) hss.2; refine r_region ?_; refine o_q _ rfl rfl rfl (v_ldW rfl Tryz.underlying62 rfl inf62 rfl rfl) ?_; refine o_q _ rfl rfl rfl (v_fieldAddr rfl Tryz.underlying62 inf59 rfl rfl rfl rfl) ?_; refine o_q _ rfl rfl rfl (v_ld1 rfl Tryz.underlying59 rfl rfl rfl) ?_; refine o_q _ rfl rfl rfl (v_len rfl rfl Tryz.underlying59 rfl) ?_; refine o_q _ rfl rfl rfl (v_cast (v := i64 ((S.days.length - 1 : Nat) : Int)) (v_sub rfl rfl rfl (by omega)) (congrArg (Value.int .i64) (by omega))) ?_; refine o_q _ rfl rfl rfl (v_cast (v := .tuple #[.agg #[i64 NN.lo, i64 NN.hi], i64 0]) (OpQ.fn (SodW.Cut_v (Sod2.bankX (Sod2.drawT bys) 0 S) po so x76.1 pc sc x76.2 (S.days.length - 1) hgx hcn (by show _ < S.days.length; omega)) rfl rfl SubRC.sub) (by rw [hNN])) ?_; refine q_mv rfl rfl rfl rfl rfl ?_; refine o_q _ rfl rfl rfl (v_extract rfl rfl rfl) ?_; refine o_q _ rfl rfl rfl (v_extract rfl rfl rfl) ?_; refine o_alloc rfl inf43 rfl rfl rfl rfl rfl (fun b12 => ?_); refine o_st rfl inf43 rfl rfl rfl rfl rfl rfl rfl rfl ?_; refine q_as rfl rfl rfl rfl rfl ?_; refine o_nil (r_then (r_seq ?_)); refine r_seq ?_; refine Imp.box_to b12 [i64 NN.lo, i64 NN.hi] rfl ?_; refine r_region ?_; refine q_mv rfl rfl rfl rfl rfl ?_; refine o_q _ rfl rfl rfl (v_false (v_neq rfl rfl rfl) (by omega)) ?_
       all_goals
        refine q_mv rfl rfl rfl rfl rfl ?_; refine o_g _ rfl rfl rfl rfl (v_move rfl rfl) ?_; refine o_g _ rfl rfl rfl rfl (v_fieldAddr rfl Tryz.underlying43 inf3 rfl rfl rfl rfl) ?_; refine o_g _ rfl rfl rfl rfl (v_ld1 rfl Tryz.underlying3 rfl rfl rfl) ?_; refine o_g _ rfl rfl rfl rfl (v_false (v_lss rfl rfl rfl) (by omega)) ?_
        all_goals
         refine o_q _ rfl rfl rfl (v_pick_f rfl rfl rfl) ?_; refine q_mv rfl rfl rfl rfl rfl ?_; refine o_g _ rfl rfl rfl rfl (v_move rfl rfl) ?_; refine o_g _ rfl rfl rfl rfl (v_fieldAddr rfl Tryz.underlying43 inf3 rfl rfl rfl rfl) ?_; refine o_g _ rfl rfl rfl rfl (v_ld1 rfl Tryz.underlying3 rfl rfl rfl) ?_; refine o_g _ rfl rfl rfl rfl (v_false (v_gtr rfl rfl rfl) (by omega)) ?_
         all_goals
          refine o_q _ rfl rfl rfl (v_pick_f rfl rfl rfl) ?_; refine o_nil (r_then ?_); refine r_cond rfl (fun hc101 => ?_) (fun hc101 => ?_)
          ·
           (exfalso; revert hc101; decide)
          ·
           refine r_skip (r_then (r_seq (r_region ?_))); refine q_mv rfl rfl rfl rfl rfl ?_; refine o_q _ rfl rfl rfl (v_conv rfl Tryz.underlying5 Tryz.underlying3 rfl (IntWalk.i64_in _ (by omega))) ?_; refine o_q _ rfl rfl rfl (v_fieldAddr rfl Tryz.underlying66 inf63 rfl rfl rfl rfl) ?_; refine o_q _ rfl rfl rfl (v_ld1 rfl Tryz.underlying63 rfl rfl rfl) ?_; refine o_q _ rfl rfl rfl (v_len rfl rfl Tryz.underlying63 rfl) ?_; refine o_q _ rfl rfl rfl (v_cast (v := i64 (p : Nat)) (v_rem rfl rfl rfl (by omega)) (tmodE hbk (by omega))) ?_; refine q_as rfl rfl rfl rfl rfl ?_; refine o_nil (r_then (r_seq ?_)); have hp : p < B.banks.length := by rw [← hbk]; exact Nat.mod_lt _ (by omega)
           obtain ⟨hk1, hk2⟩ := hg.banks p hp; refine r_region ?_; refine o_q _ rfl rfl rfl (v_ldW rfl Tryz.underlying66 rfl inf66 rfl rfl) ?_; refine o_alloc rfl inf66 rfl rfl rfl rfl rfl (fun b15 => ?_); refine o_st rfl inf66 rfl rfl rfl rfl rfl rfl rfl rfl ?_; refine o_nil (r_then (r_seq (r_region ?_))); refine o_q _ rfl rfl rfl (v_fieldAddr rfl Tryz.underlying66 inf64 rfl rfl rfl rfl) ?_; refine o_st rfl inf64 rfl rfl rfl rfl rfl rfl rfl rfl ?_; refine o_nil (r_then (r_seq ?_)); refine Imp.box_to b15 (cellsB (oB B) bo ro none bc rc 0) rfl ?_; refine r_region ?_; refine o_q _ rfl rfl rfl (v_ldW rfl Tryz.underlying66 rfl inf66 rfl rfl) ?_; refine o_alloc rfl inf66 rfl rfl rfl rfl rfl (fun b16 => ?_); refine o_st rfl inf66 rfl rfl rfl rfl rfl rfl rfl rfl ?_; refine o_nil (r_then (r_seq (r_region ?_))); refine o_lit0' rfl Tryz.underlying63 inf75 rfl rfl rfl (fun b111 => ?_); refine o_q _ rfl rfl rfl (v_fieldAddr rfl Tryz.underlying66 inf63 rfl rfl rfl rfl) ?_; refine o_q _ rfl rfl rfl (v_ld1 rfl Tryz.underlying63 rfl rfl rfl) ?_; refine o_appN (sz := 4) rfl Tryz.underlying63 inf75 rfl rfl rfl encB_len rfl rfl rfl rfl rfl ⟨by omega, by decide⟩ (fun v114 => ?_); refine Imp.openZ (T := 75) (sz := 4) (enc := encB) (xs := B.banks) v114 (by omega) (fun xb xcap xsp hv => ?_); subst hv; refine o_q _ rfl rfl rfl (v_fieldAddr rfl Tryz.underlying66 inf63 rfl rfl rfl rfl) ?_; refine o_st rfl inf63 rfl rfl rfl rfl rfl rfl rfl rfl ?_; refine o_nil (r_then (r_seq (r_region ?_))); refine o_q _ rfl rfl rfl (v_fieldAddr rfl Tryz.underlying66 inf63 rfl rfl rfl rfl) ?_; refine o_q _ rfl rfl rfl (v_ld1 rfl Tryz.underlying63 rfl rfl rfl) ?_; refine q_mv rfl rfl rfl rfl rfl ?_; refine o_q _ rfl rfl rfl (v_indexAddrB rfl Tryz.underlying63 inf75 rfl rfl hp) ?_; refine o_q _ rfl rfl rfl (v_fieldAddr rfl Tryz.underlying75 inf43 rfl rfl rfl rfl) ?_; refine q_as rfl rfl rfl rfl rfl ?_; refine o_nil (r_then (r_seq ?_)); refine r_parF [1, 17] 18 (by kernel_rfl) (by kernel_rfl) (by kernel_rfl) (by kernel_rfl) (by kernel_rfl) mixed (by kernel_rfl) (by rfl) ?_; (iterate 3 refine p_q _ rfl rfl rfl (fun _ _ => v_move rfl rfl) ?_); refine p_q _ rfl rfl rfl (fun _ _ => v_nilCheck rfl rfl) ?_; refine p_q _ rfl rfl rfl (fun _ _ => v_fieldAddr rfl Tryz.underlying43 inf3 rfl rfl rfl rfl) ?_; refine p_q _ rfl rfl rfl (fun _ _ => v_ld1 (v := i64 (B.banks.getD p default).clo) rfl Tryz.underlying3 rfl rfl ((flat_get (j := 2) encB_len hp (by decide)).trans rfl)) ?_; refine p_q _ rfl rfl rfl (fun _ _ => v_fieldAddr rfl Tryz.underlying43 inf3 rfl rfl rfl rfl) ?_; refine p_q _ rfl rfl rfl (fun _ _ => v_ld1 rfl Tryz.underlying3 rfl rfl rfl) ?_; refine p_q _ rfl rfl rfl (fun _ _ => OpQ.fn (ten_v _ (by omega) (by omega)) rfl rfl SubRC.sub) ?_
           refine p_q _ rfl rfl rfl (fun _ _ => v_add rfl rfl rfl (by omega)) ?_; refine p_q _ rfl rfl rfl (fun _ _ => v_move rfl rfl) ?_; refine p_q _ rfl rfl rfl (fun _ _ => v_nilCheck rfl rfl) ?_; refine p_q _ rfl rfl rfl (fun _ _ => v_fieldAddr rfl Tryz.underlying43 inf3 rfl rfl rfl rfl) ?_; refine p_q _ rfl rfl rfl (fun _ _ => v_ld1 (v := i64 (B.banks.getD p default).chi) rfl Tryz.underlying3 rfl rfl ((flat_get (j := 3) encB_len hp (by decide)).trans rfl)) ?_; refine p_q _ rfl rfl rfl (fun _ _ => v_fieldAddr rfl Tryz.underlying43 inf3 rfl rfl rfl rfl) ?_; refine p_q _ rfl rfl rfl (fun _ _ => v_ld1 rfl Tryz.underlying3 rfl rfl rfl) ?_; refine p_q _ rfl rfl rfl (fun _ _ => OpQ.fn (ten_v _ (by omega) (by omega)) rfl rfl SubRC.sub) ?_; refine p_q _ rfl rfl rfl (fun _ _ => v_add rfl rfl rfl (by omega)) ?_; refine p_nilF (by simp only [List.nil_append, List.cons_append]; rfl) rfl ⟨⟨_, _, _, rfl, rfl, rfl, rfl, rfl, float_move rfl rfl⟩, ⟨_, _, _, rfl, rfl, rfl, rfl, rfl, float_add rfl rfl rfl (by omega)⟩, trivial⟩ ?_; (iterate 18 refine f_q rfl ?_); refine f_nil ?_; refine o_q _ rfl rfl rfl (v_nilCheck rfl rfl) ?_; refine o_q _ rfl rfl rfl (v_fieldAddr rfl Tryz.underlying43 inf3 rfl rfl rfl rfl) ?_; refine o_st rfl inf3 rfl rfl rfl rfl rfl rfl rfl (Nat.ble_eq_true_of_le (by rw [List.length_append, flat_len encB_len]; show p * 4 + 2 + 0 + 1 ≤ _; omega)) ?_; refine o_q _ rfl rfl rfl (v_nilCheck rfl rfl) ?_; refine o_q _ rfl rfl rfl (v_fieldAddr rfl Tryz.underlying43 inf3 rfl rfl rfl rfl) ?_; refine o_st rfl inf3 rfl rfl rfl rfl rfl rfl rfl (Nat.ble_eq_true_of_le (by rw [splice_len, List.length_append, flat_len encB_len]; show p * 4 + 2 + 1 + 1 ≤ _; omega)) ?_; refine o_nil (r_nop ?_); refine r_then (r_seq ?_); refine r_seq ?_; refine Imp.box_to xb ((yB B p (tenI NN.lo) (tenI NN.hi)).banks.flatMap encB ++ xsp) ((bank_set2 (t1 := (tenI NN.lo)) (t2 := (tenI NN.hi)) hp).trans (by rw [y_banks])) ?_; refine Imp.sealB xb ?_; refine Imp.rowP (b := xb) (yB B p (tenI NN.lo) (tenI NN.hi)).banks encB_len rfl ?_; refine Imp.derive (ψ := rowD ro 2 encS (yB B p (tenI NN.lo) (tenI NN.hi)).rain) ?_ (fun V hV => by rw [(y_rest B p (tenI NN.lo) (tenI NN.hi)).1]; exact hV _ (by simp)); refine Imp.derive (ψ := rowD none 3 encG (yB B p (tenI NN.lo) (tenI NN.hi)).signs) ?_ (fun V hV => by rw [(y_rest B p (tenI NN.lo) (tenI NN.hi)).2]; exact .inl rfl); refine Imp.derive (ψ := rowD none 3 encG ([] : List Sign)) ?_ (fun V _ => .inl rfl); refine Imp.box_to b16 (cellsB (yB B p (tenI NN.lo) (tenI NN.hi)) (some ⟨xb, 0, none⟩) ro none xcap rc 0) (y_cells B p (tenI NN.lo) (tenI NN.hi) _ _ _ _) ?_
           obtain ⟨hy1, hy2, hy3⟩ := y_lens B p (tenI NN.lo) (tenI NN.hi); refine r_region ?_; refine o_q _ rfl rfl rfl (v_ldW rfl Tryz.underlying66 rfl inf66 rfl rfl) ?_; refine o_test rfl rfl rfl (OpQ.fn (Burst_v (yB B p (tenI NN.lo) (tenI NN.hi)) (some ⟨xb, 0, none⟩) ro none xcap rc 0 (by omega) (by omega) (by omega)) rfl rfl SubRC.sub) (fun h144 => ?_) (fun h144 => ?_)
           all_goals
            refine o_q _ rfl rfl rfl (v_not rfl rfl) ?_; refine o_nil (r_then ?_); refine r_cond rfl (fun hc145 => ?_) (fun hc145 => ?_)
            ·
             first
             | (exfalso; revert hc145; decide)
             |
              skip
              refine r_seq (r_region ?_); refine o_q _ rfl rfl rfl (OpQ.fn awake08_v rfl rfl SubRC.sub) ?_; refine q_as rfl rfl rfl rfl rfl ?_; refine o_nil (r_then ?_); refine r_ret ?_; (with_reducible refine r_then_ret ?_); exact r_retv2 (Rd.tmp rfl rfl) rfl SelMC.sel SubRC.sub
            ·
             first
             | (exfalso; revert hc145; decide)
             |
              skip
              refine r_skip (r_then ?_); refine r_seq ?_; have hy : GoodB (yB B p (tenI NN.lo) (tenI NN.hi)) := by assumption
              have htr := tru_y (f := (Sod2.drawT bys)) (k0 := (0 + S.spits.length + S.days.length)) (ts := (tenI sd)) hf hg hp (t1 := (tenI NN.lo)) (t2 := (tenI NN.hi)) (by omega) (by omega); have hc := tr_can hy htr; have hlaw := cut_law hg hy hp hp1.1 hp3 hc; have hunt := until_law hy hc; refine r_region ?_; refine o_q _ rfl rfl rfl (v_ldW rfl Tryz.underlying66 rfl inf66 rfl rfl) ?_; refine q_mv rfl rfl rfl rfl rfl ?_; refine o_q _ rfl rfl rfl (OpQ.fn (spareO_v B p hg bo ro bc rc) rfl rfl SubRC.sub) ?_; refine q_mv rfl rfl rfl rfl rfl ?_; refine o_q _ rfl rfl rfl (v_extract rfl rfl rfl) ?_; refine o_q _ rfl rfl rfl (v_extract rfl rfl rfl) ?_; refine q_as rfl rfl rfl rfl rfl ?_; refine q_as rfl rfl rfl rfl rfl ?_; refine o_nil (r_then (r_seq (r_region ?_))); refine o_q _ rfl rfl rfl (v_ldW rfl Tryz.underlying66 rfl inf66 rfl rfl) ?_; refine o_q _ rfl rfl rfl (OpQ.fn (untilY_v B p NN hg hy hp hc (some ⟨xb, 0, none⟩) ro xcap rc) rfl rfl SubRC.sub) ?_; refine q_mv rfl rfl rfl rfl rfl ?_; refine o_q _ rfl rfl rfl (v_extract rfl rfl rfl) ?_; refine o_q _ rfl rfl rfl (v_extract rfl rfl rfl) ?_; refine q_as rfl rfl rfl rfl rfl ?_; refine q_as rfl rfl rfl rfl rfl ?_; refine o_nil (r_then ?_); refine r_mid (ι := Unit) (fun uu => True) (fun uu => [(5, pt b5 0), (9, .func (.func 38) #[] #[pt x72.1 0, pt x72.2 0]), (12, pt b12 0), (14, i64 (p : Int)), (16, pt b16 0), (18, i64 (spareB (oB B) (p : Int)).1), (19, i64 (spareB (oB B) (p : Int)).2), (20, i64 (untilB (yB B p (tenI NN.lo) (tenI NN.hi))).1), (21, i64 (untilB (yB B p (tenI NN.lo) (tenI NN.hi))).2), (11, i64 sd)]) (fun uu => bx b5 66 (cellsB B bo ro go bc rc gc) :: bx b12 43 [i64 NN.lo, i64 NN.hi] :: bx b16 66 (cellsB (yB B p (tenI NN.lo) (tenI NN.hi)) (some ⟨xb, 0, none⟩) ro none xcap rc 0) :: bx x72.1 3 [i64 (((0 + S.spits.length + S.days.length) : Nat) : Int)] :: M) (fun uu => boxF x72.2 31 [.slice ba bys.length uc] :: ([rowD po 3 Sod2.encSp S.spits, rowD so 2 Foot4.encS S.days, rowD lo 3 Sod2.encLg S.logs, rowD bo 4 encB B.banks, rowD ro 2 encS B.rain, rowD go 3 encG B.signs, rowD ba 1 Foot4.encU bys, rowD (some ⟨xb, 0, none⟩) 4 encB (yB B p (tenI NN.lo) (tenI NN.hi)).banks, rowD ro 2 encS (yB B p (tenI NN.lo) (tenI NN.hi)).rain, rowD none 3 encG (yB B p (tenI NN.lo) (tenI NN.hi)).signs] ++ Rf)) ?_ ?_
              ·
               refine r_seq ?_; have hsf : (spareB (oB B) (p : Int)).2 = 0 ∨ (spareB (oB B) (p : Int)).2 = 4 := by omega
               refine r_region ?_; refine q_mv rfl rfl rfl rfl rfl ?_; refine o_test rfl rfl rfl (v_neq rfl rfl rfl) (fun h159 => ?_) (fun h159 => ?_)
               all_goals
                refine q_mv rfl rfl rfl rfl rfl ?_
                first | refine o_gn rfl rfl rfl rfl ?_ | refine o_g _ rfl rfl rfl rfl (v_move rfl rfl) ?_
                first | refine o_gn rfl rfl rfl rfl ?_ | refine o_g _ rfl rfl rfl rfl (v_false (v_neq rfl rfl rfl) (by omega)) ?_
                all_goals
                 first | refine o_q _ rfl rfl rfl (v_pick_t rfl rfl rfl) ?_ | refine o_q _ rfl rfl rfl (v_pick_f rfl rfl rfl) ?_
                 refine q_mv rfl rfl rfl rfl rfl ?_; refine o_g _ rfl rfl rfl rfl (v_move rfl rfl) ?_; refine o_gtest rfl rfl rfl rfl (v_neq rfl rfl rfl) (fun h166 => ?_) (fun h166 => ?_)
                 all_goals
                  refine o_g _ rfl rfl rfl rfl (v_move rfl rfl) ?_
                  first | refine o_gn rfl rfl rfl rfl ?_ | refine o_g _ rfl rfl rfl rfl (v_move rfl rfl) ?_
                  first | refine o_gn rfl rfl rfl rfl ?_ | refine o_g _ rfl rfl rfl rfl (v_false (v_neq rfl rfl rfl) (by omega)) ?_
                  all_goals
                   first | refine o_g _ rfl rfl rfl rfl (v_pick_t rfl rfl rfl) ?_ | refine o_g _ rfl rfl rfl rfl (v_pick_f rfl rfl rfl) ?_
                   refine o_q _ rfl rfl rfl (v_pick_f rfl rfl rfl) ?_; refine o_nil (r_then ?_); refine r_cond rfl (fun hc171 => ?_) (fun hc171 => ?_)
                   ·
                    (exfalso; revert hc171; decide)
                   ·
                    refine r_skip (r_then ?_); exact r_here_mid () (by exact r_here (by repeat (first | exact FSub.nil | refine FSub.cons rfl ?_)) SelMC.sel SubRC.sub) trivial
              ·
               intro uu hm; refine r_seq ?_; refine Imp.nilL 3 1 Sod2.encI ?_; refine r_region ?_; refine q_as rfl rfl rfl rfl rfl ?_; refine o_nil (r_then (r_seq ?_)); refine r_seq (r_region ?_); refine o_q _ rfl rfl rfl (v_fieldAddr rfl Tryz.underlying66 inf63 rfl rfl rfl rfl) ?_; refine o_q _ rfl rfl rfl (v_ld1 rfl Tryz.underlying63 rfl rfl rfl) ?_; refine o_q _ rfl rfl rfl (v_len rfl rfl Tryz.underlying63 rfl) ?_; refine q_mv rfl rfl rfl rfl rfl ?_; refine o_nil (r_then ?_); refine r_block ?_; refine r_loop (ι := Nat × Value) (fun gh => gh.1 ≤ B.banks.length) (fun gh => [(5, pt b5 0), (9, .func (.func 38) #[] #[pt x72.1 0, pt x72.2 0]), (12, pt b12 0), (14, i64 (p : Int)), (16, pt b16 0), (18, i64 (spareB (oB B) (p : Int)).1), (19, i64 (spareB (oB B) (p : Int)).2), (20, i64 (untilB (yB B p (tenI NN.lo) (tenI NN.hi))).1), (21, i64 (untilB (yB B p (tenI NN.lo) (tenI NN.hi))).2), (11, i64 sd), (22, gh.2), (173, .slice bo B.banks.length bc), (174, i64 B.banks.length), (175, i64 gh.1)]) (fun gh => ownL gh.2 3 1 Sod2.encI (ksTo (Sod2.drawT bys) (0 + S.spits.length + S.days.length) B p (tenI sd) (gh.1)) :: bx x72.1 3 [i64 (((0 + S.spits.length + S.days.length) + 2 * gh.1 : Nat) : Int)] :: bx b5 66 (cellsB B bo ro go bc rc gc) :: bx b12 43 [i64 NN.lo, i64 NN.hi] :: bx b16 66 (cellsB (yB B p (tenI NN.lo) (tenI NN.hi)) (some ⟨xb, 0, none⟩) ro none xcap rc 0) :: M) (fun gh => boxF x72.2 31 [.slice ba bys.length uc] :: ([rowD po 3 Sod2.encSp S.spits, rowD so 2 Foot4.encS S.days, rowD lo 3 Sod2.encLg S.logs, rowD bo 4 encB B.banks, rowD ro 2 encS B.rain, rowD go 3 encG B.signs, rowD ba 1 Foot4.encU bys, rowD (some ⟨xb, 0, none⟩) 4 encB (yB B p (tenI NN.lo) (tenI NN.hi)).banks, rowD ro 2 encS (yB B p (tenI NN.lo) (tenI NN.hi)).rain, rowD none 3 encG (yB B p (tenI NN.lo) (tenI NN.hi)).signs] ++ Rf)) (fun gh => B.banks.length - gh.1) (0, .slice none 0 0) ?_ ?_ ?_
               ·
                refine Imp.own_to (.slice none 0 0) (ksTo (Sod2.drawT bys) (0 + S.spits.length + S.days.length) B p (tenI sd) (0)) rfl ?_; refine Imp.box_to x72.1 [i64 (((0 + S.spits.length + S.days.length) + 2 * 0 : Nat) : Int)] (by rfl) ?_; exact r_here (by repeat (first | exact FSub.nil | refine FSub.cons rfl ?_)) SelMC.sel SubRC.sub
               ·
                exact Nat.zero_le _
               ·
                rintro ⟨i, v⟩ hI0; dsimp only at hI0; dsimp only; refine r_seq (r_region ?_); refine o_q _ rfl rfl rfl (v_lss rfl rfl rfl) ?_; refine o_nil (r_then (r_seq ?_)); refine r_condd rfl (fun hc176 => ?_) (fun hc176 => ?_)
                ·
                 refine r_skip (r_then ?_); refine r_seq (r_block ?_); refine r_seq (r_region ?_); refine q_mv rfl rfl rfl rfl rfl ?_; refine o_q _ rfl rfl rfl (v_indexAddrSn rfl Tryz.underlying63 inf75 rfl rfl rfl (by omega) rfl) ?_; refine o_q _ rfl rfl rfl (v_loadEN rfl Tryz.underlying75 rfl inf75 rfl (by omega) rfl rfl rfl) ?_; refine o_alloc rfl inf75 rfl rfl rfl rfl rfl (fun b24 => ?_); refine q_as rfl rfl rfl rfl rfl ?_; refine o_st rfl inf75 rfl rfl rfl rfl rfl rfl rfl rfl ?_; refine o_nil (r_then (r_seq ?_)); refine Imp.box_to b24 [i64 (B.banks.getD i default).blo, i64 (B.banks.getD i default).bhi, i64 (B.banks.getD i default).clo, i64 (B.banks.getD i default).chi] rfl ?_; obtain ⟨hi1, hi2⟩ := hg.banks i (by omega); have hkl : (ksTo (Sod2.drawT bys) (0 + S.spits.length + S.days.length) B p (tenI sd) (i)).length = i := ksTo_len; have hca := hf ((0 + S.spits.length + S.days.length) + 2 * i + 1) (spC (B.banks.getD i default)) (by show (B.banks.getD i default).clo ≤ (B.banks.getD i default).chi; omega); have hcb1 : (spC (B.banks.getD i default)).lo = (B.banks.getD i default).clo := rfl; have hcb2 : (spC (B.banks.getD i default)).hi = (B.banks.getD i default).chi := rfl; have hka := hf ((0 + S.spits.length + S.days.length) + 2 * i + 1 + 1) (spK (B.banks.getD i default)) (by show (B.banks.getD i default).blo ≤ (B.banks.getD i default).bhi; omega); have hkb1 : (spK (B.banks.getD i default)).lo = (B.banks.getD i default).blo := rfl; have hkb2 : (spK (B.banks.getD i default)).hi = (B.banks.getD i default).bhi := rfl; refine r_region ?_; refine q_mv rfl rfl rfl rfl rfl ?_; refine o_q _ rfl rfl rfl (v_fieldAddr rfl Tryz.underlying75 inf43 rfl rfl rfl rfl) ?_; refine o_q _ rfl rfl rfl (v_ldN rfl Tryz.underlying43 rfl inf43 rfl rfl rfl) ?_; refine o_fnc (draw1_c bys ba uc hu hbl x72.1 x72.2 ((0 + S.spits.length + S.days.length) + 2 * i) (spC (B.banks.getD i default)) (by omega) (by show (B.banks.getD i default).clo ≤ (B.banks.getD i default).chi; omega) (by show -1000 ≤ (B.banks.getD i default).clo; omega) (by show (B.banks.getD i default).chi ≤ 1000; omega)) rfl [] [pt x72.1 0, pt x72.2 0] rfl rfl rfl rfl rfl rfl SubRC.sub ?_; refine q_as rfl rfl rfl rfl rfl ?_; refine o_nil (r_then (r_seq ?_)); refine r_seq (r_region ?_); refine q_mv rfl rfl rfl rfl rfl ?_; refine q_mv rfl rfl rfl rfl rfl ?_; refine o_q _ rfl rfl rfl (v_eql rfl rfl rfl) ?_; refine o_nil (r_then ?_); refine r_condd rfl (fun hc186 => ?_) (fun hc186 => ?_)
                 ·
                  refine r_region ?_; refine q_mv rfl rfl rfl rfl rfl ?_; refine q_mv rfl rfl rfl rfl rfl ?_; refine o_q _ rfl rfl rfl (OpQ.fn (ten_v _ (by omega) (by omega)) rfl rfl SubRC.sub) ?_; refine o_q _ rfl rfl rfl (v_add rfl rfl rfl (by omega)) ?_; refine q_as rfl rfl rfl rfl rfl ?_; refine o_nil (r_then ?_); refine r_region ?_; refine q_mv rfl rfl rfl rfl rfl ?_; refine q_mv rfl rfl rfl rfl rfl ?_; refine o_q _ rfl rfl rfl (v_fieldAddr rfl Tryz.underlying75 inf43 rfl rfl rfl rfl) ?_; refine o_q _ rfl rfl rfl (v_ldN rfl Tryz.underlying43 rfl inf43 rfl rfl rfl) ?_; refine o_fnc (draw1_c bys ba uc hu hbl x72.1 x72.2 ((0 + S.spits.length + S.days.length) + 2 * i + 1) (spK (B.banks.getD i default)) (by omega) (by show (B.banks.getD i default).blo ≤ (B.banks.getD i default).bhi; omega) (by show -1000 ≤ (B.banks.getD i default).blo; omega) (by show (B.banks.getD i default).bhi ≤ 1000; omega)) rfl [] [pt x72.1 0, pt x72.2 0] rfl rfl rfl rfl rfl rfl SubRC.sub ?_; refine q_mv rfl rfl rfl rfl rfl ?_; refine o_q _ rfl rfl rfl (v_cast (v := i64 (kT (Sod2.drawT bys) (0 + S.spits.length + S.days.length) B p (tenI sd) i)) (v_sub rfl rfl rfl (by omega)) (congrArg (Value.int .i64) (by first | (unfold kT; rw [if_pos (by omega)]; done) | (unfold kT; rw [if_neg (by omega)]; done)))) ?_; refine o_lit rfl Tryz.underlying39 inf3 rfl rfl rfl rfl rfl rfl rfl rfl (by repeat (first | exact trivial | refine ⟨rfl, ?_⟩)) (by rfl) (fun b198 => ?_); refine o_app1 ((kT (Sod2.drawT bys) (0 + S.spits.length + S.days.length) B p (tenI sd) i)) rfl Tryz.underlying39 inf3 rfl (by rfl) (by rfl) rfl rfl rfl rfl rfl (by rfl) (by rfl) (by rfl) (by first | omega | (constructor <;> first | omega | decide)) (fun v199 => ?_); refine q_as rfl rfl rfl rfl rfl ?_; refine o_nil ?_; refine r_in_normal ?_; refine r_then ?_; refine r_region ?_; refine o_q _ rfl rfl rfl (v_add rfl rfl rfl (by omega)) ?_; refine q_mv rfl rfl rfl rfl rfl ?_; refine o_nil (r_then ?_); exact r_next ((i + 1, v199)) (by refine Imp.own_to v199 (ksTo (Sod2.drawT bys) (0 + S.spits.length + S.days.length) B p (tenI sd) (i + 1)) ksTo_s ?_; refine Imp.box_to x72.1 [i64 (((0 + S.spits.length + S.days.length) + 2 * (i + 1) : Nat) : Int)] (by rfl) ?_; exact r_here (by repeat (first | exact FSub.nil | refine FSub.cons rfl ?_)) SelMC.sel SubRC.sub) (by first | omega | (show _ + 1 ≤ _; omega)) (by first | omega | (show _ - (_ + 1) < _ - _; omega))
                 ·
                  refine r_skip (r_then ?_); refine r_region ?_; refine q_mv rfl rfl rfl rfl rfl ?_; refine q_mv rfl rfl rfl rfl rfl ?_; refine o_q _ rfl rfl rfl (v_fieldAddr rfl Tryz.underlying75 inf43 rfl rfl rfl rfl) ?_; refine o_q _ rfl rfl rfl (v_ldN rfl Tryz.underlying43 rfl inf43 rfl rfl rfl) ?_; refine o_fnc (draw1_c bys ba uc hu hbl x72.1 x72.2 ((0 + S.spits.length + S.days.length) + 2 * i + 1) (spK (B.banks.getD i default)) (by omega) (by show (B.banks.getD i default).blo ≤ (B.banks.getD i default).bhi; omega) (by show -1000 ≤ (B.banks.getD i default).blo; omega) (by show (B.banks.getD i default).bhi ≤ 1000; omega)) rfl [] [pt x72.1 0, pt x72.2 0] rfl rfl rfl rfl rfl rfl SubRC.sub ?_; refine q_mv rfl rfl rfl rfl rfl ?_; refine o_q _ rfl rfl rfl (v_cast (v := i64 (kT (Sod2.drawT bys) (0 + S.spits.length + S.days.length) B p (tenI sd) i)) (v_sub rfl rfl rfl (by omega)) (congrArg (Value.int .i64) (by first | (unfold kT; rw [if_pos (by omega)]; done) | (unfold kT; rw [if_neg (by omega)]; done)))) ?_; refine o_lit rfl Tryz.underlying39 inf3 rfl rfl rfl rfl rfl rfl rfl rfl (by repeat (first | exact trivial | refine ⟨rfl, ?_⟩)) (by rfl) (fun b198 => ?_); refine o_app1 ((kT (Sod2.drawT bys) (0 + S.spits.length + S.days.length) B p (tenI sd) i)) rfl Tryz.underlying39 inf3 rfl (by rfl) (by rfl) rfl rfl rfl rfl rfl (by rfl) (by rfl) (by rfl) (by first | omega | (constructor <;> first | omega | decide)) (fun v199 => ?_); refine q_as rfl rfl rfl rfl rfl ?_; refine o_nil ?_; refine r_in_normal ?_; refine r_then ?_; refine r_region ?_; refine o_q _ rfl rfl rfl (v_add rfl rfl rfl (by omega)) ?_; refine q_mv rfl rfl rfl rfl rfl ?_; refine o_nil (r_then ?_); exact r_next ((i + 1, v199)) (by refine Imp.own_to v199 (ksTo (Sod2.drawT bys) (0 + S.spits.length + S.days.length) B p (tenI sd) (i + 1)) ksTo_s ?_; refine Imp.box_to x72.1 [i64 (((0 + S.spits.length + S.days.length) + 2 * (i + 1) : Nat) : Int)] (by rfl) ?_; exact r_here (by repeat (first | exact FSub.nil | refine FSub.cons rfl ?_)) SelMC.sel SubRC.sub) (by first | omega | (show _ + 1 ≤ _; omega)) (by first | omega | (show _ - (_ + 1) < _ - _; omega))
                ·
                 refine r_exit ?_; refine r_then_exit ?_; refine r_then_exit ?_; refine r_in_here ?_; refine r_then (r_seq ?_); obtain rfl : i = B.banks.length := by omega
                 refine Imp.settleS v Sod2.encI_len (fun oe ce he => ?_); subst he; have hkl : (ksTo (Sod2.drawT bys) (0 + S.spits.length + S.days.length) B p (tenI sd) (B.banks.length)).length = B.banks.length := ksTo_len; refine r_region ?_; refine q_mv rfl rfl rfl rfl rfl ?_; refine o_q _ rfl rfl rfl (v_fieldAddr rfl Tryz.underlying66 inf43 rfl rfl rfl rfl) ?_; refine o_q _ rfl rfl rfl (v_ldN rfl Tryz.underlying43 rfl inf43 rfl rfl rfl) ?_; refine o_fnc (draw1_c bys ba uc hu hbl x72.1 x72.2 ((0 + S.spits.length + S.days.length) + 2 * B.banks.length) ⟨B.wlo, B.whi⟩ (by omega) (by show B.wlo ≤ B.whi; omega) (by show -1000 ≤ B.wlo; omega) (by show B.whi ≤ 1000; omega)) rfl [] [pt x72.1 0, pt x72.2 0] rfl rfl rfl rfl rfl rfl SubRC.sub ?_; refine q_as rfl rfl rfl rfl rfl ?_; refine q_as rfl rfl rfl rfl rfl ?_; refine o_nil (r_then (r_seq ?_)); refine r_seq (r_region ?_); refine o_q _ rfl rfl rfl (v_fieldAddr rfl Tryz.underlying66 inf59 rfl rfl rfl rfl) ?_; refine o_q _ rfl rfl rfl (v_ld1 rfl Tryz.underlying59 rfl rfl rfl) ?_; refine o_q _ rfl rfl rfl (v_len rfl rfl Tryz.underlying59 rfl) ?_; refine o_q _ rfl rfl rfl (v_add rfl rfl rfl (by omega)) ?_; refine q_mv rfl rfl rfl rfl rfl ?_; refine o_nil (r_then ?_); refine r_block ?_; refine r_loop (ι := Nat) (fun d => d ≤ B.rain.length + 1) (fun d => [(5, pt b5 0), (9, .func (.func 38) #[] #[pt x72.1 0, pt x72.2 0]), (12, pt b12 0), (14, i64 (p : Int)), (16, pt b16 0), (18, i64 (spareB (oB B) (p : Int)).1), (19, i64 (spareB (oB B) (p : Int)).2), (20, i64 (untilB (yB B p (tenI NN.lo) (tenI NN.hi))).1), (21, i64 (untilB (yB B p (tenI NN.lo) (tenI NN.hi))).2), (22, .slice oe (ksTo (Sod2.drawT bys) (0 + S.spits.length + S.days.length) B p (tenI sd) (B.banks.length)).length ce), (26, i64 (wT (Sod2.drawT bys) (0 + S.spits.length + S.days.length) B (d - 1))), (27, .bool (decide ((mnT (yB B p (tenI NN.lo) (tenI NN.hi)) p (d)) < 0))), (208, i64 ((B.rain.length : Int) + 1)), (209, i64 d)]) (fun d => bx b5 66 (cellsB B bo ro go bc rc gc) :: bx b12 43 [i64 NN.lo, i64 NN.hi] :: bx b16 66 (cellsB (yB B p (tenI NN.lo) (tenI NN.hi)) (some ⟨xb, 0, none⟩) ro none xcap rc 0) :: bx x72.1 3 [i64 (((0 + S.spits.length + S.days.length) + 2 * B.banks.length + 1 + (d - 1) : Nat) : Int)] :: M) (fun d => rowD oe 1 Sod2.encI (ksTo (Sod2.drawT bys) (0 + S.spits.length + S.days.length) B p (tenI sd) (B.banks.length)) :: boxF x72.2 31 [.slice ba bys.length uc] :: ([rowD po 3 Sod2.encSp S.spits, rowD so 2 Foot4.encS S.days, rowD lo 3 Sod2.encLg S.logs, rowD bo 4 encB B.banks, rowD ro 2 encS B.rain, rowD go 3 encG B.signs, rowD ba 1 Foot4.encU bys, rowD (some ⟨xb, 0, none⟩) 4 encB (yB B p (tenI NN.lo) (tenI NN.hi)).banks, rowD ro 2 encS (yB B p (tenI NN.lo) (tenI NN.hi)).rain, rowD none 3 encG (yB B p (tenI NN.lo) (tenI NN.hi)).signs] ++ Rf)) (fun d => B.rain.length + 1 - d) 0 ?_ ?_ ?_
                 ·
                  refine Imp.box_to x72.1 [i64 (((0 + S.spits.length + S.days.length) + 2 * B.banks.length + 1 + (0 - 1) : Nat) : Int)] (by rfl) ?_; have hm0 := mnT_0 (yB B p (tenI NN.lo) (tenI NN.hi)) p; have hw0 : wT (Sod2.drawT bys) (0 + S.spits.length + S.days.length) B (0 - 1) = (Sod2.drawT bys) ((0 + S.spits.length + S.days.length) + 2 * B.banks.length + 1) ⟨B.wlo, B.whi⟩ := by unfold wT; rfl
                  rw [← hw0]; exact r_here (by repeat (first | exact FSub.nil | refine FSub.cons rfl ?_ | refine FSub.cons2 rfl (congrArg Value.bool (decide_eq_true (by omega)).symm) ?_ | refine FSub.cons2 rfl (congrArg Value.bool (decide_eq_false (by omega)).symm) ?_)) SelMC.sel SubRC.sub
                 ·
                  omega
                 ·
                  rintro d hI1; have hmin := mnT_s (yB B p (tenI NN.lo) (tenI NN.hi)) p d; refine r_seq (r_region ?_); refine o_q _ rfl rfl rfl (v_lss rfl rfl rfl) ?_; refine o_nil (r_then (r_seq ?_)); refine r_condd rfl (fun hc210 => ?_) (fun hc210 => ?_)
                  ·
                   refine r_skip (r_then ?_); refine r_seq (r_block ?_); refine r_seq (r_region ?_); refine q_mv rfl rfl rfl rfl rfl ?_; refine q_as rfl rfl rfl rfl rfl ?_; refine o_nil (r_then ?_); refine r_mid (ι := Unit) (fun uu => True) (fun uu => [(5, pt b5 0), (9, .func (.func 38) #[] #[pt x72.1 0, pt x72.2 0]), (12, pt b12 0), (14, i64 (p : Int)), (16, pt b16 0), (18, i64 (spareB (oB B) (p : Int)).1), (19, i64 (spareB (oB B) (p : Int)).2), (20, i64 (untilB (yB B p (tenI NN.lo) (tenI NN.hi))).1), (21, i64 (untilB (yB B p (tenI NN.lo) (tenI NN.hi))).2), (22, .slice oe (ksTo (Sod2.drawT bys) (0 + S.spits.length + S.days.length) B p (tenI sd) (B.banks.length)).length ce), (26, i64 (wT (Sod2.drawT bys) (0 + S.spits.length + S.days.length) B (d))), (27, .bool (decide ((mnT (yB B p (tenI NN.lo) (tenI NN.hi)) p (d)) < 0))), (28, i64 d), (208, i64 ((B.rain.length : Int) + 1)), (209, i64 d)]) (fun uu => bx b5 66 (cellsB B bo ro go bc rc gc) :: bx b12 43 [i64 NN.lo, i64 NN.hi] :: bx b16 66 (cellsB (yB B p (tenI NN.lo) (tenI NN.hi)) (some ⟨xb, 0, none⟩) ro none xcap rc 0) :: bx x72.1 3 [i64 (((0 + S.spits.length + S.days.length) + 2 * B.banks.length + 1 + d : Nat) : Int)] :: M) (fun uu => rowD oe 1 Sod2.encI (ksTo (Sod2.drawT bys) (0 + S.spits.length + S.days.length) B p (tenI sd) (B.banks.length)) :: boxF x72.2 31 [.slice ba bys.length uc] :: ([rowD po 3 Sod2.encSp S.spits, rowD so 2 Foot4.encS S.days, rowD lo 3 Sod2.encLg S.logs, rowD bo 4 encB B.banks, rowD ro 2 encS B.rain, rowD go 3 encG B.signs, rowD ba 1 Foot4.encU bys, rowD (some ⟨xb, 0, none⟩) 4 encB (yB B p (tenI NN.lo) (tenI NN.hi)).banks, rowD ro 2 encS (yB B p (tenI NN.lo) (tenI NN.hi)).rain, rowD none 3 encG (yB B p (tenI NN.lo) (tenI NN.hi)).signs] ++ Rf)) ?_ ?_
                   ·
                    refine r_seq (r_region ?_); refine q_mv rfl rfl rfl rfl rfl ?_; refine o_q _ rfl rfl rfl (v_gtr rfl rfl rfl) ?_; refine o_nil (r_then ?_); refine r_condd rfl (fun hc213 => ?_) (fun hc213 => ?_)
                    ·
                     have hrn := hg.rain (d - 1) (by omega); have hra := hf ((0 + S.spits.length + S.days.length) + 2 * B.banks.length + 1 + (d - 1) + 1) (spS (B.rain.getD (d - 1) default)) (by show (B.rain.getD (d - 1) default).lo ≤ (B.rain.getD (d - 1) default).hi; exact hrn.2.1); have hrb1 : (spS (B.rain.getD (d - 1) default)).lo = (B.rain.getD (d - 1) default).lo := rfl; have hrb2 : (spS (B.rain.getD (d - 1) default)).hi = (B.rain.getD (d - 1) default).hi := rfl; have hwp := wT_p (f := (Sod2.drawT bys)) (k0 := (0 + S.spits.length + S.days.length)) (B := B) (d := d) (by omega); have hwb := htr.wb' hy (d := d) (by rw [hy2]; omega); have hwb2 := htr.wb' hy (d := d - 1) (by rw [hy2]; omega); unfold RainOk at hrn; refine r_parC1 (bx x72.1 3 [i64 (((0 + S.spits.length + S.days.length) + 2 * B.banks.length + 1 + (d - 1) : Nat) : Int)]) 12 mixed (by kernel_rfl) (by rfl) ?_; refine p_q _ rfl rfl rfl (fun _ _ => v_move rfl rfl) ?_; refine p_q _ rfl rfl rfl (fun _ _ => v_move rfl rfl) ?_; refine p_q _ rfl rfl rfl (fun _ _ => v_fieldAddr rfl Tryz.underlying66 inf59 rfl rfl rfl rfl) ?_; refine p_q _ rfl rfl rfl (fun _ _ => v_ld1 rfl Tryz.underlying59 rfl rfl rfl) ?_; refine p_q _ rfl rfl rfl (fun _ _ => v_move rfl rfl) ?_; refine p_q _ rfl rfl rfl (fun _ _ => v_cast (v := i64 ((d - 1 : Nat) : Int)) (v_sub rfl rfl rfl (by omega)) (congrArg (Value.int .i64) (by omega))) ?_; refine p_q _ rfl rfl rfl (fun _ _ => v_indexAddrSn rfl Tryz.underlying59 inf43 rfl rfl rfl (by omega) rfl) ?_; refine p_q _ rfl rfl rfl (fun _ _ => v_cast (v := .agg #[i64 (B.rain.getD (d - 1) default).lo, i64 (B.rain.getD (d - 1) default).hi]) (v_loadEN rfl Tryz.underlying43 rfl inf43 rfl (by omega) rfl rfl rfl) rfl) ?_; refine p_fnc (draw1_c bys ba uc hu hbl x72.1 x72.2 ((0 + S.spits.length + S.days.length) + 2 * B.banks.length + 1 + (d - 1)) (spS (B.rain.getD (d - 1) default)) (by omega) (by show (B.rain.getD (d - 1) default).lo ≤ (B.rain.getD (d - 1) default).hi; omega) (by show -1000 ≤ (B.rain.getD (d - 1) default).lo; omega) (by show (B.rain.getD (d - 1) default).hi ≤ 1000; omega)) rfl [] [pt x72.1 0, pt x72.2 0] rfl rfl rfl rfl rfl rfl SubRC.sub ?_; refine p_q _ rfl rfl rfl (fun _ _ => v_fieldAddr rfl Tryz.underlying66 inf3 rfl rfl rfl rfl) ?_; refine p_q _ rfl rfl rfl (fun _ _ => v_ld1 rfl Tryz.underlying3 rfl rfl rfl) ?_; refine p_q _ rfl rfl rfl (fun _ _ => v_sub rfl rfl rfl (by omega)) ?_; refine p_nil2 (by simp only [List.nil_append, List.cons_append]; rfl) rfl ?_; (iterate 8 refine f_q rfl ?_); refine f_qc1 rfl ?_; (iterate 3 refine f_q rfl ?_); refine f_nil ?_; refine o_q _ rfl rfl rfl (v_cast (v := i64 (wT (Sod2.drawT bys) (0 + S.spits.length + S.days.length) B (d))) (v_add rfl rfl rfl (by omega)) (congrArg (Value.int .i64) hwp)) ?_; refine q_as rfl rfl rfl rfl rfl ?_; refine o_nil ?_
                     refine r_then ?_
                     (refine Imp.box_to x72.1 [i64 (((0 + S.spits.length + S.days.length) + 2 * B.banks.length + 1 + d : Nat) : Int)] (by rw [show (0 + S.spits.length + S.days.length) + 2 * B.banks.length + 1 + (d - 1) + 1 = (0 + S.spits.length + S.days.length) + 2 * B.banks.length + 1 + d from by omega]) ?_; exact r_here_mid () (by exact r_here (by repeat (first | exact FSub.nil | refine FSub.cons rfl ?_)) SelMC.sel SubRC.sub) trivial)
                    ·
                     refine r_skip (r_then ?_)
                     (obtain rfl : d = 0 := (by omega); refine Imp.box_to x72.1 [i64 (((0 + S.spits.length + S.days.length) + 2 * B.banks.length + 1 + 0 : Nat) : Int)] (by rfl) ?_; exact r_here_mid () (by exact r_here (by repeat (first | exact FSub.nil | refine FSub.cons rfl ?_)) SelMC.sel SubRC.sub) trivial)
                   ·
                    intro uu hm; refine r_seq (r_region ?_); refine o_q _ rfl rfl rfl (v_ldW rfl Tryz.underlying66 rfl inf66 rfl rfl) ?_; refine q_mv rfl rfl rfl rfl rfl ?_; refine o_q _ rfl rfl rfl (OpQ.fn (movesY_v B p NN hg hy hp hc (some ⟨xb, 0, none⟩) ro xcap rc d (by omega)) rfl rfl SubRC.sub) ?_; refine q_mv rfl rfl rfl rfl rfl ?_; (iterate 3 refine o_q _ rfl rfl rfl (v_extract rfl rfl rfl) ?_); (iterate 3 refine q_as rfl rfl rfl rfl rfl ?_); refine o_nil (r_then (r_seq ?_)); refine r_seq (r_region ?_); refine q_mv rfl rfl rfl rfl rfl ?_; refine o_q _ rfl rfl rfl (v_neq rfl rfl rfl) ?_; refine o_nil (r_then ?_); refine r_condd rfl (fun hc235 => ?_) (fun hc235 => ?_)
                    ·
                     (exfalso; revert hc235; decide)
                    ·
                     refine r_skip (r_then (r_seq (r_region ?_))); refine o_test rfl rfl rfl (v_move rfl rfl) (fun h236 => ?_) (fun h236 => ?_)
                     all_goals
                      refine q_mv rfl rfl rfl rfl rfl ?_
                      first | refine o_gn rfl rfl rfl rfl ?_ | refine o_g _ rfl rfl rfl rfl (v_move rfl rfl) ?_
                      first | refine o_gn rfl rfl rfl rfl ?_ | refine o_g _ rfl rfl rfl rfl (v_move rfl rfl) ?_
                      first | refine o_gn rfl rfl rfl rfl ?_ | refine o_g _ rfl rfl rfl rfl (v_shrn (a := mvTo (someB (yB B p (tenI NN.lo) (tenI NN.hi)) d) B.banks.length) (h := p) rfl rfl rfl (mv_sm (by omega)) (by omega)) ?_
                      first | refine o_gn rfl rfl rfl rfl ?_ | refine o_g _ rfl rfl rfl rfl (v_andn (a := mvTo (someB (yB B p (tenI NN.lo) (tenI NN.hi)) d) B.banks.length >>> p) (b := 1) rfl rfl rfl (mv_sh (by omega)) (by decide)) ?_
                      first | refine o_gn rfl rfl rfl rfl ?_ | refine o_gtest rfl rfl rfl rfl (v_cast (v := .bool (decide ((marginT (tB (yB B p (tenI NN.lo) (tenI NN.hi))) p d).lo < 0))) (v_eql rfl rfl rfl) (congrArg Value.bool (some_1 hp))) (fun h242 => ?_) (fun h242 => ?_)
                      all_goals
                       first | refine o_q _ rfl rfl rfl (v_pick_t rfl rfl rfl) ?_ | refine o_q _ rfl rfl rfl (v_pick_f rfl rfl rfl) ?_
                       refine q_as rfl rfl rfl rfl rfl ?_; refine o_nil (r_then (r_seq (r_region ?_))); refine q_mv rfl rfl rfl rfl rfl ?_; refine o_q _ rfl rfl rfl (v_len rfl rfl Tryz.underlying39 rfl) ?_; refine q_mv rfl rfl rfl rfl rfl ?_; refine o_nil (r_then ?_); refine r_block ?_; refine r_loop (ι := Nat) (fun i => i ≤ B.banks.length) (fun i => [(5, pt b5 0), (9, .func (.func 38) #[] #[pt x72.1 0, pt x72.2 0]), (12, pt b12 0), (14, i64 (p : Int)), (16, pt b16 0), (18, i64 (spareB (oB B) (p : Int)).1), (19, i64 (spareB (oB B) (p : Int)).2), (20, i64 (untilB (yB B p (tenI NN.lo) (tenI NN.hi))).1), (21, i64 (untilB (yB B p (tenI NN.lo) (tenI NN.hi))).2), (22, .slice oe (ksTo (Sod2.drawT bys) (0 + S.spits.length + S.days.length) B p (tenI sd) (B.banks.length)).length ce), (26, i64 (wT (Sod2.drawT bys) (0 + S.spits.length + S.days.length) B (d))), (27, .bool (decide ((mnT (yB B p (tenI NN.lo) (tenI NN.hi)) p (d + 1)) < 0))), (28, i64 d), (29, i64 ((mvTo (sureB (yB B p (tenI NN.lo) (tenI NN.hi)) d) B.banks.length : Nat) : Int)), (30, i64 ((mvTo (someB (yB B p (tenI NN.lo) (tenI NN.hi)) d) B.banks.length : Nat) : Int)), (208, i64 ((B.rain.length : Int) + 1)), (209, i64 d), (244, .slice oe (ksTo (Sod2.drawT bys) (0 + S.spits.length + S.days.length) B p (tenI sd) (B.banks.length)).length ce), (245, i64 (ksTo (Sod2.drawT bys) (0 + S.spits.length + S.days.length) B p (tenI sd) (B.banks.length)).length), (246, i64 i)]) (fun i => bx b5 66 (cellsB B bo ro go bc rc gc) :: bx b12 43 [i64 NN.lo, i64 NN.hi] :: bx b16 66 (cellsB (yB B p (tenI NN.lo) (tenI NN.hi)) (some ⟨xb, 0, none⟩) ro none xcap rc 0) :: bx x72.1 3 [i64 (((0 + S.spits.length + S.days.length) + 2 * B.banks.length + 1 + d : Nat) : Int)] :: M) (fun i => rowD oe 1 Sod2.encI (ksTo (Sod2.drawT bys) (0 + S.spits.length + S.days.length) B p (tenI sd) (B.banks.length)) :: boxF x72.2 31 [.slice ba bys.length uc] :: ([rowD po 3 Sod2.encSp S.spits, rowD so 2 Foot4.encS S.days, rowD lo 3 Sod2.encLg S.logs, rowD bo 4 encB B.banks, rowD ro 2 encS B.rain, rowD go 3 encG B.signs, rowD ba 1 Foot4.encU bys, rowD (some ⟨xb, 0, none⟩) 4 encB (yB B p (tenI NN.lo) (tenI NN.hi)).banks, rowD ro 2 encS (yB B p (tenI NN.lo) (tenI NN.hi)).rain, rowD none 3 encG (yB B p (tenI NN.lo) (tenI NN.hi)).signs] ++ Rf)) (fun i => B.banks.length - i) 0 ?_ ?_ ?_
                       ·
                        exact r_here (by repeat (first | exact FSub.nil | refine FSub.cons rfl ?_ | refine FSub.cons2 rfl (congrArg Value.bool (decide_eq_true (by omega)).symm) ?_ | refine FSub.cons2 rfl (congrArg Value.bool (decide_eq_false (by omega)).symm) ?_)) SelMC.sel SubRC.sub
                       ·
                        omega
                       ·
                        rintro i hI2; have hday : i < B.banks.length → _ := fun h => day_law hy htr (i := i) (d := d) h (by omega)
                        refine r_seq (r_region ?_); refine o_q _ rfl rfl rfl (v_lss rfl rfl rfl) ?_; refine o_nil (r_then (r_seq ?_)); refine r_condd rfl (fun hc247 => ?_) (fun hc247 => ?_)
                        ·
                         refine r_skip (r_then ?_); refine r_seq (r_block ?_); refine r_seq (r_region ?_); refine q_mv rfl rfl rfl rfl rfl ?_; refine o_q _ rfl rfl rfl (v_indexAddrSn rfl Tryz.underlying39 inf3 rfl rfl rfl (by omega) rfl) ?_; refine o_q _ rfl rfl rfl (v_cast (v := i64 (kT (Sod2.drawT bys) (0 + S.spits.length + S.days.length) B p (tenI sd) i)) (v_loadE1 rfl Tryz.underlying3 rfl rfl (by omega) rfl rfl) (by rw [ksTo_at (by omega)])) ?_; refine q_as rfl rfl rfl rfl rfl ?_; refine q_as rfl rfl rfl rfl rfl ?_; refine o_nil (r_then (r_seq (r_region ?_))); refine q_mv rfl rfl rfl rfl rfl ?_; refine q_mv rfl rfl rfl rfl rfl ?_; refine o_test rfl rfl rfl (v_lss rfl rfl rfl) (fun h253 => ?_) (fun h253 => ?_)
                         all_goals
                          refine q_mv rfl rfl rfl rfl rfl ?_
                          first | refine o_gn rfl rfl rfl rfl ?_ | refine o_g _ rfl rfl rfl rfl (v_move rfl rfl) ?_
                          first | refine o_gn rfl rfl rfl rfl ?_ | refine o_g _ rfl rfl rfl rfl (v_move rfl rfl) ?_
                          first | refine o_gn rfl rfl rfl rfl ?_ | refine o_g _ rfl rfl rfl rfl (v_shrn (a := mvTo (someB (yB B p (tenI NN.lo) (tenI NN.hi)) d) B.banks.length) (h := i) rfl rfl rfl (mv_sm (by omega)) (by omega)) ?_
                          first | refine o_gn rfl rfl rfl rfl ?_ | refine o_g _ rfl rfl rfl rfl (v_andn (a := mvTo (someB (yB B p (tenI NN.lo) (tenI NN.hi)) d) B.banks.length >>> i) (b := 1) rfl rfl rfl (mv_sh (by omega)) (by decide)) ?_
                          first | refine o_gn rfl rfl rfl rfl ?_ | refine o_g _ rfl rfl rfl rfl (v_false (v_cast (v := .bool (decide (0 ≤ (marginT (tB (yB B p (tenI NN.lo) (tenI NN.hi))) i d).lo))) (v_eql rfl rfl rfl) (congrArg Value.bool (some_0 (by omega)))) (by omega)) ?_
                          all_goals
                           first | refine o_gn rfl rfl rfl rfl ?_ | refine o_g _ rfl rfl rfl rfl (v_move rfl rfl) ?_
                           first | refine o_gn rfl rfl rfl rfl ?_ | refine o_g _ rfl rfl rfl rfl (v_move rfl rfl) ?_
                           first | refine o_gn rfl rfl rfl rfl ?_ | refine o_gtest rfl rfl rfl rfl (v_eql rfl rfl rfl) (fun h262 => ?_) (fun h262 => ?_)
                           all_goals
                            first | refine o_gn rfl rfl rfl rfl ?_ | refine o_g _ rfl rfl rfl rfl (v_move rfl rfl) ?_
                            first | refine o_gn rfl rfl rfl rfl ?_ | refine o_g _ rfl rfl rfl rfl (v_move rfl rfl) ?_
                            first | refine o_gn rfl rfl rfl rfl ?_ | refine o_g _ rfl rfl rfl rfl (v_move rfl rfl) ?_
                            first | refine o_gn rfl rfl rfl rfl ?_ | refine o_g _ rfl rfl rfl rfl (v_false (v_leq rfl rfl rfl) (by omega)) ?_
                            all_goals
                             first | refine o_gn rfl rfl rfl rfl ?_ | refine o_g _ rfl rfl rfl rfl (v_pick_t rfl rfl rfl) ?_ | refine o_g _ rfl rfl rfl rfl (v_pick_f rfl rfl rfl) ?_
                             first | refine o_gn rfl rfl rfl rfl ?_ | refine o_g _ rfl rfl rfl rfl (v_pick_f rfl rfl rfl) ?_
                             first | refine o_q _ rfl rfl rfl (v_pick_t rfl rfl rfl) ?_ | refine o_q _ rfl rfl rfl (v_pick_f rfl rfl rfl) ?_
                             refine q_mv rfl rfl rfl rfl rfl ?_; refine o_g _ rfl rfl rfl rfl (v_move rfl rfl) ?_; refine o_g _ rfl rfl rfl rfl (v_move rfl rfl) ?_
                             first | refine o_g _ rfl rfl rfl rfl (v_true (v_geq rfl rfl rfl) (by omega)) ?_ | refine o_g _ rfl rfl rfl rfl (v_false (v_geq rfl rfl rfl) (by omega)) ?_
                             all_goals
                              refine o_g _ rfl rfl rfl rfl (v_move rfl rfl) ?_
                              first | refine o_gn rfl rfl rfl rfl ?_ | refine o_g _ rfl rfl rfl rfl (v_move rfl rfl) ?_
                              first | refine o_gn rfl rfl rfl rfl ?_ | refine o_g _ rfl rfl rfl rfl (v_move rfl rfl) ?_
                              first | refine o_gn rfl rfl rfl rfl ?_ | refine o_g _ rfl rfl rfl rfl (v_shrn (a := mvTo (sureB (yB B p (tenI NN.lo) (tenI NN.hi)) d) B.banks.length) (h := i) rfl rfl rfl (mv_sm (by omega)) (by omega)) ?_
                              first | refine o_gn rfl rfl rfl rfl ?_ | refine o_g _ rfl rfl rfl rfl (v_andn (a := mvTo (sureB (yB B p (tenI NN.lo) (tenI NN.hi)) d) B.banks.length >>> i) (b := 1) rfl rfl rfl (mv_sh (by omega)) (by decide)) ?_
                              first | refine o_gn rfl rfl rfl rfl ?_ | refine o_g _ rfl rfl rfl rfl (v_false (v_cast (v := .bool (decide ((marginT (tB (yB B p (tenI NN.lo) (tenI NN.hi))) i d).hi < 0))) (v_eql rfl rfl rfl) (congrArg Value.bool (sure_1 (by omega)))) (by omega)) ?_
                              all_goals
                               first | refine o_g _ rfl rfl rfl rfl (v_pick_t rfl rfl rfl) ?_ | refine o_g _ rfl rfl rfl rfl (v_pick_f rfl rfl rfl) ?_
                               refine o_q _ rfl rfl rfl (v_pick_f rfl rfl rfl) ?_; refine o_nil (r_then ?_); refine r_cond rfl (fun hc281 => ?_) (fun hc281 => ?_)
                               ·
                                (exfalso; revert hc281; decide)
                               ·
                                refine r_skip ?_; refine r_in_normal ?_; refine r_then ?_; refine r_region ?_; refine o_q _ rfl rfl rfl (v_add rfl rfl rfl (by omega)) ?_; refine q_mv rfl rfl rfl rfl rfl ?_; refine o_nil (r_then ?_); refine r_next (i + 1) ?_ ?_ ?_
                                ·
                                 exact r_here (by repeat (first | exact FSub.nil | refine FSub.cons rfl ?_)) SelMC.sel SubRC.sub
                                ·
                                 omega
                                ·
                                 omega
                        ·
                         refine r_exit ?_; refine r_then_exit ?_; refine r_then_exit ?_; refine r_in_here ?_; refine r_in_normal ?_; refine r_then ?_; refine r_region ?_; refine o_q _ rfl rfl rfl (v_add rfl rfl rfl (by omega)) ?_; refine q_mv rfl rfl rfl rfl rfl ?_; refine o_nil (r_then ?_); refine r_next (d + 1) ?_ ?_ ?_
                         ·
                          refine Imp.box_to x72.1 [i64 (((0 + S.spits.length + S.days.length) + 2 * B.banks.length + 1 + (d + 1 - 1) : Nat) : Int)] (by rfl) ?_; exact r_here (by repeat (first | exact FSub.nil | refine FSub.cons rfl ?_)) SelMC.sel SubRC.sub
                         ·
                          omega
                         ·
                          omega
                  ·
                   refine r_exit ?_; refine r_then_exit ?_; refine r_then_exit ?_; refine r_in_here ?_; refine r_then (r_seq ?_); obtain rfl : d = B.rain.length + 1 := by omega
                   refine r_region ?_; refine o_q _ rfl rfl rfl (v_ldW rfl Tryz.underlying66 rfl inf66 rfl rfl) ?_; refine o_q _ rfl rfl rfl (v_fieldAddr rfl Tryz.underlying66 inf59 rfl rfl rfl rfl) ?_; refine o_q _ rfl rfl rfl (v_ld1 rfl Tryz.underlying59 rfl rfl rfl) ?_; refine o_q _ rfl rfl rfl (v_len rfl rfl Tryz.underlying59 rfl) ?_; refine o_q _ rfl rfl rfl (OpQ.fn (firstY_v B p NN hg hy hp hc (some ⟨xb, 0, none⟩) ro xcap rc) rfl rfl SubRC.sub) ?_; refine q_mv rfl rfl rfl rfl rfl ?_; refine o_q _ rfl rfl rfl (v_extract rfl rfl rfl) ?_; refine o_q _ rfl rfl rfl (v_extract rfl rfl rfl) ?_; refine q_as rfl rfl rfl rfl rfl ?_; refine q_as rfl rfl rfl rfl rfl ?_; refine o_nil (r_then ?_); refine r_mid (ι := Unit) (fun uu => True) (fun uu => [(12, pt b12 0), (18, i64 (spareB (oB B) (p : Int)).1), (19, i64 (spareB (oB B) (p : Int)).2), (27, .bool (decide ((mnT (yB B p (tenI NN.lo) (tenI NN.hi)) p (B.rain.length + 1)) < 0)))]) (fun uu => bx b12 43 [i64 NN.lo, i64 NN.hi] :: M) (fun uu => [rowD po 3 Sod2.encSp S.spits, rowD so 2 Foot4.encS S.days, rowD lo 3 Sod2.encLg S.logs, rowD bo 4 encB B.banks, rowD ro 2 encS B.rain, rowD go 3 encG B.signs, rowD ba 1 Foot4.encU bys] ++ Rf) ?_ ?_
                   ·
                    refine r_seq ?_; have hfi := first_cases hy hc; rw [hy1, hy2] at hfi; have hfc : ((firstB (yB B p (tenI NN.lo) (tenI NN.hi)) (B.rain.length : Int)).2 = 0 ∧ (0 ≤ (firstB (yB B p (tenI NN.lo) (tenI NN.hi)) (B.rain.length : Int)).1 ∧ (firstB (yB B p (tenI NN.lo) (tenI NN.hi)) (B.rain.length : Int)).1 < (B.banks.length : Int)) ∧ (mnT (yB B p (tenI NN.lo) (tenI NN.hi)) (firstB (yB B p (tenI NN.lo) (tenI NN.hi)) (B.rain.length : Int)).1.toNat (B.rain.length + 1)) < 0) ∨ ((firstB (yB B p (tenI NN.lo) (tenI NN.hi)) (B.rain.length : Int)).2 = 4 ∧ 0 ≤ (mnT (yB B p (tenI NN.lo) (tenI NN.hi)) p (B.rain.length + 1))) := hfi.imp id (fun h => ⟨h.1, h.2 p hp⟩); refine r_region ?_; refine q_mv rfl rfl rfl rfl rfl ?_; refine o_q _ rfl rfl rfl (v_eql rfl rfl rfl) ?_; refine o_nil (r_then ?_); refine r_condd rfl (fun hc293 => ?_) (fun hc293 => ?_)
                    ·
                     refine r_seq (r_region ?_); refine q_as rfl rfl rfl rfl rfl ?_; refine o_nil (r_then (r_seq ?_)); refine r_seq (r_region ?_); refine o_q _ rfl rfl rfl (v_fieldAddr rfl Tryz.underlying66 inf59 rfl rfl rfl rfl) ?_; refine o_q _ rfl rfl rfl (v_ld1 rfl Tryz.underlying59 rfl rfl rfl) ?_; refine o_q _ rfl rfl rfl (v_len rfl rfl Tryz.underlying59 rfl) ?_; refine o_q _ rfl rfl rfl (v_add rfl rfl rfl (by omega)) ?_; refine q_mv rfl rfl rfl rfl rfl ?_; refine o_nil (r_then ?_); refine r_block ?_; refine r_loop (ι := Nat) (fun d => d ≤ B.rain.length + 1) (fun d => [(5, pt b5 0), (9, .func (.func 38) #[] #[pt x72.1 0, pt x72.2 0]), (12, pt b12 0), (14, i64 (p : Int)), (16, pt b16 0), (18, i64 (spareB (oB B) (p : Int)).1), (19, i64 (spareB (oB B) (p : Int)).2), (27, .bool (decide ((mnT (yB B p (tenI NN.lo) (tenI NN.hi)) p (B.rain.length + 1)) < 0))), (34, i64 (firstB (yB B p (tenI NN.lo) (tenI NN.hi)) (B.rain.length : Int)).1), (36, .bool (decide ((mnT (yB B p (tenI NN.lo) (tenI NN.hi)) (firstB (yB B p (tenI NN.lo) (tenI NN.hi)) (B.rain.length : Int)).1.toNat (d)) < 0))), (297, i64 ((B.rain.length : Int) + 1)), (298, i64 d)]) (fun d => bx b5 66 (cellsB B bo ro go bc rc gc) :: bx b12 43 [i64 NN.lo, i64 NN.hi] :: bx b16 66 (cellsB (yB B p (tenI NN.lo) (tenI NN.hi)) (some ⟨xb, 0, none⟩) ro none xcap rc 0) :: M) (fun d => boxF x72.2 31 [.slice ba bys.length uc] :: ([rowD po 3 Sod2.encSp S.spits, rowD so 2 Foot4.encS S.days, rowD lo 3 Sod2.encLg S.logs, rowD bo 4 encB B.banks, rowD ro 2 encS B.rain, rowD go 3 encG B.signs, rowD ba 1 Foot4.encU bys, rowD (some ⟨xb, 0, none⟩) 4 encB (yB B p (tenI NN.lo) (tenI NN.hi)).banks, rowD ro 2 encS (yB B p (tenI NN.lo) (tenI NN.hi)).rain, rowD none 3 encG (yB B p (tenI NN.lo) (tenI NN.hi)).signs] ++ Rf)) (fun d => B.rain.length + 1 - d) 0 ?_ ?_ ?_
                     ·
                      have hm0 := mnT_0 (yB B p (tenI NN.lo) (tenI NN.hi)) (firstB (yB B p (tenI NN.lo) (tenI NN.hi)) (B.rain.length : Int)).1.toNat; exact r_here (by repeat (first | exact FSub.nil | refine FSub.cons rfl ?_ | refine FSub.cons2 rfl (congrArg Value.bool (decide_eq_true (by omega)).symm) ?_ | refine FSub.cons2 rfl (congrArg Value.bool (decide_eq_false (by omega)).symm) ?_)) SelMC.sel SubRC.sub
                     ·
                      omega
                     ·
                      rintro d hI3; have hmq := mnT_s (yB B p (tenI NN.lo) (tenI NN.hi)) (firstB (yB B p (tenI NN.lo) (tenI NN.hi)) (B.rain.length : Int)).1.toNat d; refine r_seq (r_region ?_); refine o_q _ rfl rfl rfl (v_lss rfl rfl rfl) ?_; refine o_nil (r_then (r_seq ?_)); refine r_condd rfl (fun hc299 => ?_) (fun hc299 => ?_)
                      ·
                       refine r_skip (r_then ?_); refine r_seq (r_block ?_); refine r_seq (r_region ?_); refine q_mv rfl rfl rfl rfl rfl ?_; refine q_as rfl rfl rfl rfl rfl ?_; refine o_nil (r_then (r_seq ?_)); refine r_seq (r_region ?_); refine q_mv rfl rfl rfl rfl rfl ?_; refine o_q _ rfl rfl rfl (v_false (v_lss rfl rfl rfl) (by omega)) ?_
                       all_goals
                        refine q_mv rfl rfl rfl rfl rfl ?_; refine o_g _ rfl rfl rfl rfl (v_move rfl rfl) ?_; refine o_g _ rfl rfl rfl rfl (v_fieldAddr rfl Tryz.underlying66 inf63 rfl rfl rfl rfl) ?_; refine o_g _ rfl rfl rfl rfl (v_ld1 rfl Tryz.underlying63 rfl rfl rfl) ?_; refine o_g _ rfl rfl rfl rfl (v_len rfl rfl Tryz.underlying63 rfl) ?_; refine o_g _ rfl rfl rfl rfl (v_false (v_geq rfl rfl rfl) (by omega)) ?_
                        all_goals
                         refine o_q _ rfl rfl rfl (v_pick_f rfl rfl rfl) ?_; refine o_nil (r_then ?_); refine r_cond rfl (fun hc309 => ?_) (fun hc309 => ?_)
                         ·
                          (exfalso; revert hc309; decide)
                         ·
                          refine r_skip (r_then (r_seq (r_region ?_))); refine o_q _ rfl rfl rfl (v_ldW rfl Tryz.underlying66 rfl inf66 rfl rfl) ?_; refine q_mv rfl rfl rfl rfl rfl ?_; refine q_mv rfl rfl rfl rfl rfl ?_; refine o_q _ rfl rfl rfl (OpQ.fn (marginY_v B p NN hg hy hp hc (some ⟨xb, 0, none⟩) ro xcap rc d (firstB (yB B p (tenI NN.lo) (tenI NN.hi)) (B.rain.length : Int)).1 (by omega) (by omega) (by omega)) rfl rfl SubRC.sub) ?_; refine q_mv rfl rfl rfl rfl rfl ?_; refine o_q _ rfl rfl rfl (v_extract rfl rfl rfl) ?_; refine o_q _ rfl rfl rfl (v_extract rfl rfl rfl) ?_; refine o_alloc rfl inf43 rfl rfl rfl rfl rfl (fun b38 => ?_); refine o_st rfl inf43 rfl rfl rfl rfl rfl rfl rfl rfl ?_; refine q_as rfl rfl rfl rfl rfl ?_; refine o_nil (r_then ?_); refine Imp.box_to b38 [i64 (marginT (tB (yB B p (tenI NN.lo) (tenI NN.hi))) (firstB (yB B p (tenI NN.lo) (tenI NN.hi)) (B.rain.length : Int)).1.toNat d).lo, i64 (marginT (tB (yB B p (tenI NN.lo) (tenI NN.hi))) (firstB (yB B p (tenI NN.lo) (tenI NN.hi)) (B.rain.length : Int)).1.toNat d).hi] rfl ?_; refine r_region ?_; refine o_test rfl rfl rfl (v_move rfl rfl) (fun h317 => ?_) (fun h317 => ?_)
                          all_goals
                           refine q_mv rfl rfl rfl rfl rfl ?_
                           first | refine o_gn rfl rfl rfl rfl ?_ | refine o_g _ rfl rfl rfl rfl (v_move rfl rfl) ?_
                           first | refine o_gn rfl rfl rfl rfl ?_ | refine o_g _ rfl rfl rfl rfl (v_true (v_eql rfl rfl rfl) (by omega)) ?_
                           all_goals
                            first | refine o_gn rfl rfl rfl rfl ?_ | refine o_g _ rfl rfl rfl rfl (v_move rfl rfl) ?_
                            first | refine o_gn rfl rfl rfl rfl ?_ | refine o_g _ rfl rfl rfl rfl (v_fieldAddr rfl Tryz.underlying43 inf3 rfl rfl rfl rfl) ?_
                            first | refine o_gn rfl rfl rfl rfl ?_ | refine o_g _ rfl rfl rfl rfl (v_ld1 rfl Tryz.underlying3 rfl rfl rfl) ?_
                            first | refine o_gn rfl rfl rfl rfl ?_ | refine o_gtest rfl rfl rfl rfl (v_lss rfl rfl rfl) (fun h324 => ?_) (fun h324 => ?_)
                            all_goals
                             first | refine o_gn rfl rfl rfl rfl ?_ | refine o_g _ rfl rfl rfl rfl (v_pick_t rfl rfl rfl) ?_
                             first | refine o_q _ rfl rfl rfl (v_pick_t rfl rfl rfl) ?_ | refine o_q _ rfl rfl rfl (v_pick_f rfl rfl rfl) ?_
                             refine q_as rfl rfl rfl rfl rfl ?_; refine o_nil ?_; refine r_in_normal ?_; refine r_then ?_; refine r_region ?_; refine o_q _ rfl rfl rfl (v_add rfl rfl rfl (by omega)) ?_; refine q_mv rfl rfl rfl rfl rfl ?_; refine o_nil (r_then ?_); refine r_next (d + 1) ?_ ?_ ?_
                             ·
                              exact r_here (by repeat (first | exact FSub.nil | refine FSub.cons rfl ?_ | refine FSub.cons2 rfl (congrArg Value.bool (decide_eq_true (by omega)).symm) ?_ | refine FSub.cons2 rfl (congrArg Value.bool (decide_eq_false (by omega)).symm) ?_)) SelMC.sel SubRC.sub
                             ·
                              omega
                             ·
                              omega
                      ·
                       refine r_exit ?_; refine r_then_exit ?_; refine r_then_exit ?_; refine r_in_here ?_; refine r_then (r_seq ?_); obtain rfl : d = B.rain.length + 1 := by omega
                       refine r_region ?_; refine o_q _ rfl rfl rfl (v_true (v_move rfl rfl) (by omega)) ?_
                       all_goals
                        refine o_q _ rfl rfl rfl (v_not rfl rfl) ?_; refine o_nil (r_then ?_); refine r_cond rfl (fun hc329 => ?_) (fun hc329 => ?_)
                        ·
                         (exfalso; revert hc329; decide)
                        ·
                         refine r_skip (r_then ?_); exact r_here_mid () (by exact r_here (by repeat (first | exact FSub.nil | refine FSub.cons rfl ?_)) SelMC.sel SubRC.sub) trivial
                    ·
                     refine r_seq (r_region ?_); refine q_mv rfl rfl rfl rfl rfl ?_; refine o_q _ rfl rfl rfl (v_false (v_neq rfl rfl rfl) (by omega)) ?_
                     all_goals
                      refine q_mv rfl rfl rfl rfl rfl ?_; refine o_g _ rfl rfl rfl rfl (v_move rfl rfl) ?_; refine o_q _ rfl rfl rfl (v_pick_f rfl rfl rfl) ?_; refine o_nil (r_then ?_); refine r_condd rfl (fun hc334 => ?_) (fun hc334 => ?_)
                      ·
                       (exfalso; omega)
                      ·
                       refine r_skip (r_then ?_); exact r_here_mid () (by exact r_here (by repeat (first | exact FSub.nil | refine FSub.cons rfl ?_)) SelMC.sel SubRC.sub) trivial
                   ·
                    intro uu hm; refine r_seq (r_region ?_); refine q_mv rfl rfl rfl rfl rfl ?_; refine q_mv rfl rfl rfl rfl rfl ?_; refine o_test rfl rfl rfl (v_neq rfl rfl rfl) (fun h337 => ?_) (fun h337 => ?_)
                    all_goals
                     refine q_mv rfl rfl rfl rfl rfl ?_
                     first | refine o_gn rfl rfl rfl rfl ?_ | refine o_g _ rfl rfl rfl rfl (v_fieldAddr rfl Tryz.underlying43 inf3 rfl rfl rfl rfl) ?_
                     first | refine o_gn rfl rfl rfl rfl ?_ | refine o_g _ rfl rfl rfl rfl (v_ld1 rfl Tryz.underlying3 rfl rfl rfl) ?_
                     first | refine o_gn rfl rfl rfl rfl ?_ | refine o_g _ rfl rfl rfl rfl (OpQ.fn (ten_v _ (by omega) (by omega)) rfl rfl SubRC.sub) ?_
                     first | refine o_gn rfl rfl rfl rfl ?_ | refine o_g _ rfl rfl rfl rfl (v_move rfl rfl) ?_
                     first | refine o_gn rfl rfl rfl rfl ?_ | refine o_gtest rfl rfl rfl rfl (v_gtr rfl rfl rfl) (fun h343 => ?_) (fun h343 => ?_)
                     all_goals
                      first | refine o_q _ rfl rfl rfl (v_pick_t rfl rfl rfl) ?_ | refine o_q _ rfl rfl rfl (v_pick_f rfl rfl rfl) ?_
                      refine o_q _ rfl rfl rfl (v_eqlB (c := true) rfl Tryz.underlying4 rfl rfl (by rw [beq_iff_eq]; first | exact decide_eq_true (by omega) | exact decide_eq_false (by omega))) ?_; refine q_mv rfl rfl rfl rfl rfl ?_; refine o_g _ rfl rfl rfl rfl (OpQ.fn awake08_v rfl rfl SubRC.sub) ?_; refine o_q _ rfl rfl rfl (v_pick_t rfl rfl rfl) ?_; refine q_as rfl rfl rfl rfl rfl ?_; refine o_nil (r_then ?_); refine r_ret ?_; exact r_retv2 (Rd.tmp rfl rfl) rfl SelMC.sel SubRC.sub
end Go.Proofs.YtpndeonmmcaikaaGreat.CutW
