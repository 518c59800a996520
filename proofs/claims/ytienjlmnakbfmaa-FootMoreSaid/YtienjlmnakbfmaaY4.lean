/- Part 4 of 4 of what the proofs of this seat stand on: a small logic for walks, what the functions come to, and the walks themselves. No condition of its own. -/
import Derived.Test.YtienjlmnakbfmaaY3
import Derived.Test.YtienjlmnakbfmaaY1
import Derived.Deep.Slices
import Derived.ProofKit
import Derived.OpenShut
import Derived.Test.YtienjlmnakbfmaaRows
set_option linter.unusedVariables false
set_option linter.unusedSimpArgs false
namespace Go.Proofs.Ytienjlmnakbfmaa
open Go.G Foot4
set_option maxRecDepth 1000000
attribute [local irreducible] G.ParO G.Fin
variable (F : Work) (ro ho : Option Addr) (rc hc : Nat)
theorem soonT_v (hg : GoodF F) (heap : Nat) (hh : heap < F.heaps.length) (oz : Option Addr) (cz : Nat) : FnV Try.prog 19 [valF (turned F) ro rc oz cz, i64 ((F.heaps.length - 1 - heap : Nat) : Int)] [rowD ro 2 encS F.rain, rowD oz 3 encH F.heaps.reverse] (.tuple #[.agg #[i64 (soonP F heap).1.a, i64 (soonP F heap).1.b, i64 (soonP F heap).1.c], i64 (soonP F heap).2]) := by
  have h := SoonP_v (turned F) ro oz rc cz ((F.heaps.length - 1 - heap : Nat) : Int) (by have := hg.1; show F.rain.length ≤ 40; omega) (by have := hg.2.2.1; show F.heaps.reverse.length ≤ 40; rw [List.length_reverse]; omega)
  rw [turned_soon hg hh] at h; exact h
theorem bestT_s (hg : GoodF F) (oz : Option Addr) (cz : Nat) : FnS Try.prog 26 [valF (turned F) ro rc oz cz] [] [rowD ro 2 encS F.rain, rowD oz 3 encH F.heaps.reverse] (fun e M' R' => ∃ v, e = .returned (.tuple #[i64 (bestS F F.men), v, i64 0]) ∧ M' = [ownL v 27 3 encT (bestL (turned F))] ∧ R' = []) := by
  have h := EBest_s (turned F) ro oz rc cz (turned_good hg)
  rw [show bestS (turned F) (turned F).men = bestS F F.men from turned_best hg] at h; exact h
set_option maxHeartbeats 4000000 in
theorem mores_v (w0 m0 p0 : Nat) (hw : w0 ≤ 255) (hm0 : m0 ≤ 255) (hp0 : p0 ≤ 65535) : FnV Try.prog 12 [valF F ro rc ho hc, .int .u8 w0, .int .u8 m0, .int .u16 p0] [rowD ro 2 encS F.rain, rowD ho 3 encH F.heaps] (.bool true) := by
  refine FnV.intro Try.call12 Try.func12 rfl Try.ntmps12 rfl ?_
  intro W M Rf
  refine r_seq ?_
  refine r_region ?_
  refine o_boxA rfl rfl rfl rfl rfl (fun b4 => ?_)
  refine o_q _ rfl rfl rfl (v_assign rfl rfl) ?_
  refine o_nil ?_
  with_reducible refine r_then ?_
  refine r_seq ?_
  refine r_seq ?_
  refine r_region ?_
  refine o_q _ rfl rfl rfl (v_ldW rfl Try.underlying26 rfl inf26 rfl rfl) ?_
  refine o_test rfl rfl rfl (OpQ.fn (fine_v F ro ho rc hc) rfl rfl SubRC.sub) (fun h47 => ?_) (fun h47 => ?_)
  all_goals
    refine o_q _ rfl rfl rfl (v_not rfl rfl) ?_
    refine o_q _ rfl rfl rfl (v_move rfl rfl) ?_
    first | refine o_gn rfl rfl rfl rfl ?_ | refine o_g _ rfl rfl rfl rfl (v_fieldAddr rfl Try.underlying26 inf24 rfl rfl rfl rfl) ?_
    first | refine o_gn rfl rfl rfl rfl ?_ | refine o_g _ rfl rfl rfl rfl (v_ld1 rfl Try.underlying24 rfl rfl rfl) ?_
    first | refine o_gn rfl rfl rfl rfl ?_ | refine o_g _ rfl rfl rfl rfl (v_len rfl rfl Try.underlying24 rfl) ?_
    first | refine o_gn rfl rfl rfl rfl ?_ | refine o_gtest rfl rfl rfl rfl (v_eql rfl rfl rfl) (fun h53 => ?_) (fun h53 => ?_)
    all_goals
      first | refine o_q _ rfl rfl rfl (v_pick_t rfl rfl rfl) ?_ | refine o_q _ rfl rfl rfl (v_pick_f rfl rfl rfl) ?_
      refine o_nil ?_
      with_reducible refine r_then ?_
      refine r_cond rfl (fun hc54 => ?_) (fun hc54 => ?_)
      ·
        first
        | (exfalso; revert hc54; decide)
        | skip
          refine r_seq ?_
          refine r_region ?_
          refine o_q _ rfl rfl rfl (OpQ.fn awake_v rfl rfl SubRC.sub) ?_
          refine o_q _ rfl rfl rfl (v_assign rfl rfl) ?_
          refine o_nil ?_
          with_reducible refine r_then ?_
          refine r_ret ?_
          with_reducible refine r_then_ret ?_
          exact r_retv2 (Rd.tmp rfl rfl) rfl SelMC.sel SubRC.sub
      ·
        first
        | (exfalso; revert hc54; decide)
        | skip
          refine r_skip ?_
          with_reducible refine r_then ?_
          refine r_seq ?_
          have hg : GoodF F := by assumption
          have h8 := hg.1
          have h3 := hg.2.2.1
          refine r_region ?_
          refine o_q _ rfl rfl rfl (v_fieldAddr rfl Try.underlying26 inf24 rfl rfl rfl rfl) ?_
          refine o_q _ rfl rfl rfl (v_ld1 rfl Try.underlying24 rfl rfl rfl) ?_
          refine o_q _ rfl rfl rfl (v_len rfl rfl Try.underlying24 rfl) ?_
          refine o_q _ rfl rfl rfl (v_assign rfl rfl) ?_
          refine o_nil ?_
          with_reducible refine r_then ?_
          refine r_seq ?_
          refine r_par' 9 mixed (by kernel_rfl) (by rfl) ?_
          refine p_q _ rfl rfl rfl (fun _ _ => v_move rfl rfl) ?_
          refine p_q _ rfl rfl rfl (fun _ _ => v_conv rfl Try.underlying5 Try.underlying3 rfl (IntWalk.i64_in _ (by omega))) ?_
          refine p_q _ rfl rfl rfl (fun _ _ => v_move rfl rfl) ?_
          refine p_q _ rfl rfl rfl (fun _ _ => v_cast (v := i64 ((w0 % F.heaps.length : Nat) : Int)) (v_rem rfl rfl rfl (by omega)) (congrArg (Value.int .i64) (tmod_nat (a := w0) (b := F.heaps.length)))) ?_
          refine p_q _ rfl rfl rfl (fun _ _ => v_ldW rfl Try.underlying26 rfl inf26 rfl rfl) ?_
          refine p_q _ rfl rfl rfl (fun _ _ => v_move rfl rfl) ?_
          refine p_q _ rfl rfl rfl (fun _ _ => v_conv rfl Try.underlying49 Try.underlying3 rfl (IntWalk.i64_in _ (by omega))) ?_
          refine p_q _ rfl rfl rfl (fun _ _ => OpQ.fn (EMade_v F ro ho rc hc hg p0 hp0) rfl rfl SubRC.sub) ?_
          refine p_alloc rfl inf27 rfl rfl rfl rfl rfl ?_
          refine p_nil2 (by simp only [List.nil_append, List.cons_append]; rfl) rfl ?_
          refine f_q rfl ?_
          refine f_q rfl ?_
          refine f_q rfl ?_
          refine f_q rfl ?_
          refine f_q rfl ?_
          refine f_q rfl ?_
          refine f_q rfl ?_
          refine f_q rfl ?_
          refine f_alloc rfl (fun b11 => ?_)
          refine f_nil ?_
          refine o_q _ rfl rfl rfl (v_assign rfl rfl) ?_
          refine o_st rfl inf27 rfl rfl rfl rfl rfl rfl rfl rfl ?_
          refine o_nil ?_
          with_reducible refine r_then ?_
          refine r_seq ?_
          have hhp : w0 % F.heaps.length < F.heaps.length := Nat.mod_lt w0 (by omega)
          have hri : w0 % F.rain.length < F.rain.length := Nat.mod_lt w0 (by omega)
          have h3w : w0 % 3 < 3 := Nat.mod_lt w0 (by decide)
          obtain ⟨X, hX⟩ : ∃ X, X = easeTo F m0 w0 := ⟨_, rfl⟩
          have hE : Ease F X := by rw [hX]; exact ease_ok hg (by omega) m0 w0
          have hbn := bestL_len F
          refine r_par' 5 mixed (by kernel_rfl) (by rfl) ?_
          refine p_q _ rfl rfl rfl (fun _ _ => v_ldW rfl Try.underlying26 rfl inf26 rfl rfl) ?_
          refine p_q _ rfl rfl rfl (fun _ _ => v_ldW rfl Try.underlying26 rfl inf26 rfl rfl) ?_
          refine p_allocL 4 (cellsF F ro rc ho hc) rfl inf26 rfl rfl rfl rfl rfl ?_
          refine p_alloc rfl inf26 rfl rfl rfl rfl rfl ?_
          refine p_acc (by simp only [List.nil_append, List.cons_append]; rfl) ?_
          refine p_stl 2 rfl rfl rfl inf26 rfl rfl rfl (by kernel_rfl) (fun _ => rfl) rfl rfl rfl rfl ?_
          refine p_nil2 (by simp only [List.nil_append, List.cons_append]; rfl) rfl ?_ (by kernel_rfl)
          refine f_q rfl ?_
          refine f_q rfl ?_
          refine f_allocL rfl (fun b12 => ?_)
          refine f_alloc rfl (fun b13 => ?_)
          refine f_s rfl ?_
          refine f_nil ?_
          refine o_st rfl inf26 rfl rfl rfl rfl rfl rfl rfl rfl ?_
          refine o_nil ?_
          with_reducible refine r_then ?_
          refine r_seq ?_
          refine r_par' 9 mixed (by kernel_rfl) (by rfl) ?_
          refine p_lit0 rfl Try.underlying22 inf31 rfl rfl rfl ?_
          refine p_q _ rfl rfl rfl (fun _ _ => v_fieldAddr rfl Try.underlying26 inf22 rfl rfl rfl rfl) ?_
          refine p_q _ rfl rfl rfl (fun _ _ => v_ld1 rfl Try.underlying22 rfl rfl rfl) ?_
          refine p_acc (by simp only [List.nil_append, List.cons_append]; rfl) ?_
          refine p_appN (sz := 2) 0 rfl rfl rfl (by kernel_rfl) rfl rfl rfl rfl Try.underlying22 inf31 rfl rfl rfl encS_len (fun _ => rfl) ⟨by omega, by decide⟩ ?_
          refine p_lit0 rfl Try.underlying24 inf73 rfl rfl rfl ?_
          refine p_q _ rfl rfl rfl (fun _ _ => v_fieldAddr rfl Try.underlying26 inf24 rfl rfl rfl rfl) ?_
          refine p_q _ rfl rfl rfl (fun _ _ => v_ld1 rfl Try.underlying24 rfl rfl rfl) ?_
          refine p_acc (by simp only [List.nil_append, List.cons_append]; rfl) ?_
          refine p_appN (sz := 3) 4 rfl rfl rfl (by kernel_rfl) rfl rfl rfl rfl Try.underlying24 inf73 rfl rfl rfl encH_len (fun _ => rfl) ⟨by omega, by decide⟩ ?_
          refine p_q _ rfl rfl rfl (fun _ _ => v_fieldAddr rfl Try.underlying26 inf22 rfl rfl rfl rfl) ?_
          refine p_nil2 (by simp only [List.nil_append, List.cons_append]; rfl) rfl ?_
          refine f_l0 rfl (fun b69 => ?_)
          refine f_q rfl ?_
          refine f_q rfl ?_
          refine f_oz rfl (fun v72 => ?_)
          refine f_l0 rfl (fun b73 => ?_)
          refine f_q rfl ?_
          refine f_q rfl ?_
          refine f_oz rfl (fun v76 => ?_)
          refine f_q rfl ?_
          refine f_nil ?_
          refine Imp.openZ (T := 31) (sz := 2) (enc := encS) (xs := F.rain) v72 (by omega) (fun rb rcap rsp hv => ?_)
          subst hv
          refine Imp.openZ (T := 73) (sz := 3) (enc := encH) (xs := F.heaps) v76 (by omega) (fun hb2 hcap hsp hv => ?_)
          subst hv
          refine o_st rfl inf22 rfl rfl rfl rfl rfl rfl rfl rfl ?_
          refine o_q _ rfl rfl rfl (v_fieldAddr rfl Try.underlying26 inf24 rfl rfl rfl rfl) ?_
          refine o_st rfl inf24 rfl rfl rfl rfl rfl rfl rfl rfl ?_
          refine o_q _ rfl rfl rfl (v_fieldAddr rfl Try.underlying26 inf24 rfl rfl rfl rfl) ?_
          refine o_st rfl inf24 rfl rfl rfl rfl rfl rfl rfl rfl ?_
          refine o_nil ?_
          with_reducible refine r_then ?_
          refine r_seq ?_
          refine r_region ?_
          refine o_q _ rfl rfl rfl (v_move rfl rfl) ?_
          refine o_q _ rfl rfl rfl (v_conv rfl Try.underlying5 Try.underlying3 rfl (IntWalk.i64_in _ (by omega))) ?_
          refine o_q _ rfl rfl rfl (v_cast (v := .int .i64 ((w0 % 3 : Nat) : Int)) (v_rem rfl rfl rfl (by omega)) (congrArg (Value.int .i64) (tmod_nat (a := w0) (b := 3)))) ?_
          refine o_q _ rfl rfl rfl (v_assign rfl rfl) ?_
          refine o_nil ?_
          with_reducible refine r_then ?_
          refine r_mid (ι := Unit) (fun _ => True) (fun _ => [(4, pt b4 0), (9, i64 F.heaps.length), (10, i64 ((w0 % F.heaps.length) : Nat)), (11, pt b11 0), (12, pt b12 0), (13, pt b13 0)]) (fun _ => bx b12 26 (cellsF X (some ⟨rb, 0, none⟩) rcap (some ⟨hb2, 0, none⟩) hcap) :: bx b13 26 ([.slice ro F.rain.length rc, i64 F.men, i64 F.lim.a, i64 F.lim.b, i64 F.lim.c, i64 F.dr.a, i64 F.dr.b, i64 F.dr.c, .slice none 0 0]) :: bx b11 27 [i64 (madeP F.rain.length p0).a, i64 (madeP F.rain.length p0).b, i64 (madeP F.rain.length p0).c] :: bx b4 26 (cellsF F ro rc ho hc) :: M) (fun _ => rowD (some ⟨rb, 0, none⟩) 2 encS X.rain :: rowD (some ⟨hb2, 0, none⟩) 3 encH X.heaps :: ([rowD ro 2 encS F.rain, rowD ho 3 encH F.heaps] ++ Rf)) ?_ ?_
          ·
            refine r_seq ?_
            have hm4 := Nat.mod_lt m0 (show 0 < 4 by decide)
            refine r_region ?_
            refine o_q _ rfl rfl rfl (v_move rfl rfl) ?_
            refine o_q _ rfl rfl rfl (v_cast (v := .int .u8 ((m0 % 4 : Nat) : Int)) (v_rem rfl rfl rfl (by omega)) (congrArg (Value.int .u8) (tmod_nat (a := m0) (b := 4)))) ?_
            refine o_nil ?_
            with_reducible refine r_then ?_
            refine r_block ?_
            refine r_seq ?_
            refine r_region ?_
            refine o_q _ rfl rfl rfl (v_eql rfl rfl rfl) ?_
            refine o_q _ rfl rfl rfl (v_assign rfl rfl) ?_
            refine o_nil ?_
            with_reducible refine r_then ?_
            refine r_condd rfl (fun hc94 => ?_) (fun hc94 => ?_)
            ·
              refine r_seq ?_
              refine r_region_q mixed (by kernel_rfl) ?_
              refine q_q _ rfl rfl rfl (v_fieldAddr rfl Try.underlying26 inf22 rfl rfl rfl rfl) ?_
              refine q_q _ rfl rfl rfl (v_ld1 rfl Try.underlying22 rfl rfl rfl) ?_
              refine q_q _ rfl rfl rfl (v_move rfl rfl) ?_
              refine q_q _ rfl rfl rfl (v_conv rfl Try.underlying5 Try.underlying3 rfl (IntWalk.i64_in _ (by omega))) ?_
              refine q_q _ rfl rfl rfl (v_fieldAddr rfl Try.underlying26 inf22 rfl rfl rfl rfl) ?_
              refine q_q _ rfl rfl rfl (v_ld1 rfl Try.underlying22 rfl rfl rfl) ?_
              refine q_q _ rfl rfl rfl (v_len rfl rfl Try.underlying22 rfl) ?_
              refine q_q _ rfl rfl rfl (v_cast (v := .int .i64 ((w0 % F.rain.length : Nat) : Int)) (v_rem rfl rfl rfl (by omega)) (congrArg (Value.int .i64) (tmod_nat (a := w0) (b := F.rain.length)))) ?_
              refine q_q _ rfl rfl rfl (v_indexAddrB rfl Try.underlying22 inf31 rfl rfl hri) ?_
              refine q_q _ rfl rfl rfl (v_assign rfl rfl) ?_
              refine q_nil ?_
              with_reducible refine r_then ?_
              have hsr := hg.2.2.2.1 _ hri
              refine r_par' 11 mixed (by kernel_rfl) (by rfl) ?_
              refine p_q _ rfl rfl rfl (fun _ _ => v_move rfl rfl) ?_
              refine p_q _ rfl rfl rfl (fun _ _ => v_move rfl rfl) ?_
              refine p_q _ rfl rfl rfl (fun _ _ => v_nilCheck rfl rfl) ?_
              refine p_q _ rfl rfl rfl (fun _ _ => v_fieldAddr rfl Try.underlying31 inf3 rfl rfl rfl rfl) ?_
              refine p_q _ rfl rfl rfl (fun _ _ => v_ld1 (v := i64 (F.rain.getD (w0 % F.rain.length) default).lo) rfl Try.underlying3 rfl rfl ((flat_get (j := 0) encS_len hri (by decide)).trans rfl)) ?_
              refine p_q _ rfl rfl rfl (fun _ _ => v_move rfl rfl) ?_
              refine p_q _ rfl rfl rfl (fun _ _ => v_nilCheck rfl rfl) ?_
              refine p_q _ rfl rfl rfl (fun _ _ => v_fieldAddr rfl Try.underlying31 inf3 rfl rfl rfl rfl) ?_
              refine p_q _ rfl rfl rfl (fun _ _ => v_ld1 (v := i64 (F.rain.getD (w0 % F.rain.length) default).hi) rfl Try.underlying3 rfl rfl ((flat_get (j := 1) encS_len hri (by decide)).trans rfl)) ?_
              refine p_q _ rfl rfl rfl (fun _ _ => v_sub rfl rfl rfl (by omega)) ?_
              refine p_q _ rfl rfl rfl (fun _ _ => v_max2 rfl rfl rfl) ?_
              refine p_nil2 (by simp only [List.nil_append, List.cons_append]; rfl) rfl ?_
              refine f_q rfl ?_
              refine f_q rfl ?_
              refine f_q rfl ?_
              refine f_q rfl ?_
              refine f_q rfl ?_
              refine f_q rfl ?_
              refine f_q rfl ?_
              refine f_q rfl ?_
              refine f_q rfl ?_
              refine f_q rfl ?_
              refine f_q rfl ?_
              refine f_nil ?_
              refine o_q _ rfl rfl rfl (v_nilCheck rfl rfl) ?_
              refine o_q _ rfl rfl rfl (v_fieldAddr rfl Try.underlying31 inf3 rfl rfl rfl rfl) ?_
              refine o_st rfl inf3 rfl rfl rfl rfl rfl rfl rfl (Nat.ble_eq_true_of_le (by rw [List.length_append, flat_len encS_len]; show w0 % F.rain.length * 2 + 1 + 1 ≤ _; omega)) ?_
              refine o_nil ?_
              with_reducible refine r_in_normal ?_; refine r_then ?_
              ((have hw : m0 % 4 = 0 := by omega); refine Imp.box_to rb (X.rain.flatMap encS ++ rsp) (by rw [hX, ease_0 hw]; exact flat_set encS_len _ _ 1 hri (by decide) rfl) ?_; refine Imp.box_to hb2 (X.heaps.flatMap encH ++ hsp) (by rw [hX, ease_0 hw]; try rfl) ?_; refine Imp.box_to b12 (cellsF X (some ⟨rb, 0, none⟩) rcap (some ⟨hb2, 0, none⟩) hcap) (by rw [hX, ease_0 hw]; show cellsF F (some ⟨rb, 0, none⟩) rcap (some ⟨hb2, 0, none⟩) hcap = _; simp only [cellsF, List.length_set]) ?_; refine Imp.box_to b13 ([.slice ro F.rain.length rc, i64 F.men, i64 F.lim.a, i64 F.lim.b, i64 F.lim.c, i64 F.dr.a, i64 F.dr.b, i64 F.dr.c, .slice none 0 0]) rfl ?_; refine Imp.box_to b11 [i64 (madeP F.rain.length p0).a, i64 (madeP F.rain.length p0).b, i64 (madeP F.rain.length p0).c] rfl ?_; refine Imp.sealB rb ?_; refine Imp.sealB hb2 ?_; refine Imp.rowP (b := rb) X.rain encS_len rfl ?_; refine Imp.rowP (b := hb2) X.heaps encH_len rfl ?_; exact r_here_mid () (by exact r_here (by repeat (first | exact FSub.nil | refine FSub.cons rfl ?_)) SelMC.sel SubRC.sub) trivial)
            ·
              refine r_seq ?_
              refine r_region ?_
              refine o_q _ rfl rfl rfl (v_eql rfl rfl rfl) ?_
              refine o_q _ rfl rfl rfl (v_assign rfl rfl) ?_
              refine o_nil ?_
              with_reducible refine r_then ?_
              refine r_condd rfl (fun hc118 => ?_) (fun hc118 => ?_)
              ·
                refine r_seq ?_
                refine r_region ?_
                refine o_q _ rfl rfl rfl (v_fieldAddr rfl Try.underlying26 inf24 rfl rfl rfl rfl) ?_
                refine o_q _ rfl rfl rfl (v_ld1 rfl Try.underlying24 rfl rfl rfl) ?_
                refine o_q _ rfl rfl rfl (v_move rfl rfl) ?_
                refine o_q _ rfl rfl rfl (v_indexAddrB rfl Try.underlying24 inf73 rfl rfl hhp) ?_
                refine o_q _ rfl rfl rfl (v_fieldAddr rfl Try.underlying73 inf31 rfl rfl rfl rfl) ?_
                refine o_q _ rfl rfl rfl (v_assign rfl rfl) ?_
                refine o_nil ?_
                with_reducible refine r_then ?_
                have hsh := hg.2.2.2.2.2 _ hhp
                refine r_par' 11 mixed (by kernel_rfl) (by rfl) ?_
                refine p_q _ rfl rfl rfl (fun _ _ => v_move rfl rfl) ?_
                refine p_q _ rfl rfl rfl (fun _ _ => v_move rfl rfl) ?_
                refine p_q _ rfl rfl rfl (fun _ _ => v_nilCheck rfl rfl) ?_
                refine p_q _ rfl rfl rfl (fun _ _ => v_fieldAddr rfl Try.underlying31 inf3 rfl rfl rfl rfl) ?_
                refine p_q _ rfl rfl rfl (fun _ _ => v_ld1 (v := i64 (F.heaps.getD (w0 % F.heaps.length) default).lo) rfl Try.underlying3 rfl rfl ((flat_get (j := 0) encH_len hhp (by decide)).trans rfl)) ?_
                refine p_q _ rfl rfl rfl (fun _ _ => v_move rfl rfl) ?_
                refine p_q _ rfl rfl rfl (fun _ _ => v_nilCheck rfl rfl) ?_
                refine p_q _ rfl rfl rfl (fun _ _ => v_fieldAddr rfl Try.underlying31 inf3 rfl rfl rfl rfl) ?_
                refine p_q _ rfl rfl rfl (fun _ _ => v_ld1 (v := i64 (F.heaps.getD (w0 % F.heaps.length) default).hi) rfl Try.underlying3 rfl rfl ((flat_get (j := 1) encH_len hhp (by decide)).trans rfl)) ?_
                refine p_q _ rfl rfl rfl (fun _ _ => v_sub rfl rfl rfl (by omega)) ?_
                refine p_q _ rfl rfl rfl (fun _ _ => v_max2 rfl rfl rfl) ?_
                refine p_nil2 (by simp only [List.nil_append, List.cons_append]; rfl) rfl ?_
                refine f_q rfl ?_
                refine f_q rfl ?_
                refine f_q rfl ?_
                refine f_q rfl ?_
                refine f_q rfl ?_
                refine f_q rfl ?_
                refine f_q rfl ?_
                refine f_q rfl ?_
                refine f_q rfl ?_
                refine f_q rfl ?_
                refine f_q rfl ?_
                refine f_nil ?_
                refine o_q _ rfl rfl rfl (v_nilCheck rfl rfl) ?_
                refine o_q _ rfl rfl rfl (v_fieldAddr rfl Try.underlying31 inf3 rfl rfl rfl rfl) ?_
                refine o_st rfl inf3 rfl rfl rfl rfl rfl rfl rfl (Nat.ble_eq_true_of_le (by rw [List.length_append, flat_len encH_len]; show w0 % F.heaps.length * 3 + 0 + 1 + 1 ≤ _; omega)) ?_
                refine o_nil ?_
                with_reducible refine r_in_normal ?_; refine r_then ?_
                ((have hw : m0 % 4 = 1 := by omega); refine Imp.box_to rb (X.rain.flatMap encS ++ rsp) (by rw [hX, ease_1 hw]; try rfl) ?_; refine Imp.box_to hb2 (X.heaps.flatMap encH ++ hsp) (by rw [hX, ease_1 hw]; exact flat_set encH_len _ _ 1 hhp (by decide) rfl) ?_; refine Imp.box_to b12 (cellsF X (some ⟨rb, 0, none⟩) rcap (some ⟨hb2, 0, none⟩) hcap) (by rw [hX, ease_1 hw]; show cellsF F (some ⟨rb, 0, none⟩) rcap (some ⟨hb2, 0, none⟩) hcap = _; simp only [cellsF, List.length_set]) ?_; refine Imp.box_to b13 ([.slice ro F.rain.length rc, i64 F.men, i64 F.lim.a, i64 F.lim.b, i64 F.lim.c, i64 F.dr.a, i64 F.dr.b, i64 F.dr.c, .slice none 0 0]) rfl ?_; refine Imp.box_to b11 [i64 (madeP F.rain.length p0).a, i64 (madeP F.rain.length p0).b, i64 (madeP F.rain.length p0).c] rfl ?_; refine Imp.sealB rb ?_; refine Imp.sealB hb2 ?_; refine Imp.rowP (b := rb) X.rain encS_len rfl ?_; refine Imp.rowP (b := hb2) X.heaps encH_len rfl ?_; exact r_here_mid () (by exact r_here (by repeat (first | exact FSub.nil | refine FSub.cons rfl ?_)) SelMC.sel SubRC.sub) trivial)
              ·
                refine r_seq ?_
                refine r_region ?_
                refine o_q _ rfl rfl rfl (v_eql rfl rfl rfl) ?_
                refine o_q _ rfl rfl rfl (v_assign rfl rfl) ?_
                refine o_nil ?_
                with_reducible refine r_then ?_
                refine r_condd rfl (fun hc138 => ?_) (fun hc138 => ?_)
                ·
                  have hsl := hg.2.2.2.2.1 _ h3w
                  refine r_region ?_
                  refine o_q _ rfl rfl rfl (v_move rfl rfl) ?_
                  refine o_q _ rfl rfl rfl (v_move rfl rfl) ?_
                  refine o_q _ rfl rfl rfl (v_fieldAddr rfl Try.underlying26 inf23 rfl rfl rfl rfl) ?_
                  refine o_q _ rfl rfl rfl (v_indexAddrAn rfl Try.underlying23 inf3 rfl rfl (by omega)) ?_
                  refine o_q _ rfl rfl rfl (v_ld1 rfl Try.underlying3 rfl rfl (F_limn (by omega))) ?_
                  refine o_q _ rfl rfl rfl (v_add rfl rfl rfl (by omega)) ?_
                  refine o_q _ rfl rfl rfl (v_min2 rfl rfl rfl) ?_
                  refine o_q _ rfl rfl rfl (v_fieldAddr rfl Try.underlying26 inf23 rfl rfl rfl rfl) ?_
                  refine o_q _ rfl rfl rfl (v_indexAddrAn rfl Try.underlying23 inf3 rfl rfl (by omega)) ?_
                  refine o_st rfl inf3 rfl rfl rfl rfl rfl rfl rfl (Nat.ble_eq_true_of_le (by show 0 + 2 + w0 % 3 * 1 + 1 ≤ 9; omega)) ?_
                  refine o_nil ?_
                  with_reducible refine r_in_normal ?_; refine r_then ?_
                  ((have hw : m0 % 4 = 2 := by omega); refine Imp.box_to rb (X.rain.flatMap encS ++ rsp) (by rw [hX, ease_2 hw]; try rfl) ?_; refine Imp.box_to hb2 (X.heaps.flatMap encH ++ hsp) (by rw [hX, ease_2 hw]; try rfl) ?_; refine Imp.box_to b12 (cellsF X (some ⟨rb, 0, none⟩) rcap (some ⟨hb2, 0, none⟩) hcap) (by rw [hX, ease_2 hw]; exact cells_lim h3w) ?_; refine Imp.box_to b13 ([.slice ro F.rain.length rc, i64 F.men, i64 F.lim.a, i64 F.lim.b, i64 F.lim.c, i64 F.dr.a, i64 F.dr.b, i64 F.dr.c, .slice none 0 0]) rfl ?_; refine Imp.box_to b11 [i64 (madeP F.rain.length p0).a, i64 (madeP F.rain.length p0).b, i64 (madeP F.rain.length p0).c] rfl ?_; refine Imp.sealB rb ?_; refine Imp.sealB hb2 ?_; refine Imp.rowP (b := rb) X.rain encS_len rfl ?_; refine Imp.rowP (b := hb2) X.heaps encH_len rfl ?_; exact r_here_mid () (by exact r_here (by repeat (first | exact FSub.nil | refine FSub.cons rfl ?_)) SelMC.sel SubRC.sub) trivial)
                ·
                  have hsl := hg.2.2.2.2.1 _ h3w
                  refine r_region ?_
                  refine o_q _ rfl rfl rfl (v_move rfl rfl) ?_
                  refine o_q _ rfl rfl rfl (v_move rfl rfl) ?_
                  refine o_q _ rfl rfl rfl (v_fieldAddr rfl Try.underlying26 inf23 rfl rfl rfl rfl) ?_
                  refine o_q _ rfl rfl rfl (v_indexAddrAn rfl Try.underlying23 inf3 rfl rfl (by omega)) ?_
                  refine o_q _ rfl rfl rfl (v_ld1 rfl Try.underlying3 rfl rfl (F_drn (by omega))) ?_
                  refine o_q _ rfl rfl rfl (v_add rfl rfl rfl (by omega)) ?_
                  refine o_q _ rfl rfl rfl (v_min2 rfl rfl rfl) ?_
                  refine o_q _ rfl rfl rfl (v_fieldAddr rfl Try.underlying26 inf23 rfl rfl rfl rfl) ?_
                  refine o_q _ rfl rfl rfl (v_indexAddrAn rfl Try.underlying23 inf3 rfl rfl (by omega)) ?_
                  refine o_st rfl inf3 rfl rfl rfl rfl rfl rfl rfl (Nat.ble_eq_true_of_le (by show 0 + 5 + w0 % 3 * 1 + 1 ≤ 9; omega)) ?_
                  refine o_nil ?_
                  with_reducible refine r_in_normal ?_; refine r_then ?_
                  ((have hw : ¬ m0 % 4 = 0 ∧ ¬ m0 % 4 = 1 ∧ ¬ m0 % 4 = 2 := by omega); refine Imp.box_to rb (X.rain.flatMap encS ++ rsp) (by rw [hX, ease_3 hw.1 hw.2.1 hw.2.2]; try rfl) ?_; refine Imp.box_to hb2 (X.heaps.flatMap encH ++ hsp) (by rw [hX, ease_3 hw.1 hw.2.1 hw.2.2]; try rfl) ?_; refine Imp.box_to b12 (cellsF X (some ⟨rb, 0, none⟩) rcap (some ⟨hb2, 0, none⟩) hcap) (by rw [hX, ease_3 hw.1 hw.2.1 hw.2.2]; exact cells_dr h3w) ?_; refine Imp.box_to b13 ([.slice ro F.rain.length rc, i64 F.men, i64 F.lim.a, i64 F.lim.b, i64 F.lim.c, i64 F.dr.a, i64 F.dr.b, i64 F.dr.c, .slice none 0 0]) rfl ?_; refine Imp.box_to b11 [i64 (madeP F.rain.length p0).a, i64 (madeP F.rain.length p0).b, i64 (madeP F.rain.length p0).c] rfl ?_; refine Imp.sealB rb ?_; refine Imp.sealB hb2 ?_; refine Imp.rowP (b := rb) X.rain encS_len rfl ?_; refine Imp.rowP (b := hb2) X.heaps encH_len rfl ?_; exact r_here_mid () (by exact r_here (by repeat (first | exact FSub.nil | refine FSub.cons rfl ?_)) SelMC.sel SubRC.sub) trivial)
          ·
            intro _ hm
            refine r_seq ?_
            refine r_seq ?_
            refine r_region ?_
            refine o_q _ rfl rfl rfl (v_fieldAddr rfl Try.underlying26 inf24 rfl rfl rfl rfl) ?_
            refine o_q _ rfl rfl rfl (v_ld1 rfl Try.underlying24 rfl rfl rfl) ?_
            refine o_q _ rfl rfl rfl (v_len rfl rfl Try.underlying24 rfl) ?_
            refine o_q _ rfl rfl rfl (v_move rfl rfl) ?_
            refine o_nil ?_
            with_reducible refine r_then ?_
            refine r_block ?_
            refine r_loop (ι := Nat × Value) (fun gh => gh.1 ≤ F.heaps.length) (fun gh => [(4, pt b4 0), (9, i64 F.heaps.length), (10, i64 ((w0 % F.heaps.length) : Nat)), (11, pt b11 0), (12, pt b12 0), (13, pt b13 0), (151, i64 F.heaps.length), (152, i64 gh.1)]) (fun gh => ownL gh.2 73 3 encH (revT F gh.1) :: bx b12 26 (cellsF X (some ⟨rb, 0, none⟩) rcap (some ⟨hb2, 0, none⟩) hcap) :: bx b13 26 ([.slice ro F.rain.length rc, i64 F.men, i64 F.lim.a, i64 F.lim.b, i64 F.lim.c, i64 F.dr.a, i64 F.dr.b, i64 F.dr.c, gh.2]) :: bx b11 27 [i64 (madeP F.rain.length p0).a, i64 (madeP F.rain.length p0).b, i64 (madeP F.rain.length p0).c] :: bx b4 26 (cellsF F ro rc ho hc) :: M) (fun gh => rowD (some ⟨rb, 0, none⟩) 2 encS X.rain :: rowD (some ⟨hb2, 0, none⟩) 3 encH X.heaps :: ([rowD ro 2 encS F.rain, rowD ho 3 encH F.heaps] ++ Rf)) (fun gh => F.heaps.length - gh.1) (0, .slice none 0 0) ?_ ?_ ?_
            ·
              refine Imp.nilL 73 3 encH ?_
              refine Imp.own_to (.slice none 0 0) (revT F 0) rfl ?_
              exact r_here (by repeat (first | exact FSub.nil | refine FSub.cons rfl ?_)) SelMC.sel SubRC.sub
            ·
              exact Nat.zero_le _
            ·
              rintro ⟨k, v⟩ hI0
              dsimp only at hI0
              dsimp only
              have hI : k ≤ F.heaps.length := hI0
              have hrv := revT_len hI
              refine r_seq ?_
              refine r_region ?_
              refine o_q _ rfl rfl rfl (v_lss rfl rfl rfl) ?_
              refine o_nil ?_
              with_reducible refine r_then ?_
              refine r_seq ?_
              refine r_condd rfl (fun hc153 => ?_) (fun hc153 => ?_)
              ·
                refine r_skip ?_
                with_reducible refine r_then ?_
                refine r_seq ?_
                refine r_block ?_
                refine r_seq ?_
                refine r_region ?_
                refine o_q _ rfl rfl rfl (v_move rfl rfl) ?_
                refine o_q _ rfl rfl rfl (v_assign rfl rfl) ?_
                refine o_nil ?_
                with_reducible refine r_then ?_
                refine r_par' 11 mixed (by kernel_rfl) (by rfl) ?_
                refine p_q _ rfl rfl rfl (fun _ _ => v_fieldAddr rfl Try.underlying26 inf24 rfl rfl rfl rfl) ?_
                refine p_q _ rfl rfl rfl (fun _ _ => v_ld1 rfl Try.underlying24 rfl rfl rfl) ?_
                refine p_q _ rfl rfl rfl (fun _ _ => v_fieldAddr rfl Try.underlying26 inf24 rfl rfl rfl rfl) ?_
                refine p_q _ rfl rfl rfl (fun _ _ => v_ld1 rfl Try.underlying24 rfl rfl rfl) ?_
                refine p_q _ rfl rfl rfl (fun _ _ => v_move rfl rfl) ?_
                refine p_q _ rfl rfl rfl (fun _ _ => v_sub rfl rfl rfl (by omega)) ?_
                refine p_q _ rfl rfl rfl (fun _ _ => v_move rfl rfl) ?_
                refine p_q _ rfl rfl rfl (fun _ _ => v_cast (v := i64 ((F.heaps.length - 1 - k : Nat) : Int)) (v_sub rfl rfl rfl (by omega)) (congrArg (Value.int .i64) (by omega))) ?_
                refine p_q _ rfl rfl rfl (fun _ _ => v_indexAddrSn rfl Try.underlying24 inf73 rfl rfl rfl (by omega) rfl) ?_
                refine p_q _ rfl rfl rfl (fun _ _ => v_cast (v := .agg #[i64 (F.heaps.getD (F.heaps.length - 1 - k) default).lo, i64 (F.heaps.getD (F.heaps.length - 1 - k) default).hi, i64 (F.heaps.getD (F.heaps.length - 1 - k) default).sods]) (v_loadEN rfl Try.underlying73 rfl inf73 rfl (by omega) rfl rfl rfl) rfl) ?_
                refine p_lit rfl Try.underlying24 inf73 rfl rfl rfl rfl rfl rfl rfl rfl (by repeat (first | exact trivial | refine ⟨rfl, ?_⟩)) (by rfl) ?_
                refine p_nil2 (by simp only [List.nil_append, List.cons_append]; rfl) rfl ?_
                refine f_q rfl ?_
                refine f_q rfl ?_
                refine f_q rfl ?_
                refine f_q rfl ?_
                refine f_q rfl ?_
                refine f_q rfl ?_
                refine f_q rfl ?_
                refine f_q rfl ?_
                refine f_q rfl ?_
                refine f_q rfl ?_
                refine f_lit rfl (fun b165 => ?_)
                refine f_nil ?_
                refine o_app1F ((F.heaps.getD (F.heaps.length - 1 - k) default)) rfl Try.underlying24 inf73 rfl (by rfl) (by rfl) rfl rfl rfl rfl rfl (by rfl) (by rfl) (by rfl) (by first | omega | (constructor <;> first | omega | decide)) (fun v166 => ?_)
                refine Imp.own_is v166 (fun hs => ?_)
                obtain ⟨oan, cpn, rfl⟩ := hs
                refine o_q _ rfl rfl rfl (v_fieldAddr rfl Try.underlying26 inf24 rfl rfl rfl rfl) ?_
                refine o_st rfl inf24 rfl rfl rfl rfl rfl rfl rfl rfl ?_
                refine o_nil ?_
                with_reducible refine r_in_normal ?_; refine r_then ?_
                refine r_region ?_
                refine o_q _ rfl rfl rfl (v_add rfl rfl rfl (by omega)) ?_
                refine o_q _ rfl rfl rfl (v_move rfl rfl) ?_
                refine o_nil ?_
                with_reducible refine r_then ?_
                exact r_next ((k + 1, .slice oan (revT F k ++ [(F.heaps.getD (F.heaps.length - 1 - k) default)]).length cpn)) (by refine Imp.own_to (.slice oan (revT F k ++ [(F.heaps.getD (F.heaps.length - 1 - k) default)]).length cpn) (revT F (k + 1)) (revT_next (by omega)) ?_; refine Imp.box_to b13 ([.slice ro F.rain.length rc, i64 F.men, i64 F.lim.a, i64 F.lim.b, i64 F.lim.c, i64 F.dr.a, i64 F.dr.b, i64 F.dr.c, .slice oan (revT F k ++ [(F.heaps.getD (F.heaps.length - 1 - k) default)]).length cpn]) rfl ?_; exact r_here (by repeat (first | exact FSub.nil | refine FSub.cons rfl ?_)) SelMC.sel SubRC.sub) (by first | omega | (show _ + 1 ≤ _; omega)) (by first | omega | (show _ - (_ + 1) < _ - _; omega))
              ·
                refine r_exit ?_
                with_reducible refine r_then_exit ?_; refine r_then_exit ?_; refine r_in_here ?_; refine r_then ?_
                refine r_seq ?_
                obtain rfl : k = F.heaps.length := by omega
                refine Imp.own_to v F.heaps.reverse revT_all ?_
                refine Imp.settleS v encH_len (fun oz cz hv => ?_)
                subst hv
                refine Imp.box_to b13 (cellsF (turned F) ro rc oz cz) rfl ?_
                refine r_par' 7 mixed (by kernel_rfl) (by rfl) ?_
                refine p_lit0 rfl Try.underlying22 inf31 rfl rfl rfl ?_
                refine p_q _ rfl rfl rfl (fun _ _ => v_fieldAddr rfl Try.underlying26 inf22 rfl rfl rfl rfl) ?_
                refine p_q _ rfl rfl rfl (fun _ _ => v_ld1 rfl Try.underlying22 rfl rfl rfl) ?_
                refine p_acc (by simp only [List.nil_append, List.cons_append]; rfl) ?_
                refine p_appN (sz := 2) 0 rfl rfl rfl (by kernel_rfl) rfl rfl rfl rfl Try.underlying22 inf31 rfl rfl rfl encS_len (fun _ => rfl) ⟨by omega, by decide⟩ ?_
                refine p_lit0 rfl Try.underlying24 inf73 rfl rfl rfl ?_
                refine p_q _ rfl rfl rfl (fun _ _ => v_fieldAddr rfl Try.underlying26 inf24 rfl rfl rfl rfl) ?_
                refine p_q _ rfl rfl rfl (fun _ _ => v_ld1 rfl Try.underlying24 rfl rfl rfl) ?_
                refine p_nil2 (by simp only [List.nil_append, List.cons_append]; rfl) rfl ?_
                refine f_l0 rfl (fun b169 => ?_)
                refine f_q rfl ?_
                refine f_q rfl ?_
                refine f_oz rfl (fun v172 => ?_)
                refine f_l0 rfl (fun b173 => ?_)
                refine f_q rfl ?_
                refine f_q rfl ?_
                refine f_nil ?_
                refine Imp.settleZ (T := 31) (sz := 2) (enc := encS) (xs := F.rain) v172 encS_len (fun o18 c18 hv => ?_)
                subst hv
                refine o_appN (sz := 3) rfl Try.underlying24 inf73 rfl rfl rfl encH_len rfl rfl rfl rfl rfl ⟨by omega, by decide⟩ (fun v176 => ?_)
                refine Imp.settleZ (T := 73) (sz := 3) (enc := encH) (xs := F.heaps) v176 encH_len (fun o19 c19 hv => ?_)
                subst hv
                refine o_q _ rfl rfl rfl (v_assign rfl rfl) ?_
                refine o_q _ rfl rfl rfl (v_assign rfl rfl) ?_
                refine o_nil ?_
                with_reducible refine r_then ?_
                refine r_seq ?_
                refine r_region ?_
                refine o_q _ rfl rfl rfl (v_ldW rfl Try.underlying26 rfl inf26 rfl rfl) ?_
                refine o_q _ rfl rfl rfl (v_move rfl rfl) ?_
                refine o_q _ rfl rfl rfl (v_ldW rfl Try.underlying27 rfl inf27 rfl rfl) ?_
                refine o_q _ rfl rfl rfl (OpQ.fn (ECan_v F ro ho rc hc hg _ (madeP F.rain.length p0) (made_plan F.rain.length p0) hhp rfl) rfl rfl SubRC.sub) ?_
                refine o_q _ rfl rfl rfl (v_move rfl rfl) ?_
                refine o_q _ rfl rfl rfl (v_extract rfl rfl rfl) ?_
                refine o_q _ rfl rfl rfl (v_extract rfl rfl rfl) ?_
                refine o_q _ rfl rfl rfl (v_assign rfl rfl) ?_
                refine o_q _ rfl rfl rfl (v_assign rfl rfl) ?_
                refine o_nil ?_
                with_reducible refine r_then ?_
                refine r_seq ?_
                refine r_region ?_
                refine o_q _ rfl rfl rfl (v_ldW rfl Try.underlying26 rfl inf26 rfl rfl) ?_
                refine o_q _ rfl rfl rfl (v_move rfl rfl) ?_
                refine o_q _ rfl rfl rfl (v_ldW rfl Try.underlying27 rfl inf27 rfl rfl) ?_
                refine o_q _ rfl rfl rfl (OpQ.fn (ECan_v X (some ⟨rb, 0, none⟩) (some ⟨hb2, 0, none⟩) rcap hcap hE.good _ (madeP F.rain.length p0) (by rw [hE.rl]; exact (made_plan F.rain.length p0)) (by rw [hE.hl]; exact hhp) rfl) rfl rfl SubRC.sub) ?_
                refine o_q _ rfl rfl rfl (v_move rfl rfl) ?_
                refine o_q _ rfl rfl rfl (v_extract rfl rfl rfl) ?_
                refine o_q _ rfl rfl rfl (v_extract rfl rfl rfl) ?_
                refine o_q _ rfl rfl rfl (v_assign rfl rfl) ?_
                refine o_q _ rfl rfl rfl (v_assign rfl rfl) ?_
                refine o_nil ?_
                with_reducible refine r_then ?_
                refine r_seq ?_
                refine r_region ?_
                refine o_q _ rfl rfl rfl (v_ldW rfl Try.underlying26 rfl inf26 rfl rfl) ?_
                refine o_q _ rfl rfl rfl (v_move rfl rfl) ?_
                refine o_q _ rfl rfl rfl (OpQ.fn (SoonP_v F ro ho rc hc _ (by omega) (by omega)) rfl rfl SubRC.sub) ?_
                refine o_q _ rfl rfl rfl (v_move rfl rfl) ?_
                refine o_q _ rfl rfl rfl (v_extract rfl rfl rfl) ?_
                refine o_q _ rfl rfl rfl (v_extract rfl rfl rfl) ?_
                refine o_alloc rfl inf27 rfl rfl rfl rfl rfl (fun b24 => ?_)
                refine o_st rfl inf27 rfl rfl rfl rfl rfl rfl rfl rfl ?_
                refine o_q _ rfl rfl rfl (v_assign rfl rfl) ?_
                refine o_nil ?_
                with_reducible refine r_then ?_
                refine r_seq ?_
                refine r_region ?_
                refine o_q _ rfl rfl rfl (v_ldW rfl Try.underlying26 rfl inf26 rfl rfl) ?_
                refine o_q _ rfl rfl rfl (v_move rfl rfl) ?_
                refine o_q _ rfl rfl rfl (OpQ.fn (SoonP_v X (some ⟨rb, 0, none⟩) (some ⟨hb2, 0, none⟩) rcap hcap _ (by rw [hE.rl]; omega) (by rw [hE.hl]; omega)) rfl rfl SubRC.sub) ?_
                refine o_q _ rfl rfl rfl (v_move rfl rfl) ?_
                refine o_q _ rfl rfl rfl (v_extract rfl rfl rfl) ?_
                refine o_q _ rfl rfl rfl (v_extract rfl rfl rfl) ?_
                refine o_alloc rfl inf27 rfl rfl rfl rfl rfl (fun b26 => ?_)
                refine o_st rfl inf27 rfl rfl rfl rfl rfl rfl rfl rfl ?_
                refine o_q _ rfl rfl rfl (v_assign rfl rfl) ?_
                refine o_nil ?_
                with_reducible refine r_then ?_
                refine r_seq ?_
                refine r_region ?_
                refine o_q _ rfl rfl rfl (v_ldW rfl Try.underlying26 rfl inf26 rfl rfl) ?_
                refine o_fnown (EBest_s F ro ho rc hc hg) rfl rfl rfl rfl rfl SubRC.sub (fun v205 => ?_)
                all_goals
                  refine o_q _ rfl rfl rfl (v_move rfl rfl) ?_
                  refine o_q _ rfl rfl rfl (v_extract rfl rfl rfl) ?_
                  refine o_q _ rfl rfl rfl (v_extract rfl rfl rfl) ?_
                  refine o_q _ rfl rfl rfl (v_extract rfl rfl rfl) ?_
                  refine o_q _ rfl rfl rfl (v_assign rfl rfl) ?_
                  refine o_q _ rfl rfl rfl (v_assign rfl rfl) ?_
                  refine o_q _ rfl rfl rfl (v_assign rfl rfl) ?_
                  refine o_nil ?_
                  with_reducible refine r_then ?_
                  refine r_seq ?_
                  refine r_region ?_
                  refine o_q _ rfl rfl rfl (v_ldW rfl Try.underlying26 rfl inf26 rfl rfl) ?_
                  refine o_fnown (EBest_s X (some ⟨rb, 0, none⟩) (some ⟨hb2, 0, none⟩) rcap hcap hE.good) rfl rfl rfl rfl rfl SubRC.sub (fun v211 => ?_)
                  all_goals
                    refine o_q _ rfl rfl rfl (v_move rfl rfl) ?_
                    refine o_q _ rfl rfl rfl (v_extract rfl rfl rfl) ?_
                    refine o_q _ rfl rfl rfl (v_extract rfl rfl rfl) ?_
                    refine o_q _ rfl rfl rfl (v_extract rfl rfl rfl) ?_
                    refine o_q _ rfl rfl rfl (v_assign rfl rfl) ?_
                    refine o_q _ rfl rfl rfl (v_assign rfl rfl) ?_
                    refine o_q _ rfl rfl rfl (v_assign rfl rfl) ?_
                    refine o_nil ?_
                    with_reducible refine r_then ?_
                    refine r_seq ?_
                    refine r_region ?_
                    refine o_q _ rfl rfl rfl (v_ldW rfl Try.underlying26 rfl inf26 rfl rfl) ?_
                    refine o_fnown (bestT_s F ro rc hg oz cz) rfl rfl rfl rfl rfl SubRC.sub (fun v217 => ?_)
                    all_goals
                      refine o_q _ rfl rfl rfl (v_move rfl rfl) ?_
                      refine o_q _ rfl rfl rfl (v_extract rfl rfl rfl) ?_
                      refine o_q _ rfl rfl rfl (v_extract rfl rfl rfl) ?_
                      refine o_q _ rfl rfl rfl (v_extract rfl rfl rfl) ?_
                      refine o_q _ rfl rfl rfl (v_assign rfl rfl) ?_
                      refine o_q _ rfl rfl rfl (v_assign rfl rfl) ?_
                      refine o_q _ rfl rfl rfl (v_assign rfl rfl) ?_
                      refine o_nil ?_
                      with_reducible refine r_then ?_
                      refine r_seq ?_
                      refine r_region ?_
                      refine o_q _ rfl rfl rfl (v_ldW rfl Try.underlying26 rfl inf26 rfl rfl) ?_
                      refine o_q _ rfl rfl rfl (v_move rfl rfl) ?_
                      refine o_q _ rfl rfl rfl (v_sub rfl rfl rfl (by omega)) ?_
                      refine o_q _ rfl rfl rfl (v_move rfl rfl) ?_
                      refine o_q _ rfl rfl rfl (v_cast (v := i64 ((F.heaps.length - 1 - (w0 % F.heaps.length) : Nat) : Int)) (v_sub rfl rfl rfl (by omega)) (congrArg (Value.int .i64) (by omega))) ?_
                      refine o_q _ rfl rfl rfl (OpQ.fn (soonT_v F ro rc hg _ hhp oz cz) rfl rfl SubRC.sub) ?_
                      refine o_q _ rfl rfl rfl (v_move rfl rfl) ?_
                      refine o_q _ rfl rfl rfl (v_extract rfl rfl rfl) ?_
                      refine o_q _ rfl rfl rfl (v_extract rfl rfl rfl) ?_
                      refine o_alloc rfl inf27 rfl rfl rfl rfl rfl (fun b37 => ?_)
                      refine o_st rfl inf27 rfl rfl rfl rfl rfl rfl rfl rfl ?_
                      refine o_q _ rfl rfl rfl (v_assign rfl rfl) ?_
                      refine o_nil ?_
                      with_reducible refine r_then ?_
                      refine r_seq ?_
                      refine r_seq ?_
                      have hcx := fun h => hE.can (heap := (w0 % F.heaps.length)) (made_plan F.rain.length p0) h
                      have hso := ease_soon hg hE hhp
                      have hbx := hE.best hg
                      refine r_region ?_
                      refine o_q _ rfl rfl rfl (v_move rfl rfl) ?_
                      refine o_q _ rfl rfl rfl (v_false (v_neq rfl rfl rfl) (by omega)) ?_
                      all_goals
                        refine o_q _ rfl rfl rfl (v_move rfl rfl) ?_
                        refine o_g _ rfl rfl rfl rfl (v_move rfl rfl) ?_
                        refine o_g _ rfl rfl rfl rfl (v_false (v_neq rfl rfl rfl) (by omega)) ?_
                        all_goals
                          refine o_q _ rfl rfl rfl (v_pick_f rfl rfl rfl) ?_
                          refine o_q _ rfl rfl rfl (v_move rfl rfl) ?_
                          refine o_g _ rfl rfl rfl rfl (v_move rfl rfl) ?_
                          refine o_g _ rfl rfl rfl rfl (v_false (v_neq rfl rfl rfl) (by omega)) ?_
                          all_goals
                            refine o_q _ rfl rfl rfl (v_pick_f rfl rfl rfl) ?_
                            refine o_q _ rfl rfl rfl (v_move rfl rfl) ?_
                            refine o_g _ rfl rfl rfl rfl (v_move rfl rfl) ?_
                            refine o_g _ rfl rfl rfl rfl (v_false (v_neq rfl rfl rfl) (by omega)) ?_
                            all_goals
                              refine o_q _ rfl rfl rfl (v_pick_f rfl rfl rfl) ?_
                              refine o_q _ rfl rfl rfl (v_move rfl rfl) ?_
                              refine o_g _ rfl rfl rfl rfl (v_move rfl rfl) ?_
                              refine o_gtest rfl rfl rfl rfl (v_eql rfl rfl rfl) (fun h246 => ?_) (fun h246 => ?_)
                              all_goals
                                refine o_g _ rfl rfl rfl rfl (v_move rfl rfl) ?_
                                first | refine o_gn rfl rfl rfl rfl ?_ | refine o_g _ rfl rfl rfl rfl (v_move rfl rfl) ?_
                                first | refine o_gn rfl rfl rfl rfl ?_ | refine o_g _ rfl rfl rfl rfl (v_move rfl rfl) ?_
                                first | refine o_gn rfl rfl rfl rfl ?_ | refine o_g _ rfl rfl rfl rfl (v_false (v_neq rfl rfl rfl) (by omega)) ?_
                                all_goals
                                  first | refine o_g _ rfl rfl rfl rfl (v_pick_t rfl rfl rfl) ?_ | refine o_g _ rfl rfl rfl rfl (v_pick_f rfl rfl rfl) ?_
                                  refine o_q _ rfl rfl rfl (v_pick_f rfl rfl rfl) ?_
                                  refine o_q _ rfl rfl rfl (v_move rfl rfl) ?_
                                  refine o_g _ rfl rfl rfl rfl (v_move rfl rfl) ?_
                                  refine o_gtest rfl rfl rfl rfl (v_eql rfl rfl rfl) (fun h255 => ?_) (fun h255 => ?_)
                                  all_goals
                                    refine o_g _ rfl rfl rfl rfl (v_move rfl rfl) ?_
                                    first | refine o_gn rfl rfl rfl rfl ?_ | refine o_g _ rfl rfl rfl rfl (v_move rfl rfl) ?_
                                    first | refine o_gn rfl rfl rfl rfl ?_ | refine o_g _ rfl rfl rfl rfl (v_false (v_neq rfl rfl rfl) (by omega)) ?_
                                    all_goals
                                      first | refine o_gn rfl rfl rfl rfl ?_ | refine o_g _ rfl rfl rfl rfl (v_move rfl rfl) ?_
                                      first | refine o_gn rfl rfl rfl rfl ?_ | refine o_g _ rfl rfl rfl rfl (v_indexAddrA rfl Try.underlying27 inf3 rfl rfl (by omega)) ?_
                                      first | refine o_gn rfl rfl rfl rfl ?_ | refine o_g _ rfl rfl rfl rfl (v_ld1 rfl Try.underlying3 rfl rfl rfl) ?_
                                      first | refine o_gn rfl rfl rfl rfl ?_ | refine o_g _ rfl rfl rfl rfl (v_indexAddrA rfl Try.underlying27 inf3 rfl rfl (by omega)) ?_
                                      first | refine o_gn rfl rfl rfl rfl ?_ | refine o_g _ rfl rfl rfl rfl (v_ld1 rfl Try.underlying3 rfl rfl rfl) ?_
                                      first | refine o_gn rfl rfl rfl rfl ?_ | refine o_g _ rfl rfl rfl rfl (v_false (v_gtr rfl rfl rfl) (by omega)) ?_
                                      all_goals
                                        first | refine o_gn rfl rfl rfl rfl ?_ | refine o_g _ rfl rfl rfl rfl (v_pick_f rfl rfl rfl) ?_
                                        first | refine o_g _ rfl rfl rfl rfl (v_pick_t rfl rfl rfl) ?_ | refine o_g _ rfl rfl rfl rfl (v_pick_f rfl rfl rfl) ?_
                                        refine o_q _ rfl rfl rfl (v_pick_f rfl rfl rfl) ?_
                                        refine o_q _ rfl rfl rfl (v_move rfl rfl) ?_
                                        refine o_g _ rfl rfl rfl rfl (v_move rfl rfl) ?_
                                        refine o_g _ rfl rfl rfl rfl (v_move rfl rfl) ?_
                                        refine o_g _ rfl rfl rfl rfl (v_false (v_lss rfl rfl rfl) (by omega)) ?_
                                        all_goals
                                          refine o_q _ rfl rfl rfl (v_pick_f rfl rfl rfl) ?_
                                          refine o_q _ rfl rfl rfl (v_move rfl rfl) ?_
                                          refine o_g _ rfl rfl rfl rfl (v_move rfl rfl) ?_
                                          refine o_g _ rfl rfl rfl rfl (v_false (v_neq rfl rfl rfl) (by omega)) ?_
                                          all_goals
                                            refine o_q _ rfl rfl rfl (v_pick_f rfl rfl rfl) ?_
                                            refine o_q _ rfl rfl rfl (v_move rfl rfl) ?_
                                            refine o_g _ rfl rfl rfl rfl (v_move rfl rfl) ?_
                                            refine o_g _ rfl rfl rfl rfl (v_move rfl rfl) ?_
                                            refine o_g _ rfl rfl rfl rfl (v_false (v_neq rfl rfl rfl) (by omega)) ?_
                                            all_goals
                                              refine o_q _ rfl rfl rfl (v_pick_f rfl rfl rfl) ?_
                                              refine o_q _ rfl rfl rfl (v_move rfl rfl) ?_
                                              refine o_g _ rfl rfl rfl rfl (v_ldW rfl Try.underlying27 rfl inf27 rfl rfl) ?_
                                              refine o_g _ rfl rfl rfl rfl (v_ldW rfl Try.underlying27 rfl inf27 rfl rfl) ?_
                                              refine o_g _ rfl rfl rfl rfl (v_cast (v := .bool false) (v_neP rfl rfl rfl guard27 (eq27 _ _ _ _ _ _)) (congrArg Value.bool (decide_eq_false (fun h => h rfl)))) ?_
                                              refine o_q _ rfl rfl rfl (v_pick_f rfl rfl rfl) ?_
                                              refine o_q _ rfl rfl rfl (v_move rfl rfl) ?_
                                              refine o_g _ rfl rfl rfl rfl (v_move rfl rfl) ?_
                                              refine o_g _ rfl rfl rfl rfl (v_move rfl rfl) ?_
                                              refine o_g _ rfl rfl rfl rfl (v_false (v_neq rfl rfl rfl) (by omega)) ?_
                                              all_goals
                                                refine o_q _ rfl rfl rfl (v_pick_f rfl rfl rfl) ?_
                                                refine o_nil ?_
                                                with_reducible refine r_then ?_
                                                refine r_cond rfl (fun hc291 => ?_) (fun hc291 => ?_)
                                                ·
                                                  (exfalso; revert hc291; decide)
                                                ·
                                                  refine r_skip ?_
                                                  with_reducible refine r_then ?_
                                                  refine r_seq ?_
                                                  refine Imp.openL v205 (by omega) (fun lb lcap lsp hv => ?_)
                                                  subst hv
                                                  refine r_region ?_
                                                  refine o_lit0' rfl Try.underlying40 inf27 rfl rfl rfl (fun b292 => ?_)
                                                  refine o_q _ rfl rfl rfl (v_move rfl rfl) ?_
                                                  refine o_appB (sz := 3) (bestL F) rfl (by omega) rfl Try.underlying40 inf27 rfl rfl rfl encT_len rfl rfl rfl rfl rfl ⟨by omega, by decide⟩ (fun v294 => ?_)
                                                  refine Imp.settleZ (T := 27) (sz := 3) (enc := encT) (xs := bestL F) v294 encT_len (fun oo oc hv => ?_)
                                                  subst hv
                                                  refine o_q _ rfl rfl rfl (v_assign rfl rfl) ?_
                                                  refine o_nil ?_
                                                  with_reducible refine r_then ?_
                                                  refine r_seq ?_
                                                  refine r_seq ?_
                                                  refine r_region ?_
                                                  refine o_q _ rfl rfl rfl (v_move rfl rfl) ?_
                                                  refine o_q _ rfl rfl rfl (v_len rfl rfl Try.underlying40 rfl) ?_
                                                  refine o_q _ rfl rfl rfl (v_move rfl rfl) ?_
                                                  refine o_nil ?_
                                                  with_reducible refine r_then ?_
                                                  refine r_block ?_
                                                  refine r_loop (ι := Nat × List Value) (fun gh => gh.1 ≤ F.heaps.length ∧ F.heaps.length * 3 ≤ gh.2.length) (fun gh => [(4, pt b4 0), (18, .slice o18 F.rain.length c18), (19, .slice o19 F.heaps.length c19), (29, .slice (some ⟨lb, 0, none⟩) (bestL F).length lcap), (39, .slice oo (bestL F).length oc), (295, .slice (some ⟨lb, 0, none⟩) (bestL F).length lcap), (296, i64 (bestL F).length), (297, i64 gh.1)]) (fun gh => bx lb 27 gh.2 :: bx b4 26 (cellsF F ro rc ho hc) :: M) (fun gh => rowD oo 3 encT (bestL F) :: rowD o18 2 encS F.rain :: rowD o19 3 encH F.heaps :: ([rowD ro 2 encS F.rain, rowD ho 3 encH F.heaps] ++ Rf)) (fun gh => F.heaps.length - gh.1) (0, (bestL F).flatMap encT ++ lsp) ?_ ?_ ?_
                                                  ·
                                                    exact r_here (by repeat (first | exact FSub.nil | refine FSub.cons rfl ?_)) SelMC.sel SubRC.sub
                                                  ·
                                                    exact ⟨Nat.zero_le _, by rw [List.length_append, flat_len encT_len]; omega⟩
                                                  ·
                                                    rintro ⟨k, vs⟩ hI1
                                                    dsimp only at hI1
                                                    dsimp only
                                                    have hkl := hI1.1
                                                    have hvl := hI1.2
                                                    refine r_seq ?_
                                                    refine r_region ?_
                                                    refine o_q _ rfl rfl rfl (v_lss rfl rfl rfl) ?_
                                                    refine o_nil ?_
                                                    with_reducible refine r_then ?_
                                                    refine r_seq ?_
                                                    refine r_condd rfl (fun hc298 => ?_) (fun hc298 => ?_)
                                                    ·
                                                      refine r_skip ?_
                                                      with_reducible refine r_then ?_
                                                      refine r_seq ?_
                                                      refine r_block ?_
                                                      refine r_seq ?_
                                                      refine r_region ?_
                                                      refine o_q _ rfl rfl rfl (v_move rfl rfl) ?_
                                                      refine o_q _ rfl rfl rfl (v_assign rfl rfl) ?_
                                                      refine o_nil ?_
                                                      with_reducible refine r_then ?_
                                                      refine r_region ?_
                                                      refine o_q _ rfl rfl rfl (v_move rfl rfl) ?_
                                                      refine o_q _ rfl rfl rfl (v_move rfl rfl) ?_
                                                      refine o_q _ rfl rfl rfl (v_bA rfl Try.underlying27 inf27 inf3 rfl rfl rfl (by repeat (first | exact trivial | refine ⟨rfl, ?_⟩)) (by rfl)) ?_
                                                      refine o_q _ rfl rfl rfl (v_indexAddrB rfl Try.underlying40 inf27 rfl rfl (by omega)) ?_
                                                      refine o_st (B := 27) (vs := vs) rfl inf27 rfl rfl rfl rfl rfl rfl rfl (Nat.ble_eq_true_of_le (by show k * 3 + 3 ≤ vs.length; omega)) ?_
                                                      refine o_nil ?_
                                                      with_reducible refine r_in_normal ?_; refine r_then ?_
                                                      refine r_region ?_
                                                      refine o_q _ rfl rfl rfl (v_add rfl rfl rfl (by omega)) ?_
                                                      refine o_q _ rfl rfl rfl (v_move rfl rfl) ?_
                                                      refine o_nil ?_
                                                      with_reducible refine r_then ?_
                                                      exact r_next ((k + 1, splice vs (k * 3) [i64 9, i64 9, i64 9])) (by refine Imp.box_to lb (splice vs (k * 3) [i64 9, i64 9, i64 9]) rfl ?_; exact r_here (by repeat (first | exact FSub.nil | refine FSub.cons rfl ?_)) SelMC.sel SubRC.sub) (by exact ⟨by show k + 1 ≤ _; omega, by rw [splice_len]; exact hvl⟩) (by show _ - (k + 1) < _ - k; omega)
                                                    ·
                                                      refine r_exit ?_
                                                      with_reducible refine r_then_exit ?_; refine r_then_exit ?_; refine r_in_here ?_; refine r_then ?_
                                                      refine r_seq ?_
                                                      refine r_seq ?_
                                                      skip
                                                      refine r_region ?_
                                                      refine o_q _ rfl rfl rfl (v_ldW rfl Try.underlying26 rfl inf26 rfl rfl) ?_
                                                      refine o_fnown (EBest_s F ro ho rc hc hg) rfl rfl rfl rfl rfl SubRC.sub (fun v307 => ?_)
                                                      all_goals
                                                        refine Imp.settleS v307 encT_len (fun oq cq hv => ?_)
                                                        subst hv
                                                        refine o_q _ rfl rfl rfl (v_move rfl rfl) ?_
                                                        refine o_q _ rfl rfl rfl (v_extract rfl rfl rfl) ?_
                                                        refine o_q _ rfl rfl rfl (v_extract rfl rfl rfl) ?_
                                                        refine o_q _ rfl rfl rfl (v_extract rfl rfl rfl) ?_
                                                        refine o_q _ rfl rfl rfl (v_assign rfl rfl) ?_
                                                        refine o_q _ rfl rfl rfl (v_assign rfl rfl) ?_
                                                        refine o_q _ rfl rfl rfl (v_assign rfl rfl) ?_
                                                        refine o_nil ?_
                                                        with_reducible refine r_then ?_
                                                        refine r_seq ?_
                                                        refine r_region ?_
                                                        refine o_q _ rfl rfl rfl (v_move rfl rfl) ?_
                                                        refine o_q _ rfl rfl rfl (v_false (v_neq rfl rfl rfl) (by omega)) ?_
                                                        all_goals
                                                          refine o_q _ rfl rfl rfl (v_move rfl rfl) ?_
                                                          refine o_g _ rfl rfl rfl rfl (v_move rfl rfl) ?_
                                                          refine o_g _ rfl rfl rfl rfl (v_move rfl rfl) ?_
                                                          refine o_g _ rfl rfl rfl rfl (v_cast (v := .bool true) (OpQ.fn (Plans_v (bestL F) (bestL F) _ _ _ _ (by omega) (by omega)) rfl rfl SubRC.sub) (congrArg Value.bool (decide_eq_true rfl))) ?_
                                                          refine o_g _ rfl rfl rfl rfl (v_not rfl rfl) ?_
                                                          refine o_q _ rfl rfl rfl (v_pick_f rfl rfl rfl) ?_
                                                          refine o_nil ?_
                                                          with_reducible refine r_then ?_
                                                          refine r_cond rfl (fun hc318 => ?_) (fun hc318 => ?_)
                                                          ·
                                                            (exfalso; revert hc318; decide)
                                                          ·
                                                            refine r_skip ?_
                                                            with_reducible refine r_then ?_
                                                            refine r_seq ?_
                                                            refine r_seq ?_
                                                            refine r_region ?_
                                                            refine o_q _ rfl rfl rfl (v_move rfl rfl) ?_
                                                            refine o_q _ rfl rfl rfl (v_len rfl rfl Try.underlying22 rfl) ?_
                                                            refine o_q _ rfl rfl rfl (v_move rfl rfl) ?_
                                                            refine o_nil ?_
                                                            with_reducible refine r_then ?_
                                                            refine r_block ?_
                                                            refine r_loop (ι := Nat) (fun k => k ≤ F.rain.length) (fun k => [(4, pt b4 0), (18, .slice o18 F.rain.length c18), (19, .slice o19 F.heaps.length c19), (319, .slice o18 F.rain.length c18), (320, i64 F.rain.length), (321, i64 k)]) (fun k => bx b4 26 (cellsF F ro rc ho hc) :: M) (fun k => rowD oo 3 encT (bestL F) :: rowD o18 2 encS F.rain :: rowD o19 3 encH F.heaps :: ([rowD ro 2 encS F.rain, rowD ho 3 encH F.heaps] ++ Rf)) (fun k => F.rain.length - k) 0 ?_ ?_ ?_
                                                            ·
                                                              exact r_here (by repeat (first | exact FSub.nil | refine FSub.cons rfl ?_)) SelMC.sel SubRC.sub
                                                            ·
                                                              exact Nat.zero_le _
                                                            ·
                                                              rintro k hI2
                                                              have hI : k ≤ F.rain.length := hI2
                                                              refine r_seq ?_
                                                              refine r_region ?_
                                                              refine o_q _ rfl rfl rfl (v_lss rfl rfl rfl) ?_
                                                              refine o_nil ?_
                                                              with_reducible refine r_then ?_
                                                              refine r_seq ?_
                                                              refine r_condd rfl (fun hc322 => ?_) (fun hc322 => ?_)
                                                              ·
                                                                refine r_skip ?_
                                                                with_reducible refine r_then ?_
                                                                refine r_seq ?_
                                                                refine r_block ?_
                                                                refine r_seq ?_
                                                                refine r_region ?_
                                                                refine o_q _ rfl rfl rfl (v_move rfl rfl) ?_
                                                                refine o_q _ rfl rfl rfl (v_assign rfl rfl) ?_
                                                                refine o_nil ?_
                                                                with_reducible refine r_then ?_
                                                                refine r_seq ?_
                                                                refine r_region_q mixed (by kernel_rfl) ?_
                                                                refine q_q _ rfl rfl rfl (v_move rfl rfl) ?_
                                                                refine q_q _ rfl rfl rfl (v_move rfl rfl) ?_
                                                                refine q_q _ rfl rfl rfl (v_indexAddrSn rfl Try.underlying22 inf31 rfl rfl rfl (by omega) rfl) ?_
                                                                refine q_q _ rfl rfl rfl (v_cast (v := .agg #[i64 (F.rain.getD k default).lo, i64 (F.rain.getD k default).hi]) (v_loadEN rfl Try.underlying31 rfl inf31 rfl (by omega) rfl rfl rfl) rfl) ?_
                                                                refine q_q _ rfl rfl rfl (v_fieldAddr rfl Try.underlying26 inf22 rfl rfl rfl rfl) ?_
                                                                refine q_q _ rfl rfl rfl (v_ld1 rfl Try.underlying22 rfl rfl rfl) ?_
                                                                refine q_q _ rfl rfl rfl (v_move rfl rfl) ?_
                                                                refine q_q _ rfl rfl rfl (v_indexAddrSn rfl Try.underlying22 inf31 rfl rfl rfl (by omega) rfl) ?_
                                                                refine q_q _ rfl rfl rfl (v_cast (v := .agg #[i64 (F.rain.getD k default).lo, i64 (F.rain.getD k default).hi]) (v_loadEN rfl Try.underlying31 rfl inf31 rfl (by omega) rfl rfl rfl) rfl) ?_
                                                                refine q_q _ rfl rfl rfl (v_cast (v := .bool false) (v_neP rfl rfl rfl guard31 (eq31 _ _ _ _)) (congrArg Value.bool (decide_eq_false (fun h => h rfl)))) ?_
                                                                refine q_nil ?_
                                                                with_reducible refine r_then ?_
                                                                refine r_cond rfl (fun hc333 => ?_) (fun hc333 => ?_)
                                                                ·
                                                                  (exfalso; revert hc333; decide)
                                                                ·
                                                                  refine r_skip ?_
                                                                  with_reducible refine r_in_normal ?_; refine r_then ?_
                                                                  refine r_region ?_
                                                                  refine o_q _ rfl rfl rfl (v_add rfl rfl rfl (by omega)) ?_
                                                                  refine o_q _ rfl rfl rfl (v_move rfl rfl) ?_
                                                                  refine o_nil ?_
                                                                  with_reducible refine r_then ?_
                                                                  refine r_next (k + 1) ?_ ?_ ?_
                                                                  ·
                                                                    exact r_here (by repeat (first | exact FSub.nil | refine FSub.cons rfl ?_)) SelMC.sel SubRC.sub
                                                                  ·
                                                                    omega
                                                                  ·
                                                                    omega
                                                              ·
                                                                refine r_exit ?_
                                                                with_reducible refine r_then_exit ?_; refine r_then_exit ?_; refine r_in_here ?_; refine r_then ?_
                                                                refine r_seq ?_
                                                                refine r_seq ?_
                                                                refine r_region ?_
                                                                refine o_q _ rfl rfl rfl (v_move rfl rfl) ?_
                                                                refine o_q _ rfl rfl rfl (v_len rfl rfl Try.underlying24 rfl) ?_
                                                                refine o_q _ rfl rfl rfl (v_move rfl rfl) ?_
                                                                refine o_nil ?_
                                                                with_reducible refine r_then ?_
                                                                refine r_block ?_
                                                                refine r_loop (ι := Nat) (fun k => k ≤ F.heaps.length) (fun k => [(4, pt b4 0), (18, .slice o18 F.rain.length c18), (19, .slice o19 F.heaps.length c19), (335, .slice o19 F.heaps.length c19), (336, i64 F.heaps.length), (337, i64 k)]) (fun k => bx b4 26 (cellsF F ro rc ho hc) :: M) (fun k => rowD oo 3 encT (bestL F) :: rowD o18 2 encS F.rain :: rowD o19 3 encH F.heaps :: ([rowD ro 2 encS F.rain, rowD ho 3 encH F.heaps] ++ Rf)) (fun k => F.heaps.length - k) 0 ?_ ?_ ?_
                                                                ·
                                                                  exact r_here (by repeat (first | exact FSub.nil | refine FSub.cons rfl ?_)) SelMC.sel SubRC.sub
                                                                ·
                                                                  exact Nat.zero_le _
                                                                ·
                                                                  rintro k hI3
                                                                  have hI : k ≤ F.heaps.length := hI3
                                                                  refine r_seq ?_
                                                                  refine r_region ?_
                                                                  refine o_q _ rfl rfl rfl (v_lss rfl rfl rfl) ?_
                                                                  refine o_nil ?_
                                                                  with_reducible refine r_then ?_
                                                                  refine r_seq ?_
                                                                  refine r_condd rfl (fun hc338 => ?_) (fun hc338 => ?_)
                                                                  ·
                                                                    refine r_skip ?_
                                                                    with_reducible refine r_then ?_
                                                                    refine r_seq ?_
                                                                    refine r_block ?_
                                                                    refine r_seq ?_
                                                                    refine r_region ?_
                                                                    refine o_q _ rfl rfl rfl (v_move rfl rfl) ?_
                                                                    refine o_q _ rfl rfl rfl (v_assign rfl rfl) ?_
                                                                    refine o_nil ?_
                                                                    with_reducible refine r_then ?_
                                                                    refine r_seq ?_
                                                                    refine r_region_q mixed (by kernel_rfl) ?_
                                                                    refine q_q _ rfl rfl rfl (v_move rfl rfl) ?_
                                                                    refine q_q _ rfl rfl rfl (v_move rfl rfl) ?_
                                                                    refine q_q _ rfl rfl rfl (v_indexAddrSn rfl Try.underlying24 inf73 rfl rfl rfl (by omega) rfl) ?_
                                                                    refine q_q _ rfl rfl rfl (v_cast (v := .agg #[i64 (F.heaps.getD k default).lo, i64 (F.heaps.getD k default).hi, i64 (F.heaps.getD k default).sods]) (v_loadEN rfl Try.underlying73 rfl inf73 rfl (by omega) rfl rfl rfl) rfl) ?_
                                                                    refine q_q _ rfl rfl rfl (v_fieldAddr rfl Try.underlying26 inf24 rfl rfl rfl rfl) ?_
                                                                    refine q_q _ rfl rfl rfl (v_ld1 rfl Try.underlying24 rfl rfl rfl) ?_
                                                                    refine q_q _ rfl rfl rfl (v_move rfl rfl) ?_
                                                                    refine q_q _ rfl rfl rfl (v_indexAddrSn rfl Try.underlying24 inf73 rfl rfl rfl (by omega) rfl) ?_
                                                                    refine q_q _ rfl rfl rfl (v_cast (v := .agg #[i64 (F.heaps.getD k default).lo, i64 (F.heaps.getD k default).hi, i64 (F.heaps.getD k default).sods]) (v_loadEN rfl Try.underlying73 rfl inf73 rfl (by omega) rfl rfl rfl) rfl) ?_
                                                                    refine q_q _ rfl rfl rfl (v_cast (v := .bool false) (v_neP rfl rfl rfl guard73 (eq73 _ _ _ _ _ _)) (congrArg Value.bool (decide_eq_false (fun h => h rfl)))) ?_
                                                                    refine q_nil ?_
                                                                    with_reducible refine r_then ?_
                                                                    refine r_cond rfl (fun hc349 => ?_) (fun hc349 => ?_)
                                                                    ·
                                                                      (exfalso; revert hc349; decide)
                                                                    ·
                                                                      refine r_skip ?_
                                                                      with_reducible refine r_in_normal ?_; refine r_then ?_
                                                                      refine r_region ?_
                                                                      refine o_q _ rfl rfl rfl (v_add rfl rfl rfl (by omega)) ?_
                                                                      refine o_q _ rfl rfl rfl (v_move rfl rfl) ?_
                                                                      refine o_nil ?_
                                                                      with_reducible refine r_then ?_
                                                                      refine r_next (k + 1) ?_ ?_ ?_
                                                                      ·
                                                                        exact r_here (by repeat (first | exact FSub.nil | refine FSub.cons rfl ?_)) SelMC.sel SubRC.sub
                                                                      ·
                                                                        omega
                                                                      ·
                                                                        omega
                                                                  ·
                                                                    refine r_exit ?_
                                                                    with_reducible refine r_then_exit ?_; refine r_then_exit ?_; refine r_in_here ?_; refine r_then ?_
                                                                    refine r_seq ?_
                                                                    refine r_region ?_
                                                                    refine o_q _ rfl rfl rfl (OpQ.fn awake_v rfl rfl SubRC.sub) ?_
                                                                    refine o_q _ rfl rfl rfl (v_assign rfl rfl) ?_
                                                                    refine o_nil ?_
                                                                    with_reducible refine r_then ?_
                                                                    refine r_ret ?_
                                                                    exact r_retv2 (Rd.tmp rfl rfl) rfl SelMC.sel SubRC.sub
end Go.Proofs.Ytienjlmnakbfmaa


namespace Go.G
open Go.ChangeShapes Go.RowKit Go.Deep
section
variable {H : Type} {en : TypeId × Value → H} {P : Program} {w : World} {base : Nat} {sp : Nat → Bool} {held : Bool}
theorem mapM_at {α β : Type} {f : α → Option β} : ∀ {l : List α} {r : List β}, l.mapM f = some r → r.length = l.length ∧ ∀ (j : Nat) (x : α), l[j]? = some x → f x = r[j]?
  | [], r, h => by
    simp at h; subst h; simp
  | a :: l, r, h => by
    rw [List.mapM_cons] at h
    simp only [bind, Option.bind_eq_some_iff, pure, Option.some.injEq] at h
    obtain ⟨b, hb, bs, hbs, rfl⟩ := h
    obtain ⟨h1, h2⟩ := mapM_at hbs
    refine ⟨by simp [h1], fun j x hj => ?_⟩
    cases j with
    | zero => simp at hj; subst hj; simpa using hb
    | succ j => simpa using h2 j x (by simpa using hj)
theorem cells_at {a : Addr} {n : Nat} {cs : List Value} (h : w.cells? base a n = some cs) : cs.length = n ∧ ∀ j, j < n → w.cell? (a.add j) = cs[j]? := by
  unfold World.cells? at h
  split at h
  · obtain ⟨h1, h2⟩ := mapM_at h
    exact ⟨by simpa using h1, fun j hj => h2 j j (by simp [hj])⟩
  · cases h
/-- A slice of things of one kind is a row that is known. -/
theorem open_rowD {α : Type} [Inhabited α] {enc : α → List Value} {sz : Nat} (ok : α → Prop) {t e : TypeId} {fuel : Nat} {cs : List Value} {x : DataW H × List MemPlace} (ht : P.underlying t = some (.slice e)) (hc : P.cellsOf e = sz) (hpos : 0 < sz)
    (hel : ∀ fuel cs x, DataW.trod en P w base sp held fuel e cs = some x → ∃ y : α, cs = enc y ∧ ok y) (h : DataW.trod en P w base sp held fuel t cs = some x) :
    ∃ (oa : Option Addr) (cap : Nat) (xs : List α), cs = [.slice oa xs.length cap] ∧ rowD oa sz enc xs (full w) ∧ (∀ y ∈ xs, ok y) ∧ xs.length ≤ maxLen := by
  rcases open_slice ht h with ⟨rfl, _⟩ | ⟨a, len, cap, m, n, D, Pl, rfl, _, hlc, hcm, hm, _, hall⟩
  · exact ⟨none, 0, [], rfl, .inl rfl, by simp, Nat.zero_le _⟩
  · have hle : len ≤ m := by rw [hm]; split <;> omega
    have hch : ∀ i, i < len → ∃ y : α, w.cells? base (a.add (i * sz)) sz = some (enc y) ∧ ok y := by
      intro i hi
      obtain ⟨cs', h1, h2⟩ := hall i (by omega)
      obtain ⟨y, rfl, hy⟩ := hel _ _ _ h2
      rw [hc] at h1
      exact ⟨y, h1, hy⟩
    obtain ⟨f, hf⟩ := choose_lt hch
    refine ⟨some a, cap, (List.range len).map f, by simp, ?_, ?_, by simp; omega⟩
    · by_cases h0 : len = 0
      · subst h0; exact .inl rfl
      · obtain ⟨c1, c2⟩ := cells_at (hf 0 (by omega)).1
        have hz := c2 0 hpos
        have hsome : ∃ v, w.cell? ((a.add (0 * sz)).add 0) = some v := ⟨(enc (f 0))[0]'(by omega), by rw [hz]; simp [show 0 < (enc (f 0)).length from by omega]⟩
        obtain ⟨v, hv⟩ := hsome
        have ha0 : (a.add (0 * sz)).add 0 = a := by simp [Addr.add]
        rw [ha0] at hv
        unfold World.cell? at hv
        split at hv
        · rename_i C T fr hb
          split at hv
          · cases hv
          · rename_i hs
            obtain ⟨b, off, spot⟩ := a
            have hsp : spot = none := by cases spot <;> simp_all
            subst hsp
            refine .inr ⟨b, off, C, T, fr, rfl, hb, fun i j hi hj => ?_⟩
            have hi' : i < len := by simpa using hi
            obtain ⟨_, d2⟩ := cells_at (hf i hi').1
            have := d2 j hj
            rw [add_at, add_at] at this
            rw [cell_of_row w b _ C T fr hb] at this
            rw [this]
            simp
        · cases hv
    · intro y hy
      obtain ⟨i, hi, rfl⟩ := List.mem_map.1 hy
      exact (hf i (by simpa using hi)).2
theorem open_i {t : TypeId} {k : IntKind} {fuel : Nat} {cs : List Value} {x : DataW H × List MemPlace} (ht : P.underlying t = some (.int k)) (h : DataW.trod en P w base sp held fuel t cs = some x) : ∃ n, cs = [.int k n] ∧ (Lit.int k n).wf = true := by
  obtain ⟨n, h1, _, h2⟩ := DataW.trod_int ht h
  exact ⟨n, h1, h2⟩
/-- A struct's field. -/
theorem open_field {t : TypeId} {fs : Array Field} {fuel : Nat} {cs : List Value} {x : DataW H × List MemPlace} (ht : P.underlying t = some (.struct fs)) (h : DataW.trod en P w base sp held fuel t cs = some x) (i : Nat) {f : Field} (hf : fs[i]? = some f) {n : Nat} (hn : P.cellsOf f.type = n) :
    ∃ fuel' y, DataW.trod en P w base sp held fuel' f.type ((cs.drop f.offset).take n) = some y := by
  obtain ⟨xs, m, _, _, _, hl, hall⟩ := DataW.trod_struct ht h
  have hi : i < xs.length := by rw [hl]; exact (Array.getElem?_eq_some_iff.1 hf).1
  have := hall i f hf
  rw [hn, List.getElem?_eq_getElem hi] at this
  exact ⟨m, _, this⟩
theorem open_len {t : TypeId} {fs : Array Field} {fuel : Nat} {cs : List Value} {x : DataW H × List MemPlace} (ht : P.underlying t = some (.struct fs)) (h : DataW.trod en P w base sp held fuel t cs = some x) : cs.length = P.cellsOf t := (DataW.trod_struct ht h).choose_spec.choose_spec.2.2.1
theorem open_lenA {t e : TypeId} {k : Nat} {fuel : Nat} {cs : List Value} {x : DataW H × List MemPlace} (ht : P.underlying t = some (.array k e)) (h : DataW.trod en P w base sp held fuel t cs = some x) : cs.length = P.cellsOf t := (DataW.trod_array ht h).choose_spec.choose_spec.2.2.1
theorem open_item {t e : TypeId} {k : Nat} {fuel : Nat} {cs : List Value} {x : DataW H × List MemPlace} (ht : P.underlying t = some (.array k e)) (h : DataW.trod en P w base sp held fuel t cs = some x) (i : Nat) (hi : i < k) {n : Nat} (hn : P.cellsOf e = n) :
    ∃ fuel' y, DataW.trod en P w base sp held fuel' e ((cs.drop (i * n)).take n) = some y := by
  obtain ⟨xs, m, _, _, _, hl, hall⟩ := DataW.trod_array ht h
  have := hall i hi
  rw [hn, List.getElem?_eq_getElem (by omega)] at this
  exact ⟨m, _, this⟩
end

/-! ### what stands before is kept -/
def keepF (W : World) : Fact := fun V => ∀ b o, W.heap[b]? = some o → V b = some o
theorem vw_nil (w : World) : vw [] w = full w := by funext b; simp [vw, full]
theorem St.start (W : World) {R : List Fact} (h : ∀ φ ∈ R, Mono φ ∧ φ (full W)) : St W [] R W := by
  refine ⟨rfl, rfl, rfl, [], rfl, ⟨by simp [keys], by simp⟩, fun φ hφ => ?_⟩
  obtain ⟨hm, hv⟩ := h φ hφ
  rw [vw_nil]
  exact fun V' hl => hm _ _ hv hl
theorem Mono.keep (W : World) : Mono (keepF W) := fun _ _ h hl b o ho => hl _ _ (h b o ho)
theorem keepF_self (W : World) : keepF W (full W) := fun _ _ h => h
theorem below_of {W w' : World} {M : List Res} {R : List Fact} (h : St W M (R ++ [keepF W]) w') : Below W.heap.size W w' := by
  have hk : keepF W (full w') := h.fact (List.mem_append_right _ (by simp))
  have hb : ∀ k, k < W.heap.size → w'.heap[k]? = W.heap[k]? := fun k hk' => by
    have e : W.heap[k]? = some W.heap[k] := by simp [hk']
    rw [e]; exact hk k _ e
  refine ⟨h.os, h.tape, h.output, ?_, hb⟩
  rcases Nat.eq_zero_or_pos W.heap.size with h0 | h0
  · omega
  · have := hb (W.heap.size - 1) (by omega)
    rw [show W.heap[W.heap.size - 1]? = some W.heap[W.heap.size - 1] from by simp [h0]] at this
    have := (Array.getElem?_eq_some_iff.1 this).1
    omega
/-- The call of what a contract speaks of. -/
theorem FnV.law {P : Program} {k : FuncId} {args : List Value} {R : List Fact} {v : Value} (h : FnV P k args R v) (W : World) (hR : ∀ φ ∈ R, Mono φ ∧ φ (full W)) : Calls P k args.toArray W fun e w' => e = .returned v ∧ Below W.heap.size W w' := by
  have hs : St W [] (R ++ [keepF W]) W := St.start W (fun φ hφ => by
    rcases List.mem_append.1 hφ with h1 | h1
    · exact hR φ h1
    · have : φ = keepF W := by simpa using h1
      subst this
      exact ⟨Mono.keep W, keepF_self W⟩)
  exact (h.calls W [] [keepF W] W hs).mono fun e w' ⟨he, hw⟩ => ⟨he, below_of hw⟩

/-! ### a law's end -/
section
variable {H : Type} {en : TypeId × Value → H} {P : Program}
theorem trodAll_stays (hl : laidOutB P = true) {W W' : World} (hb : Below W.heap.size W W') : ∀ {ts : List TypeId} {vs : List Value} {ds : List (DataW H)} {ps : List MemPlace}, (ts.all fun t => P.readableRec t && Nat.blt t P.types.size) = true →
    DataW.TrodAll en P W 0 (fun _ => true) true ts vs ds ps → (∀ p ∈ ps, p.block < W.heap.size) → ∀ sp : Nat → Bool, (∀ p ∈ ps, sp p.block = true) → DataW.TrodAll en P W' 0 sp true ts vs ds ps
  | [], vs, ds, ps, _, h, _, sp, _ => by
    obtain ⟨rfl, rfl, rfl⟩ := trodAll_nil h
    exact rfl
  | t :: ts, vs, ds, ps, ht, h, hp, sp, hsp => by
    obtain ⟨v, vs', d, ds', p, q, rfl, rfl, rfl, h1, h2⟩ := trodAll_cons h
    simp only [List.all_cons, Bool.and_eq_true] at ht
    refine ⟨p, q, ?_, trodAll_stays hl hb ht.2 h2 (fun x hx => hp x (List.mem_append_right _ hx)) sp (fun x hx => hsp x (List.mem_append_right _ hx)), rfl⟩
    exact WideElems.Trod_stays hl ht.1.1 (by simpa using ht.1.2) h1 (fun x hx => hb.same (hp x (List.mem_append_left _ hx))) (fun x hx => hsp x (List.mem_append_left _ hx))
theorem post_of_below {f : Func} {s : ChangeSpec} {W W' : World} {args : Array Value} {ds gs : List (DataW H)} {before : List MemPlace} {tb : TypeId}
    (hW : DataW.Whole en P f.params.toList s.vars false W args.toList ds gs before) (hv : s.vars = []) (hl : laidOutB P = true) (hts : (f.params.toList.all fun t => P.readableRec t && Nat.blt t P.types.size) = true)
    (hr : f.resultTypes = #[tb]) (hb : P.underlying tb = some .bool) (hs : s.fn H ds = { results := [.lit (.bool true)], args := ds, vars := [] }) (hbl : Below W.heap.size W W') : s.post en P f false true false false W args (.bool true) W' := by
  have hW0 := hW
  obtain ⟨p, q, hA, hV, hpq, hz, hn⟩ := hW
  rw [hv] at hV
  obtain ⟨rfl, rfl⟩ := trodVars_none hV
  have hbe : before = p := by simpa using hpq
  subst hbe
  have hlt : ∀ x ∈ before, x.block < W.heap.size := hW0.lt
  have hargs : ∀ sp : Nat → Bool, (∀ x ∈ before, sp x.block = true) → DataW.TrodAll en P W' 0 sp true f.params.toList args.toList ds before := fun sp hsp => trodAll_stays hl hbl hts hA hlt sp hsp
  have hres : ∀ (b : Nat) (sp : Nat → Bool) (hd : Bool), DataW.TrodAll en P W' b sp hd f.resultTypes.toList ((Value.bool true).resultList f.resultTypes.size) [.lit (.bool true)] [] := by
    intro b sp hd
    rw [hr]
    exact trodAll_mk1 (shut_bool hb true)
  have hs' : s.fn H (ds ++ []) = { results := [.lit (.bool true)], args := ds, vars := [] } := by rw [List.append_nil]; exact hs
  have hold : ∀ x ∈ before, (fun b => decide (b < W.heap.size)) x.block = true := fun x hx => by simpa using hlt x hx
  have hargs' : ∀ sp : Nat → Bool, (∀ x ∈ before, sp x.block = true) → DataW.TrodAll en P W' 0 sp true f.params.toList args.toList (s.fn H (ds ++ [])).args before := by rw [hs']; exact hargs
  have hres' : ∀ (b : Nat) (sp : Nat → Bool) (hd : Bool), DataW.TrodAll en P W' b sp hd f.resultTypes.toList ((Value.bool true).resultList f.resultTypes.size) (s.fn H (ds ++ [])).results [] := by rw [hs']; exact hres
  have hvars' : ∀ sp : Nat → Bool, DataW.TrodVars en P W' sp s.vars (s.fn H (ds ++ [])).vars [] := by intro sp; rw [hs', hv]; rfl
  refine ⟨ds, [], before, [], before, [], hW0, hres' _ _ _, hargs' _ hold, hvars' _, hbl.frame _, fun _ => ?_⟩
  refine ⟨ok_one hr rfl (okWide_bool_mk hb true), _, _, ([] ++ before) ++ [], ⟨[] ++ before, [], trodAll_append (hargs' _ (fun _ _ => rfl)) (hres' _ _ _), hvars' _, rfl, ?_, ?_⟩, ?_⟩
  · intro b off hp
    rw [hbl.frozen (hlt _ (by simpa using hp))]
    exact hz b off (by simpa using hp)
  · intro ha; cases ha
  · intro x hx _
    simpa using hx
end
end Go.G


namespace Go.Proofs.Ytienjlmnakbfmaa
open Go.G Foot4
set_option maxRecDepth 1000000
section
variable {H : Type} {en : TypeId × Value → H} {w : World} {base : Nat} {sp : Nat → Bool} {held : Bool} {fuel : Nat} {cs : List Value} {x : DataW H × List MemPlace}
theorem cells22 : Try.prog.cellsOf 22 = 1 := by kernel_rfl
theorem cells23 : Try.prog.cellsOf 23 = 3 := by kernel_rfl
theorem cells24 : Try.prog.cellsOf 24 = 1 := by kernel_rfl
theorem cells26 : Try.prog.cellsOf 26 = 9 := by kernel_rfl
theorem cells31 : Try.prog.cellsOf 31 = 2 := by kernel_rfl
theorem cells73 : Try.prog.cellsOf 73 = 3 := by kernel_rfl
theorem cellsI : Try.prog.cellsOf 3 = 1 := by kernel_rfl
theorem open3 (h : DataW.trod en Try.prog w base sp held fuel 3 cs = some x) : ∃ n, cs = [i64 n] := by
  obtain ⟨n, h1, _⟩ := open_i Try.underlying3 h
  exact ⟨n, h1⟩
theorem list2 {cs : List Value} (h : cs.length = 2) : ∃ a b, cs = [a, b] := by
  match cs, h with
  | [a, b], _ => exact ⟨a, b, rfl⟩
theorem list3 {cs : List Value} (h : cs.length = 3) : ∃ a b c, cs = [a, b, c] := by
  match cs, h with
  | [a, b, c], _ => exact ⟨a, b, c, rfl⟩
theorem list9 {cs : List Value} (h : cs.length = 9) : ∃ a b c d e f g i j, cs = [a, b, c, d, e, f, g, i, j] := by
  match cs, h with
  | [a, b, c, d, e, f, g, i, j], _ => exact ⟨a, b, c, d, e, f, g, i, j, rfl⟩
theorem open31 (h : DataW.trod en Try.prog w base sp held fuel 31 cs = some x) : ∃ s : Span, cs = encS s ∧ True := by
  obtain ⟨a, b, rfl⟩ := list2 ((open_len Try.underlying31 h).trans cells31)
  obtain ⟨_, _, h0⟩ := open_field Try.underlying31 h 0 rfl cellsI
  obtain ⟨_, _, h1⟩ := open_field Try.underlying31 h 1 rfl cellsI
  obtain ⟨n, e0⟩ := open3 h0
  obtain ⟨m, e1⟩ := open3 h1
  have e0' : [a] = [i64 n] := e0
  have e1' : [b] = [i64 m] := e1
  cases e0'; cases e1'
  exact ⟨⟨n, m⟩, rfl, trivial⟩
theorem open3a {t : TypeId} {e : TypeInfo} (ht : Try.prog.underlying t = some (.array 3 3)) (hc : Try.prog.cellsOf t = 3) (h : DataW.trod en Try.prog w base sp held fuel t cs = some x) : ∃ s : T3, cs = encT s ∧ True := by
  obtain ⟨a, b, c, rfl⟩ := list3 ((open_lenA ht h).trans hc)
  obtain ⟨_, _, h0⟩ := open_item ht h 0 (by omega) cellsI
  obtain ⟨_, _, h1⟩ := open_item ht h 1 (by omega) cellsI
  obtain ⟨_, _, h2⟩ := open_item ht h 2 (by omega) cellsI
  obtain ⟨n, e0⟩ := open3 h0
  obtain ⟨m, e1⟩ := open3 h1
  obtain ⟨k, e2⟩ := open3 h2
  have e0' : [a] = [i64 n] := e0
  have e1' : [b] = [i64 m] := e1
  have e2' : [c] = [i64 k] := e2
  cases e0'; cases e1'; cases e2'
  exact ⟨⟨n, m, k⟩, rfl, trivial⟩
theorem open73 (h : DataW.trod en Try.prog w base sp held fuel 73 cs = some x) : ∃ s : Foot4.Heap, cs = encH s ∧ True := by
  obtain ⟨a, b, c, rfl⟩ := list3 ((open_len Try.underlying73 h).trans cells73)
  obtain ⟨_, _, h0⟩ := open_field Try.underlying73 h 0 rfl cells31
  obtain ⟨_, _, h1⟩ := open_field Try.underlying73 h 1 rfl cellsI
  obtain ⟨s, e0, _⟩ := open31 h0
  obtain ⟨n, e1⟩ := open3 h1
  have e0' : [a, b] = [i64 s.lo, i64 s.hi] := e0
  have e1' : [c] = [i64 n] := e1
  cases e0'; cases e1'
  exact ⟨⟨s.lo, s.hi, n⟩, rfl, trivial⟩
theorem open26 (h : DataW.trod en Try.prog w base sp held fuel 26 cs = some x) : ∃ F ro rc ho hc, cs = cellsF F ro rc ho hc ∧ rowD ro 2 encS F.rain (full w) ∧ rowD ho 3 encH F.heaps (full w) := by
  obtain ⟨a, b, c, d, e, f, g, i, j, rfl⟩ := list9 ((open_len Try.underlying26 h).trans cells26)
  obtain ⟨_, _, h0⟩ := open_field Try.underlying26 h 0 rfl cells22
  obtain ⟨_, _, h1⟩ := open_field Try.underlying26 h 1 rfl cellsI
  obtain ⟨_, _, h2⟩ := open_field Try.underlying26 h 2 rfl cells23
  obtain ⟨_, _, h3⟩ := open_field Try.underlying26 h 3 rfl cells23
  obtain ⟨_, _, h4⟩ := open_field Try.underlying26 h 4 rfl cells24
  obtain ⟨ro, rc, rain, e0, r0, _, _⟩ := open_rowD (fun _ : Span => True) Try.underlying22 cells31 (by omega) (fun _ _ _ h => open31 h) h0
  obtain ⟨men, e1⟩ := open3 h1
  obtain ⟨lim, e2, _⟩ := open3a (e := Try.t23) Try.underlying23 cells23 h2
  obtain ⟨dr, e3, _⟩ := open3a (e := Try.t23) Try.underlying23 cells23 h3
  obtain ⟨ho, hc, heaps, e4, r4, _, _⟩ := open_rowD (fun _ : Foot4.Heap => True) Try.underlying24 cells73 (by omega) (fun _ _ _ h => open73 h) h4
  have e0' : [a] = [.slice ro rain.length rc] := e0
  have e1' : [b] = [i64 men] := e1
  have e2' : [c, d, e] = [i64 lim.a, i64 lim.b, i64 lim.c] := e2
  have e3' : [f, g, i] = [i64 dr.a, i64 dr.b, i64 dr.c] := e3
  have e4' : [j] = [.slice ho heaps.length hc] := e4
  cases e0'; cases e1'; cases e2'; cases e3'; cases e4'
  exact ⟨⟨rain, men, lim, dr, heaps⟩, ro, rc, ho, hc, rfl, r0, r4⟩
end
section
variable {H : Type} {en : TypeId × Value → H} {w : World} {base b0 : Nat} {r : Reach} {sp : Nat → Bool} {held : Bool} {v : Value} {d : DataW H} {ps : List MemPlace}
theorem agg_of {t : TypeId} {dd : TypeDesc} (hd : Try.prog.underlying t = some dd) (ha : aggD dd = true) (hv : Value.okWide Try.prog w r b0 t v) : ∃ cs : List Value, v = .agg cs.toArray := by
  unfold Value.okWide at hv
  rw [hd] at hv
  cases dd <;> simp [aggD] at ha
  all_goals
    obtain ⟨cs, rfl, _⟩ := hv
    exact ⟨cs.toList, by simp⟩
theorem get26 (hv : Value.okWide Try.prog w r b0 26 v) (h : DataW.Trod en Try.prog w base sp held 26 v d ps) : ∃ F ro rc ho hc, v = valF F ro rc ho hc ∧ rowD ro 2 encS F.rain (full w) ∧ rowD ho 3 encH F.heaps (full w) := by
  obtain ⟨cs, rfl⟩ := agg_of Try.underlying26 rfl hv
  obtain ⟨fuel, h⟩ := h
  obtain ⟨F, ro, rc, ho, hc, e, h1, h2⟩ := open26 (cs := cs) h
  subst e
  exact ⟨F, ro, rc, ho, hc, rfl, h1, h2⟩
end
theorem own0 : ownKnob Try.prog.godebug = none := by kernel_rfl
theorem monoF {W : World} {F : Work} {ro ho : Option Addr} (h1 : rowD ro 2 encS F.rain (full W)) (h2 : rowD ho 3 encH F.heaps (full W)) : ∀ φ ∈ [rowD ro 2 encS F.rain, rowD ho 3 encH F.heaps], Mono φ ∧ φ (full W) := by
  intro φ hφ
  simp only [List.mem_cons, List.not_mem_nil, or_false] at hφ
  rcases hφ with rfl | rfl
  · exact ⟨Mono.row _ _ _ _, h1⟩
  · exact ⟨Mono.row _ _ _ _, h2⟩
end Go.Proofs.Ytienjlmnakbfmaa


namespace Go.Proofs.Ytienjlmnakbfmaa
open Go.G Foot4
theorem nat8 {x : Int} (h : (Lit.int .u8 x).wf = true) : ∃ w : Nat, x = w ∧ w ≤ 255 := by
  have m1 : IntKind.u8.min = 0 := rfl
  have m2 : IntKind.u8.max = 255 := rfl
  simp only [Lit.wf, m1, m2, Bool.and_eq_true, decide_eq_true_eq] at h
  exact ⟨x.toNat, by omega, by omega⟩
theorem nat16 {x : Int} (h : (Lit.int .u16 x).wf = true) : ∃ w : Nat, x = w ∧ w ≤ 65535 := by
  have m1 : IntKind.u16.min = 0 := rfl
  have m2 : IntKind.u16.max = 65535 := rfl
  simp only [Lit.wf, m1, m2, Bool.and_eq_true, decide_eq_true_eq] at h
  exact ⟨x.toNat, by omega, by omega⟩
set_option maxRecDepth 1000000
section
variable {H : Type} {en : TypeId × Value → H} {w : World} {base b0 : Nat} {r : Reach} {sp : Nat → Bool} {held : Bool} {v : Value} {d : DataW H} {ps : List MemPlace}
end
end Go.Proofs.Ytienjlmnakbfmaa

