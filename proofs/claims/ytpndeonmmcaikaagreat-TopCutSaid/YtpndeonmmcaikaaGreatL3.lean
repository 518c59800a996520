/- Part 3 of 6 of what the proofs of this seat stand on: a small logic for walks, what the functions come to, and the walks themselves. No condition of its own. -/
import Derived.Test.YtpndeonmmcaikaaGreatL2
set_option linter.unusedVariables false
set_option linter.unusedSimpArgs false
set_option linter.unusedSectionVars false
namespace Go.Proofs.YtpndeonmmcaikaaGreat.BurstW
open Go.G Burst8
set_option maxRecDepth 1000000
attribute [local irreducible] G.ParO G.Fin
variable (B : Bog) (bo ro so : Option Addr) (bc rc sc : Nat) (bb mb : Nat)
theorem r_retseqxR {W : World} {n : Nat} {L : Tm} {M : List Res} {R : List Fact} {fn : Func} {J Jx : Nat → Res} {N i : Nat} {R0 : List Fact} {v : Value} (hr : Rd Tryz.prog W n L M R fn v) (hi : i ≤ N ∧ 1 ≤ i) (hM : SelM M [Jx i]) (hR : SubR R R0) : Imp W n [] L M R (bodyPost Tryz.prog fn (RetSeq W J Jx N R0) .ret) :=
  fun a w h1 h2 h3 => ⟨h2, v, hr a w h1 h3, ⟨v, rfl⟩, .inr ⟨i, hi.1, hi.2, (h3.sel hM).weak hR⟩⟩
theorem bit_and {m k : Nat} : m >>> k &&& 1 = if m.testBit k then 1 else 0 := by
  rw [Nat.testBit, Nat.and_comm]
  have h : 1 &&& m >>> k ≤ 1 := Nat.and_le_left
  rcases Nat.le_one_iff_eq_zero_or_eq_one.1 h with e | e <;> simp [e]
theorem bit_ne {m k : Nat} (h : ¬ ((m >>> k &&& 1 : Nat) : Int) = 0) : m.testBit k = true := by
  rw [bit_and] at h
  cases e : m.testBit k
  · rw [e] at h; exact absurd rfl h
  · rfl
theorem bit_eq {m k : Nat} (h : ((m >>> k &&& 1 : Nat) : Int) = 0) : ¬ m.testBit k = true := by
  rw [bit_and] at h
  intro e
  rw [e] at h
  cases h
set_option maxHeartbeats 4000000 in
theorem bounds1_true (m : Nat) (s : Int) (c1 c2 : Nat) (hg : GoodB B) (hm : m < 2 ^ 62) : IsSeq Tryz.prog 195 [pt c1 0, pt c2 0] [boxF c1 157 [pt bb 0], boxF c2 233 [u64 m, i64 s, .bool true], boxF bb 230 [.slice bo B.banks.length bc, i64 B.wlo, i64 B.whi, .slice ro B.rain.length rc, i64 B.drain, .slice so B.signs.length sc, .map (some mb)], rowD bo 4 encB B.banks, rowD ro 2 encS B.rain, rowD so 3 encG B.signs] (fun x => [vN x]) (boundsL B m s true) := by
 refine IsSeq.intro Tryz.call195 Tryz.func195 rfl Tryz.ntmps195 rfl ?_; intro l J Jx W Rf hY; refine r_scope ?_; refine r_seq ?_; refine r_seq ?_; have hgb := hg.nb; have hgr := hg.nr; have hgs := hg.ns; have hgd := hg.dr; have hw := at_w B m s true; refine r_region_in ?_; refine oi_lift wideF rfl (fun _ _ h => by obtain ⟨⟨v, hv⟩, _⟩ := h; cases hv) ?_; refine q_mv rfl rfl rfl rfl rfl ?_; refine o_nil (r_then ?_); refine oi_lift wideF rfl (fun _ _ h => by obtain ⟨⟨v, hv⟩, _⟩ := h; cases hv) ?_; refine o_q _ rfl rfl rfl (v_lf1 rfl Tryz.underlying157 rfl rfl rfl) ?_; refine o_nil (r_then ?_); refine oi_lift wideF rfl (fun _ _ h => by obtain ⟨⟨v, hv⟩, _⟩ := h; cases hv) ?_; refine o_q _ rfl rfl rfl (v_nilCheck rfl rfl) ?_; refine o_nil (r_then ?_); refine oi_lift wideF rfl (fun _ _ h => by obtain ⟨⟨v, hv⟩, _⟩ := h; cases hv) ?_; refine o_q _ rfl rfl rfl (v_fieldAddr rfl Tryz.underlying230 inf66 rfl rfl rfl rfl) ?_; refine o_nil (r_then ?_); refine oi_lift wideF rfl (fun _ _ h => by obtain ⟨⟨v, hv⟩, _⟩ := h; cases hv) ?_; refine o_q _ rfl rfl rfl (v_fieldAddr rfl Tryz.underlying66 inf43 rfl rfl rfl rfl) ?_; refine o_nil (r_then ?_); refine oi_lift wideF rfl (fun _ _ h => by obtain ⟨⟨v, hv⟩, _⟩ := h; cases hv) ?_; refine o_q _ rfl rfl rfl (v_lfN rfl Tryz.underlying43 rfl inf43 rfl rfl rfl) ?_; refine o_nil (r_then ?_); refine oi_lift wideF rfl (fun _ _ h => by obtain ⟨⟨v, hv⟩, _⟩ := h; cases hv) ?_; refine o_q _ rfl rfl rfl (v_bS rfl Tryz.underlying291 inf291 plt291 rfl rfl rfl (by repeat (first | exact trivial | refine ⟨rfl, ?_⟩)) (by rfl)) ?_; refine o_nil (r_then ?_); refine oi_yields (Ri := [boxF c1 157 [pt bb 0], boxF c2 233 [u64 m, i64 s, .bool true], boxF bb 230 [.slice bo B.banks.length bc, i64 B.wlo, i64 B.whi, .slice ro B.rain.length rc, i64 B.drain, .slice so B.signs.length sc, .map (some mb)], rowD bo 4 encB B.banks, rowD ro 2 encS B.rain, rowD so 3 encG B.signs]) hY (hw).1 rfl rfl rfl (congrArg (fun x => [x]) (vN_mk (a' := 0) (b' := 0) (bW B) (by show _ = ((5 : Nat) : Int); omega) (by show _ = ((0 : Nat) : Int); omega) rfl rfl)) rfl rfl rfl ?_ ?_
 all_goals
  refine oi_lift wideF rfl (fun _ _ h => by obtain ⟨⟨v, hv⟩, _⟩ := h; cases hv) ?_; refine o_q _ rfl rfl rfl (v_not rfl rfl) ?_; refine o_nil (r_then ?_); refine oi_nil ?_; refine r_then ?_; refine r_cond rfl (fun hc20 => ?_) (fun hc20 => ?_)
  ·
   first
   | (exfalso; revert hc20; decide)
   |
    skip
    refine r_ret ?_; (with_reducible refine r_then_ret ?_; refine r_sc_ret ?_); exact r_retseqxR (Rd.none rfl) ⟨hw.2, by omega⟩ SelMC.sel SubRC.sub
  ·
   first
   | (exfalso; revert hc20; decide)
   |
    skip
    refine r_skip (r_then ?_); refine r_seq ?_; refine r_seq (r_region ?_); refine o_q _ rfl rfl rfl (v_lf1 rfl Tryz.underlying157 rfl rfl rfl) ?_; refine o_q _ rfl rfl rfl (v_nilCheck rfl rfl) ?_; refine o_q _ rfl rfl rfl (v_fieldAddr rfl Tryz.underlying230 inf66 rfl rfl rfl rfl) ?_; refine o_q _ rfl rfl rfl (v_fieldAddr rfl Tryz.underlying66 inf63 rfl rfl rfl rfl) ?_; refine o_q _ rfl rfl rfl (v_lf1 rfl Tryz.underlying63 rfl rfl rfl) ?_; refine o_q _ rfl rfl rfl (v_len rfl rfl Tryz.underlying63 rfl) ?_; refine q_mv rfl rfl rfl rfl rfl ?_; refine o_nil (r_then ?_); refine r_block ?_; refine r_loop (ι := Nat) (fun i => i ≤ B.banks.length) (fun i => [(0, .func (.yield l) #[] #[]), (1, pt c1 0), (2, pt c2 0), (25, .slice bo B.banks.length bc), (26, i64 B.banks.length), (27, i64 i)]) (fun i => [J (bsTo B i).length]) (fun i => [boxF c1 157 [pt bb 0], boxF c2 233 [u64 m, i64 s, .bool true], boxF bb 230 [.slice bo B.banks.length bc, i64 B.wlo, i64 B.whi, .slice ro B.rain.length rc, i64 B.drain, .slice so B.signs.length sc, .map (some mb)], rowD bo 4 encB B.banks, rowD ro 2 encS B.rain, rowD so 3 encG B.signs] ++ Rf) (fun i => B.banks.length - i) 0 ?_ ?_ ?_
    ·
     show Imp _ _ _ _ [J (bsTo B 0).length] _ _; exact r_here (by repeat (first | exact FSub.nil | refine FSub.cons rfl ?_)) SelMC.sel SubRC.sub
    ·
     omega
    ·
     rintro i hI0; refine r_seq (r_region ?_); refine o_q _ rfl rfl rfl (v_lss rfl rfl rfl) ?_; refine o_nil (r_then (r_seq ?_)); refine r_condd rfl (fun hc28 => ?_) (fun hc28 => ?_)
     ·
      refine r_skip (r_then ?_); refine r_seq (r_block ?_); refine r_seq (r_region ?_); refine q_mv rfl rfl rfl rfl rfl ?_; refine o_q _ rfl rfl rfl (v_indexAddrSn rfl Tryz.underlying63 inf75 rfl rfl rfl (by omega) rfl) ?_; refine o_q _ rfl rfl rfl (v_loadEN rfl Tryz.underlying75 rfl inf75 rfl (by omega) rfl rfl rfl) ?_; refine o_alloc rfl inf75 rfl rfl rfl rfl rfl (fun b5 => ?_); refine q_as rfl rfl rfl rfl rfl ?_; refine o_st rfl inf75 rfl rfl rfl rfl rfl rfl rfl rfl ?_; refine o_nil (r_then (r_seq ?_)); have hbk := hg.banks i (by omega); unfold BankOk at hbk; refine Imp.box_to b5 [i64 (B.banks.getD i default).blo, i64 (B.banks.getD i default).bhi, i64 (B.banks.getD i default).clo, i64 (B.banks.getD i default).chi] rfl ?_; have hat := at_b B m s true (i := i) (by omega); refine r_region_in ?_; refine oi_lift wideF rfl (fun _ _ h => by obtain ⟨⟨v, hv⟩, _⟩ := h; cases hv) ?_; refine q_mv rfl rfl rfl rfl rfl ?_; refine o_nil (r_then ?_); refine oi_lift wideF rfl (fun _ _ h => by obtain ⟨⟨v, hv⟩, _⟩ := h; cases hv) ?_; refine q_mv rfl rfl rfl rfl rfl ?_; refine o_nil (r_then ?_); refine oi_lift wideF rfl (fun _ _ h => by obtain ⟨⟨v, hv⟩, _⟩ := h; cases hv) ?_; refine o_q _ rfl rfl rfl (v_add rfl rfl rfl (by omega)) ?_; refine o_nil (r_then ?_); refine oi_lift wideF rfl (fun _ _ h => by obtain ⟨⟨v, hv⟩, _⟩ := h; cases hv) ?_; refine o_q _ rfl rfl rfl (v_fieldAddr rfl Tryz.underlying75 inf43 rfl rfl rfl rfl) ?_; refine o_nil (r_then ?_); refine oi_lift wideF rfl (fun _ _ h => by obtain ⟨⟨v, hv⟩, _⟩ := h; cases hv) ?_; refine o_q _ rfl rfl rfl (v_fieldAddr rfl Tryz.underlying43 inf3 rfl rfl rfl rfl) ?_; refine o_nil (r_then ?_); refine oi_lift wideF rfl (fun _ _ h => by obtain ⟨⟨v, hv⟩, _⟩ := h; cases hv) ?_; refine o_q _ rfl rfl rfl (v_ld1 rfl Tryz.underlying3 rfl rfl rfl) ?_; refine o_nil (r_then ?_); refine oi_lift wideF rfl (fun _ _ h => by obtain ⟨⟨v, hv⟩, _⟩ := h; cases hv) ?_; refine o_q _ rfl rfl rfl (v_fieldAddr rfl Tryz.underlying75 inf43 rfl rfl rfl rfl) ?_; refine o_nil (r_then ?_); refine oi_lift wideF rfl (fun _ _ h => by obtain ⟨⟨v, hv⟩, _⟩ := h; cases hv) ?_; refine o_q _ rfl rfl rfl (v_fieldAddr rfl Tryz.underlying43 inf3 rfl rfl rfl rfl) ?_; refine o_nil (r_then ?_); refine oi_lift wideF rfl (fun _ _ h => by obtain ⟨⟨v, hv⟩, _⟩ := h; cases hv) ?_; refine o_q _ rfl rfl rfl (v_ld1 rfl Tryz.underlying3 rfl rfl rfl) ?_; refine o_nil (r_then ?_); refine oi_lift wideF rfl (fun _ _ h => by obtain ⟨⟨v, hv⟩, _⟩ := h; cases hv) ?_; refine o_q _ rfl rfl rfl (v_sub rfl rfl rfl (by omega)) ?_; refine o_nil (r_then ?_); refine oi_lift wideF rfl (fun _ _ h => by obtain ⟨⟨v, hv⟩, _⟩ := h; cases hv) ?_; refine o_q _ rfl rfl rfl (v_fieldAddr rfl Tryz.underlying75 inf43 rfl rfl rfl rfl) ?_; refine o_nil (r_then ?_)
      refine oi_lift wideF rfl (fun _ _ h => by obtain ⟨⟨v, hv⟩, _⟩ := h; cases hv) ?_; refine o_q _ rfl rfl rfl (v_fieldAddr rfl Tryz.underlying43 inf3 rfl rfl rfl rfl) ?_; refine o_nil (r_then ?_); refine oi_lift wideF rfl (fun _ _ h => by obtain ⟨⟨v, hv⟩, _⟩ := h; cases hv) ?_; refine o_q _ rfl rfl rfl (v_ld1 rfl Tryz.underlying3 rfl rfl rfl) ?_; refine o_nil (r_then ?_); refine oi_lift wideF rfl (fun _ _ h => by obtain ⟨⟨v, hv⟩, _⟩ := h; cases hv) ?_; refine o_q _ rfl rfl rfl (v_fieldAddr rfl Tryz.underlying75 inf43 rfl rfl rfl rfl) ?_; refine o_nil (r_then ?_); refine oi_lift wideF rfl (fun _ _ h => by obtain ⟨⟨v, hv⟩, _⟩ := h; cases hv) ?_; refine o_q _ rfl rfl rfl (v_fieldAddr rfl Tryz.underlying43 inf3 rfl rfl rfl rfl) ?_; refine o_nil (r_then ?_); refine oi_lift wideF rfl (fun _ _ h => by obtain ⟨⟨v, hv⟩, _⟩ := h; cases hv) ?_; refine o_q _ rfl rfl rfl (v_ld1 rfl Tryz.underlying3 rfl rfl rfl) ?_; refine o_nil (r_then ?_); refine oi_lift wideF rfl (fun _ _ h => by obtain ⟨⟨v, hv⟩, _⟩ := h; cases hv) ?_; refine o_q _ rfl rfl rfl (v_sub rfl rfl rfl (by omega)) ?_; refine o_nil (r_then ?_); refine oi_lift wideF rfl (fun _ _ h => by obtain ⟨⟨v, hv⟩, _⟩ := h; cases hv) ?_; refine o_q _ rfl rfl rfl (v_bS rfl Tryz.underlying43 inf43 plt43 rfl rfl rfl (by repeat (first | exact trivial | refine ⟨rfl, ?_⟩)) (by rfl)) ?_; refine o_nil (r_then ?_); refine oi_lift wideF rfl (fun _ _ h => by obtain ⟨⟨v, hv⟩, _⟩ := h; cases hv) ?_; refine o_q _ rfl rfl rfl (v_bS rfl Tryz.underlying291 inf291 plt291 rfl rfl rfl (by repeat (first | exact trivial | refine ⟨rfl, ?_⟩)) (by rfl)) ?_; refine o_nil (r_then ?_); refine oi_yields (Ri := [boxF c1 157 [pt bb 0], boxF c2 233 [u64 m, i64 s, .bool true], boxF bb 230 [.slice bo B.banks.length bc, i64 B.wlo, i64 B.whi, .slice ro B.rain.length rc, i64 B.drain, .slice so B.signs.length sc, .map (some mb)], rowD bo 4 encB B.banks, rowD ro 2 encS B.rain, rowD so 3 encG B.signs]) hY (hat).1 rfl rfl rfl (congrArg (fun x => [x]) (vN_mk (a' := 0) (b' := 0) (bB B i) (by show _ = ((1 + i : Nat) : Int); omega) (by show _ = ((0 : Nat) : Int); omega) rfl rfl)) rfl rfl rfl ?_ ?_
      all_goals
       refine oi_lift wideF rfl (fun _ _ h => by obtain ⟨⟨v, hv⟩, _⟩ := h; cases hv) ?_; refine o_q _ rfl rfl rfl (v_not rfl rfl) ?_; refine o_nil (r_then ?_); refine oi_nil ?_; refine r_then ?_; refine r_cond rfl (fun hc52 => ?_) (fun hc52 => ?_)
       ·
        first
        | (exfalso; revert hc52; decide)
        |
         skip
         refine r_ret ?_; (with_reducible refine r_in_ret ?_; refine r_then_ret ?_; refine r_then_ret ?_; refine r_in_ret ?_; refine r_then_ret ?_; refine r_sc_ret ?_); exact r_retseqxR (Rd.none rfl) ⟨hat.2, by omega⟩ SelMC.sel SubRC.sub
       ·
        first
        | (exfalso; revert hc52; decide)
        |
         skip
         refine r_skip ?_; refine r_in_normal ?_; refine r_then ?_; refine r_region ?_; refine o_q _ rfl rfl rfl (v_add rfl rfl rfl (by omega)) ?_; refine q_mv rfl rfl rfl rfl rfl ?_; refine o_nil (r_then ?_); refine r_next (i + 1) ?_ ?_ ?_
         ·
          rw [← len_b]; exact r_here (by repeat (first | exact FSub.nil | refine FSub.cons rfl ?_)) SelMC.sel SubRC.sub
         ·
          omega
         ·
          omega
     ·
      refine r_exit ?_; refine r_then_exit ?_; refine r_then_exit ?_; refine r_in_here ?_; refine r_then (r_seq ?_); refine r_seq (r_region ?_); refine o_q _ rfl rfl rfl (v_lf1 rfl Tryz.underlying157 rfl rfl rfl) ?_; refine o_q _ rfl rfl rfl (v_nilCheck rfl rfl) ?_; refine o_q _ rfl rfl rfl (v_fieldAddr rfl Tryz.underlying230 inf66 rfl rfl rfl rfl) ?_; refine o_q _ rfl rfl rfl (v_fieldAddr rfl Tryz.underlying66 inf59 rfl rfl rfl rfl) ?_; refine o_q _ rfl rfl rfl (v_lf1 rfl Tryz.underlying59 rfl rfl rfl) ?_; refine o_q _ rfl rfl rfl (v_len rfl rfl Tryz.underlying59 rfl) ?_; refine q_mv rfl rfl rfl rfl rfl ?_; refine o_nil (r_then ?_); refine r_block ?_; refine r_loop (ι := Nat) (fun d => d ≤ B.rain.length) (fun d => [(0, .func (.yield l) #[] #[]), (1, pt c1 0), (2, pt c2 0), (58, .slice ro B.rain.length rc), (59, i64 B.rain.length), (60, i64 d)]) (fun d => [J (rsTo B d).length]) (fun d => [boxF c1 157 [pt bb 0], boxF c2 233 [u64 m, i64 s, .bool true], boxF bb 230 [.slice bo B.banks.length bc, i64 B.wlo, i64 B.whi, .slice ro B.rain.length rc, i64 B.drain, .slice so B.signs.length sc, .map (some mb)], rowD bo 4 encB B.banks, rowD ro 2 encS B.rain, rowD so 3 encG B.signs] ++ Rf) (fun d => B.rain.length - d) 0 ?_ ?_ ?_
      ·
       obtain rfl : i = B.banks.length := by omega
       rw [← rsTo_0]; exact r_here (by repeat (first | exact FSub.nil | refine FSub.cons rfl ?_)) SelMC.sel SubRC.sub
      ·
       omega
      ·
       rintro d hI1; refine r_seq (r_region ?_); refine o_q _ rfl rfl rfl (v_lss rfl rfl rfl) ?_; refine o_nil (r_then (r_seq ?_)); refine r_condd rfl (fun hc61 => ?_) (fun hc61 => ?_)
       ·
        refine r_skip (r_then ?_); refine r_seq (r_block ?_); refine r_seq (r_region ?_); refine q_mv rfl rfl rfl rfl rfl ?_; refine o_q _ rfl rfl rfl (v_indexAddrSn rfl Tryz.underlying59 inf43 rfl rfl rfl (by omega) rfl) ?_; refine o_q _ rfl rfl rfl (v_loadEN rfl Tryz.underlying43 rfl inf43 rfl (by omega) rfl rfl rfl) ?_; refine o_alloc rfl inf43 rfl rfl rfl rfl rfl (fun b7 => ?_); refine q_as rfl rfl rfl rfl rfl ?_; refine o_st rfl inf43 rfl rfl rfl rfl rfl rfl rfl rfl ?_; refine o_nil (r_then (r_seq ?_)); have hrn := hg.rain d (by omega); unfold RainOk at hrn; refine Imp.box_to b7 [i64 (B.rain.getD d default).lo, i64 (B.rain.getD d default).hi] rfl ?_; have hat := at_r B m s true (d := d) (by omega); refine r_par_in' 24 mixed (by kernel_rfl) (by rfl) (by kernel_rfl) ?_; refine p_q _ rfl rfl rfl (fun _ _ => v_move rfl rfl) ?_; refine p_q _ rfl rfl rfl (fun _ _ => v_move rfl rfl) ?_; refine p_q _ rfl rfl rfl (fun _ _ => v_add rfl rfl rfl (by omega)) ?_; refine p_q _ rfl rfl rfl (fun _ _ => v_add rfl rfl rfl (by omega)) ?_; refine p_q _ rfl rfl rfl (fun _ _ => v_move rfl rfl) ?_; refine p_q _ rfl rfl rfl (fun _ _ => v_add rfl rfl rfl (by omega)) ?_; refine p_q _ rfl rfl rfl (fun _ _ => v_fieldAddr rfl Tryz.underlying43 inf3 rfl rfl rfl rfl) ?_; refine p_q _ rfl rfl rfl (fun _ _ => v_ld1 rfl Tryz.underlying3 rfl rfl rfl) ?_; refine p_q _ rfl rfl rfl (fun _ _ => v_lf1 rfl Tryz.underlying157 rfl rfl rfl) ?_; refine p_q _ rfl rfl rfl (fun _ _ => v_nilCheck rfl rfl) ?_; refine p_q _ rfl rfl rfl (fun _ _ => v_fieldAddr rfl Tryz.underlying230 inf66 rfl rfl rfl rfl) ?_; refine p_q _ rfl rfl rfl (fun _ _ => v_fieldAddr rfl Tryz.underlying66 inf3 rfl rfl rfl rfl) ?_; refine p_q _ rfl rfl rfl (fun _ _ => v_lf1 rfl Tryz.underlying3 rfl rfl rfl) ?_; refine p_q _ rfl rfl rfl (fun _ _ => v_sub rfl rfl rfl (by omega)) ?_; refine p_q _ rfl rfl rfl (fun _ _ => v_fieldAddr rfl Tryz.underlying43 inf3 rfl rfl rfl rfl) ?_; refine p_q _ rfl rfl rfl (fun _ _ => v_ld1 rfl Tryz.underlying3 rfl rfl rfl) ?_; refine p_q _ rfl rfl rfl (fun _ _ => v_lf1 rfl Tryz.underlying157 rfl rfl rfl) ?_; refine p_q _ rfl rfl rfl (fun _ _ => v_nilCheck rfl rfl) ?_; refine p_q _ rfl rfl rfl (fun _ _ => v_fieldAddr rfl Tryz.underlying230 inf66 rfl rfl rfl rfl) ?_; refine p_q _ rfl rfl rfl (fun _ _ => v_fieldAddr rfl Tryz.underlying66 inf3 rfl rfl rfl rfl) ?_; refine p_q _ rfl rfl rfl (fun _ _ => v_lf1 rfl Tryz.underlying3 rfl rfl rfl) ?_; refine p_q _ rfl rfl rfl (fun _ _ => v_sub rfl rfl rfl (by omega)) ?_; refine p_q _ rfl rfl rfl (fun _ _ => v_bS rfl Tryz.underlying43 inf43 plt43 rfl rfl rfl (by repeat (first | exact trivial | refine ⟨rfl, ?_⟩)) (by rfl)) ?_; refine p_q _ rfl rfl rfl (fun _ _ => v_bS rfl Tryz.underlying291 inf291 plt291 rfl rfl rfl (by repeat (first | exact trivial | refine ⟨rfl, ?_⟩)) (by rfl)) ?_; refine p_nil2 (by simp only [List.nil_append, List.cons_append]; rfl) rfl ?_; refine f_q rfl ?_
        (iterate 23 refine f_q rfl ?_); refine f_nil ?_; refine oi_yields (Ri := [boxF c1 157 [pt bb 0], boxF c2 233 [u64 m, i64 s, .bool true], boxF bb 230 [.slice bo B.banks.length bc, i64 B.wlo, i64 B.whi, .slice ro B.rain.length rc, i64 B.drain, .slice so B.signs.length sc, .map (some mb)], rowD bo 4 encB B.banks, rowD ro 2 encS B.rain, rowD so 3 encG B.signs]) hY (hat).1 rfl rfl rfl (congrArg (fun x => [x]) (vN_mk (a' := 0) (b' := 0) (bR B d) (by show _ = ((5 + d + 1 : Nat) : Int); omega) (by show _ = ((5 + d : Nat) : Int); omega) rfl rfl)) rfl rfl rfl ?_ ?_
        all_goals
         refine oi_lift wideF rfl (fun _ _ h => by obtain ⟨⟨v, hv⟩, _⟩ := h; cases hv) ?_; refine o_q _ rfl rfl rfl (v_not rfl rfl) ?_; refine o_nil (r_then ?_); refine oi_nil ?_; refine r_then ?_; refine r_cond rfl (fun hc90 => ?_) (fun hc90 => ?_)
         ·
          first
          | (exfalso; revert hc90; decide)
          |
           skip
           refine r_ret ?_; (with_reducible refine r_in_ret ?_; refine r_then_ret ?_; refine r_then_ret ?_; refine r_in_ret ?_; refine r_then_ret ?_; refine r_sc_ret ?_); exact r_retseqxR (Rd.none rfl) ⟨hat.2, by omega⟩ SelMC.sel SubRC.sub
         ·
          first
          | (exfalso; revert hc90; decide)
          |
           skip
           refine r_skip ?_; refine r_in_normal ?_; refine r_then ?_; refine r_region ?_; refine o_q _ rfl rfl rfl (v_add rfl rfl rfl (by omega)) ?_; refine q_mv rfl rfl rfl rfl rfl ?_; refine o_nil (r_then ?_); refine r_next (d + 1) ?_ ?_ ?_
           ·
            rw [← len_r]; exact r_here (by repeat (first | exact FSub.nil | refine FSub.cons rfl ?_)) SelMC.sel SubRC.sub
           ·
            omega
           ·
            omega
       ·
        refine r_exit ?_; refine r_then_exit ?_; refine r_then_exit ?_; refine r_in_here ?_; refine r_then (r_seq ?_); refine r_label ?_; refine r_then (r_seq ?_); refine r_seq (r_region ?_); refine o_q _ rfl rfl rfl (v_lf1 rfl Tryz.underlying157 rfl rfl rfl) ?_; refine o_q _ rfl rfl rfl (v_nilCheck rfl rfl) ?_; refine o_q _ rfl rfl rfl (v_fieldAddr rfl Tryz.underlying230 inf66 rfl rfl rfl rfl) ?_; refine o_q _ rfl rfl rfl (v_fieldAddr rfl Tryz.underlying66 inf64 rfl rfl rfl rfl) ?_; refine o_q _ rfl rfl rfl (v_lf1 rfl Tryz.underlying64 rfl rfl rfl) ?_; refine o_q _ rfl rfl rfl (v_len rfl rfl Tryz.underlying64 rfl) ?_; refine q_mv rfl rfl rfl rfl rfl ?_; refine o_nil (r_then ?_); refine r_block ?_; refine r_loop (ι := Nat) (fun k => k ≤ B.signs.length) (fun k => [(0, .func (.yield l) #[] #[]), (1, pt c1 0), (2, pt c2 0), (97, i64 B.signs.length), (98, i64 k)]) (fun k => [J (ssTo B m k).length]) (fun k => [boxF c1 157 [pt bb 0], boxF c2 233 [u64 m, i64 s, .bool true], boxF bb 230 [.slice bo B.banks.length bc, i64 B.wlo, i64 B.whi, .slice ro B.rain.length rc, i64 B.drain, .slice so B.signs.length sc, .map (some mb)], rowD bo 4 encB B.banks, rowD ro 2 encS B.rain, rowD so 3 encG B.signs] ++ Rf) (fun k => B.signs.length - k) 0 ?_ ?_ ?_
        ·
         obtain rfl : d = B.rain.length := by omega
         rw [← ssTo_0 B m]; exact r_here (by repeat (first | exact FSub.nil | refine FSub.cons rfl ?_)) SelMC.sel SubRC.sub
        ·
         omega
        ·
         rintro k hI2; refine r_seq (r_region ?_); refine o_q _ rfl rfl rfl (v_lss rfl rfl rfl) ?_; refine o_nil (r_then (r_seq ?_)); refine r_condd rfl (fun hc99 => ?_) (fun hc99 => ?_)
         ·
          refine r_skip (r_then ?_); refine r_seq (r_block ?_); refine r_seq (r_region ?_); refine q_mv rfl rfl rfl rfl rfl ?_; refine q_as rfl rfl rfl rfl rfl ?_; refine o_nil (r_then (r_seq ?_)); refine r_seq (r_region ?_); refine o_q _ rfl rfl rfl (v_fieldAddr rfl Tryz.underlying233 inf116 rfl rfl rfl rfl) ?_; refine o_q _ rfl rfl rfl (v_lf1 rfl Tryz.underlying116 rfl rfl rfl) ?_; refine q_mv rfl rfl rfl rfl rfl ?_; refine o_q _ rfl rfl rfl (v_shrU rfl rfl rfl (by omega) (by omega)) ?_; refine o_q _ rfl rfl rfl (v_andU rfl rfl rfl (Nat.lt_of_le_of_lt (Nat.shiftRight_le _ _) (by omega)) (by decide)) ?_; refine o_q _ rfl rfl rfl (v_eql rfl rfl rfl) ?_; refine o_nil (r_then ?_); refine r_condd rfl (fun hc106 => ?_) (fun hc106 => ?_)
          ·
           refine r_exit ?_; refine r_then_exit ?_; refine r_in_here ?_; refine r_then ?_; refine r_region ?_; refine o_q _ rfl rfl rfl (v_add rfl rfl rfl (by omega)) ?_; refine q_mv rfl rfl rfl rfl rfl ?_; refine o_nil (r_then ?_); refine r_next (k + 1) ?_ ?_ ?_
           ·
            (rw [← len_sn B m (bit_eq (by assumption))]; exact r_here (by repeat (first | exact FSub.nil | refine FSub.cons rfl ?_)) SelMC.sel SubRC.sub)
           ·
            omega
           ·
            omega
          ·
           refine r_skip (r_then ?_); refine r_seq ?_; have htb : m.testBit k = true := bit_ne (by assumption); have hat := at_s B m s true (k := k) (by omega) htb; refine r_region_in ?_; refine oi_lift wideF rfl (fun _ _ h => by obtain ⟨⟨v, hv⟩, _⟩ := h; cases hv) ?_; refine q_mv rfl rfl rfl rfl rfl ?_; refine o_nil (r_then ?_); refine oi_lift wideF rfl (fun _ _ h => by obtain ⟨⟨v, hv⟩, _⟩ := h; cases hv) ?_; refine o_q _ rfl rfl rfl (v_lf1 rfl Tryz.underlying157 rfl rfl rfl) ?_; refine o_nil (r_then ?_); refine oi_lift wideF rfl (fun _ _ h => by obtain ⟨⟨v, hv⟩, _⟩ := h; cases hv) ?_; refine q_mv rfl rfl rfl rfl rfl ?_; refine o_nil (r_then ?_); refine oi_lift wideF rfl (fun _ _ h => by obtain ⟨⟨v, hv⟩, _⟩ := h; cases hv) ?_; refine o_q _ rfl rfl rfl (OpQ.fn (sign_v B bo ro so bc rc sc bb mb k (by omega)) rfl rfl SubRC.sub) ?_; refine o_nil (r_then ?_); refine oi_lift wideF rfl (fun _ _ h => by obtain ⟨⟨v, hv⟩, _⟩ := h; cases hv) ?_; refine o_q _ rfl rfl rfl (OpQ.invoke (signB_v B (B.signs.getD k default) (hg.signs k (by omega)) (by omega)) (signM (B.signs.getD k default)) rfl rfl rfl rfl SubRC.sub) ?_; refine o_nil (r_then ?_); refine oi_yields (Ri := [boxF c1 157 [pt bb 0], boxF c2 233 [u64 m, i64 s, .bool true], boxF bb 230 [.slice bo B.banks.length bc, i64 B.wlo, i64 B.whi, .slice ro B.rain.length rc, i64 B.drain, .slice so B.signs.length sc, .map (some mb)], rowD bo 4 encB B.banks, rowD ro 2 encS B.rain, rowD so 3 encG B.signs]) hY (hat).1 rfl rfl rfl rfl rfl rfl rfl ?_ ?_
           all_goals
            refine oi_lift wideF rfl (fun _ _ h => by obtain ⟨⟨v, hv⟩, _⟩ := h; cases hv) ?_; refine o_q _ rfl rfl rfl (v_not rfl rfl) ?_; refine o_nil (r_then ?_); refine oi_nil ?_; refine r_then ?_; refine r_cond rfl (fun hc113 => ?_) (fun hc113 => ?_)
            ·
             first
             | (exfalso; revert hc113; decide)
             |
              skip
              refine r_ret ?_; (with_reducible refine r_in_ret ?_; refine r_then_ret ?_; refine r_then_ret ?_; refine r_in_ret ?_; refine r_then_ret ?_; refine r_sc_ret ?_); exact r_retseqxR (Rd.none rfl) ⟨hat.2, by omega⟩ SelMC.sel SubRC.sub
            ·
             first
             | (exfalso; revert hc113; decide)
             |
              skip
              refine r_skip ?_; refine r_in_normal ?_; refine r_then ?_; refine r_region ?_; refine o_q _ rfl rfl rfl (v_add rfl rfl rfl (by omega)) ?_; refine q_mv rfl rfl rfl rfl rfl ?_; refine o_nil (r_then ?_); refine r_next (k + 1) ?_ ?_ ?_
              ·
               (rw [← len_s B m (by assumption)]; exact r_here (by repeat (first | exact FSub.nil | refine FSub.cons rfl ?_)) SelMC.sel SubRC.sub)
              ·
               omega
              ·
               omega
         ·
          refine r_exit ?_; refine r_then_exit ?_; refine r_then_exit ?_; refine r_in_here ?_; refine r_then (r_seq (r_region ?_)); refine o_q _ rfl rfl rfl (v_lf1 rfl Tryz.underlying157 rfl rfl rfl) ?_; refine o_q _ rfl rfl rfl (v_nilCheck rfl rfl) ?_; refine o_q _ rfl rfl rfl (v_fieldAddr rfl Tryz.underlying230 inf66 rfl rfl rfl rfl) ?_; refine o_q _ rfl rfl rfl (v_fieldAddr rfl Tryz.underlying66 inf63 rfl rfl rfl rfl) ?_; refine o_q _ rfl rfl rfl (v_lf1 rfl Tryz.underlying63 rfl rfl rfl) ?_; refine o_q _ rfl rfl rfl (v_len rfl rfl Tryz.underlying63 rfl) ?_; refine q_mv rfl rfl rfl rfl rfl ?_; refine o_nil (r_then ?_); refine r_block ?_; refine r_loop (ι := Nat) (fun i => i ≤ B.banks.length) (fun i => [(0, .func (.yield l) #[] #[]), (1, pt c1 0), (2, pt c2 0), (120, i64 B.banks.length), (121, i64 i)]) (fun i => [J (wsTo B m s true i).length]) (fun i => [boxF c1 157 [pt bb 0], boxF c2 233 [u64 m, i64 s, .bool true], boxF bb 230 [.slice bo B.banks.length bc, i64 B.wlo, i64 B.whi, .slice ro B.rain.length rc, i64 B.drain, .slice so B.signs.length sc, .map (some mb)], rowD bo 4 encB B.banks, rowD ro 2 encS B.rain, rowD so 3 encG B.signs] ++ Rf) (fun i => B.banks.length - i) 0 ?_ ?_ ?_
          ·
           obtain rfl : k = B.signs.length := by omega
           rw [← wsTo_0 B m s true]; exact r_here (by repeat (first | exact FSub.nil | refine FSub.cons rfl ?_)) SelMC.sel SubRC.sub
          ·
           omega
          ·
           rintro i hI3; refine r_seq (r_region ?_); refine o_q _ rfl rfl rfl (v_lss rfl rfl rfl) ?_; refine o_nil (r_then (r_seq ?_)); refine r_condd rfl (fun hc122 => ?_) (fun hc122 => ?_)
           ·
            refine r_skip (r_then ?_); refine r_seq (r_block ?_); refine r_seq (r_region ?_); refine q_mv rfl rfl rfl rfl rfl ?_; refine q_as rfl rfl rfl rfl rfl ?_; refine o_nil (r_then (r_seq ?_)); refine r_seq (r_region ?_); refine o_q _ rfl rfl rfl (v_lf1 rfl Tryz.underlying157 rfl rfl rfl) ?_; refine o_q _ rfl rfl rfl (v_nilCheck rfl rfl) ?_; refine o_q _ rfl rfl rfl (v_fieldAddr rfl Tryz.underlying230 inf66 rfl rfl rfl rfl) ?_; refine o_q _ rfl rfl rfl (v_fieldAddr rfl Tryz.underlying66 inf59 rfl rfl rfl rfl) ?_; refine o_q _ rfl rfl rfl (v_lf1 rfl Tryz.underlying59 rfl rfl rfl) ?_; refine o_q _ rfl rfl rfl (v_len rfl rfl Tryz.underlying59 rfl) ?_; refine q_mv rfl rfl rfl rfl rfl ?_; refine o_nil (r_then ?_); refine r_block ?_; refine r_loop (ι := Nat) (fun d => d ≤ B.rain.length) (fun d => [(0, .func (.yield l) #[] #[]), (1, pt c1 0), (2, pt c2 0), (9, i64 i), (120, i64 B.banks.length), (121, i64 i), (129, i64 B.rain.length), (130, i64 d)]) (fun d => [J (wdTo B m s true i d).length]) (fun d => [boxF c1 157 [pt bb 0], boxF c2 233 [u64 m, i64 s, .bool true], boxF bb 230 [.slice bo B.banks.length bc, i64 B.wlo, i64 B.whi, .slice ro B.rain.length rc, i64 B.drain, .slice so B.signs.length sc, .map (some mb)], rowD bo 4 encB B.banks, rowD ro 2 encS B.rain, rowD so 3 encG B.signs] ++ Rf) (fun d => B.rain.length - d) 0 ?_ ?_ ?_
            ·
             rw [← wdTo_0]; exact r_here (by repeat (first | exact FSub.nil | refine FSub.cons rfl ?_)) SelMC.sel SubRC.sub
            ·
             omega
            ·
             rintro d hI4; refine r_seq (r_region ?_); refine o_q _ rfl rfl rfl (v_lss rfl rfl rfl) ?_; refine o_nil (r_then (r_seq ?_)); refine r_condd rfl (fun hc131 => ?_) (fun hc131 => ?_)
             ·
              refine r_skip (r_then ?_); refine r_seq (r_block ?_); refine r_seq (r_region ?_); refine q_mv rfl rfl rfl rfl rfl ?_; refine q_as rfl rfl rfl rfl rfl ?_; refine o_nil (r_then (r_seq ?_)); have hat := fun hws => at_v B m s true (i := i) (d := d) (by omega) (by omega) hws
              refine r_region_in ?_; refine oi_lift wideF rfl (fun _ _ h => by obtain ⟨⟨v, hv⟩, _⟩ := h; cases hv) ?_; refine o_q _ rfl rfl rfl (v_fieldAddr rfl Tryz.underlying233 inf4 rfl rfl rfl rfl) ?_; refine o_nil (r_then ?_); refine oi_lift wideF rfl (fun _ _ h => by obtain ⟨⟨v, hv⟩, _⟩ := h; cases hv) ?_; refine o_q _ rfl rfl rfl (v_lf1 rfl Tryz.underlying4 rfl rfl rfl) ?_; refine o_nil (r_then ?_); refine oi_lift wideF rfl (fun _ _ h => by obtain ⟨⟨v, hv⟩, _⟩ := h; cases hv) ?_; refine q_mv rfl rfl rfl rfl rfl ?_; refine o_nil (r_then ?_); refine oi_lift wideF rfl (fun _ _ h => by obtain ⟨⟨v, hv⟩, _⟩ := h; cases hv) ?_; refine o_g _ rfl rfl rfl rfl (v_move rfl rfl) ?_; refine o_nil (r_then ?_); refine oi_lift wideF rfl (fun _ _ h => by obtain ⟨⟨v, hv⟩, _⟩ := h; cases hv) ?_; refine o_g _ rfl rfl rfl rfl (v_fieldAddr rfl Tryz.underlying233 inf3 rfl rfl rfl rfl) ?_; refine o_nil (r_then ?_); refine oi_lift wideF rfl (fun _ _ h => by obtain ⟨⟨v, hv⟩, _⟩ := h; cases hv) ?_; refine o_g _ rfl rfl rfl rfl (v_lf1 rfl Tryz.underlying3 rfl rfl rfl) ?_; refine o_nil (r_then ?_); refine oi_lift wideF rfl (fun _ _ h => by obtain ⟨⟨v, hv⟩, _⟩ := h; cases hv) ?_; refine o_gtest rfl rfl rfl rfl (v_leq rfl rfl rfl) (fun h139 => ?_) (fun h139 => ?_)
              all_goals
               refine o_nil (r_then ?_); refine oi_lift wideF rfl (fun _ _ h => by obtain ⟨⟨v, hv⟩, _⟩ := h; cases hv) ?_; refine o_q _ rfl rfl rfl (v_pick_t rfl rfl rfl) ?_; refine o_nil (r_then ?_); refine oi_lift wideF rfl (fun _ _ h => by obtain ⟨⟨v, hv⟩, _⟩ := h; cases hv) ?_; refine q_mv rfl rfl rfl rfl rfl ?_; refine o_nil (r_then ?_); refine oi_lift wideF rfl (fun _ _ h => by obtain ⟨⟨v, hv⟩, _⟩ := h; cases hv) ?_
               first | refine o_gn rfl rfl rfl rfl ?_ | refine o_g _ rfl rfl rfl rfl (v_move rfl rfl) ?_
               refine o_nil (r_then ?_); refine oi_lift wideF rfl (fun _ _ h => by obtain ⟨⟨v, hv⟩, _⟩ := h; cases hv) ?_
               first | refine o_gn rfl rfl rfl rfl ?_ | refine o_g _ rfl rfl rfl rfl (v_move rfl rfl) ?_
               refine o_nil (r_then ?_); refine oi_lift wideF rfl (fun _ _ h => by obtain ⟨⟨v, hv⟩, _⟩ := h; cases hv) ?_
               first | refine o_gn rfl rfl rfl rfl ?_ | refine o_g _ rfl rfl rfl rfl (v_add rfl rfl rfl (by omega)) ?_
               refine o_nil (r_then ?_); refine oi_lift wideF rfl (fun _ _ h => by obtain ⟨⟨v, hv⟩, _⟩ := h; cases hv) ?_
               first | refine o_gn rfl rfl rfl rfl ?_ | refine o_g _ rfl rfl rfl rfl (v_move rfl rfl) ?_
               refine o_nil (r_then ?_); refine oi_lift wideF rfl (fun _ _ h => by obtain ⟨⟨v, hv⟩, _⟩ := h; cases hv) ?_
               first | refine o_gn rfl rfl rfl rfl ?_ | refine o_g _ rfl rfl rfl rfl (v_add rfl rfl rfl (by omega)) ?_
               refine o_nil (r_then ?_); refine oi_lift wideF rfl (fun _ _ h => by obtain ⟨⟨v, hv⟩, _⟩ := h; cases hv) ?_
               first | refine o_gn rfl rfl rfl rfl ?_ | refine o_g _ rfl rfl rfl rfl (v_bS rfl Tryz.underlying43 inf43 plt43 rfl rfl rfl (by repeat (first | exact trivial | refine ⟨rfl, ?_⟩)) (by rfl)) ?_
               refine o_nil (r_then ?_); refine oi_lift wideF rfl (fun _ _ h => by obtain ⟨⟨v, hv⟩, _⟩ := h; cases hv) ?_
               first | refine o_gn rfl rfl rfl rfl ?_ | refine o_g _ rfl rfl rfl rfl (v_bS rfl Tryz.underlying291 inf291 plt291 rfl rfl rfl (by repeat (first | exact trivial | refine ⟨rfl, ?_⟩)) (by rfl)) ?_
               refine o_nil (r_then ?_)
               first | (refine oi_lift wideF rfl (fun _ _ h => by obtain ⟨⟨v, hv⟩, _⟩ := h; cases hv) ?_; refine o_gn rfl rfl rfl rfl ?_; refine o_nil ?_; refine r_then ?_) | refine oi_yieldsG (Ri := [boxF c1 157 [pt bb 0], boxF c2 233 [u64 m, i64 s, .bool true], boxF bb 230 [.slice bo B.banks.length bc, i64 B.wlo, i64 B.whi, .slice ro B.rain.length rc, i64 B.drain, .slice so B.signs.length sc, .map (some mb)], rowD bo 4 encB B.banks, rowD ro 2 encS B.rain, rowD so 3 encG B.signs]) hY (hat ⟨rfl, by assumption⟩).1 rfl rfl rfl (congrArg (fun x => [x]) (vN_mk (a' := 0) (b' := 0) (bV i d) (by show _ = ((1 + i : Nat) : Int); omega) (by show _ = ((5 + d : Nat) : Int); omega) rfl rfl)) rfl rfl rfl rfl ?_ ?_
               all_goals
                refine oi_lift wideF rfl (fun _ _ h => by obtain ⟨⟨v, hv⟩, _⟩ := h; cases hv) ?_
                first | refine o_gn rfl rfl rfl rfl ?_ | refine o_g _ rfl rfl rfl rfl (v_not rfl rfl) ?_
                refine o_nil (r_then ?_); refine oi_lift wideF rfl (fun _ _ h => by obtain ⟨⟨v, hv⟩, _⟩ := h; cases hv) ?_
                first | refine o_q _ rfl rfl rfl (v_pick_t rfl rfl rfl) ?_ | refine o_q _ rfl rfl rfl (v_pick_f rfl rfl rfl) ?_
                refine o_nil (r_then ?_); refine oi_nil ?_; refine r_then ?_; refine r_cond rfl (fun hc151 => ?_) (fun hc151 => ?_)
                ·
                 first
                 | (exfalso; revert hc151; decide)
                 |
                  skip
                  refine r_ret ?_; (with_reducible refine r_in_ret ?_; refine r_then_ret ?_; refine r_then_ret ?_; refine r_in_ret ?_; refine r_then_ret ?_; refine r_in_ret ?_; refine r_then_ret ?_; refine r_then_ret ?_; refine r_in_ret ?_; refine r_sc_ret ?_); exact r_retseqxR (Rd.none rfl) ⟨(hat ⟨rfl, by assumption⟩).2, by omega⟩ SelMC.sel SubRC.sub
                ·
                 first
                 | (exfalso; revert hc151; decide)
                 |
                  skip
                  refine r_skip ?_; refine r_in_normal ?_; refine r_then ?_; refine r_region ?_; refine o_q _ rfl rfl rfl (v_add rfl rfl rfl (by omega)) ?_; refine q_mv rfl rfl rfl rfl rfl ?_; refine o_nil (r_then ?_); refine r_next (d + 1) ?_ ?_ ?_
                  ·
                   first
                   | (rw [← len_v B m s true ⟨rfl, by assumption⟩]; exact r_here (by repeat (first | exact FSub.nil | refine FSub.cons rfl ?_)) SelMC.sel SubRC.sub)
                   | (rw [← len_vn B m s true (fun h => absurd h.2 (by assumption))]; exact r_here (by repeat (first | exact FSub.nil | refine FSub.cons rfl ?_)) SelMC.sel SubRC.sub)
                  ·
                   omega
                  ·
                   omega
             ·
              refine r_exit ?_; refine r_then_exit ?_; refine r_then_exit ?_; refine r_in_here ?_; refine r_then (r_seq (r_region ?_)); refine o_q _ rfl rfl rfl (v_lf1 rfl Tryz.underlying157 rfl rfl rfl) ?_; refine o_q _ rfl rfl rfl (v_nilCheck rfl rfl) ?_; refine o_q _ rfl rfl rfl (v_fieldAddr rfl Tryz.underlying230 inf66 rfl rfl rfl rfl) ?_; refine o_q _ rfl rfl rfl (v_fieldAddr rfl Tryz.underlying66 inf59 rfl rfl rfl rfl) ?_; refine o_q _ rfl rfl rfl (v_lf1 rfl Tryz.underlying59 rfl rfl rfl) ?_; refine o_q _ rfl rfl rfl (v_len rfl rfl Tryz.underlying59 rfl) ?_; refine q_as rfl rfl rfl rfl rfl ?_; refine o_nil (r_then (r_seq ?_)); obtain rfl : d = B.rain.length := by omega
              have hat := fun hws => at_v B m s true (i := i) (d := B.rain.length) (by omega) (by omega) hws
              refine r_region_in ?_; refine oi_lift wideF rfl (fun _ _ h => by obtain ⟨⟨v, hv⟩, _⟩ := h; cases hv) ?_; refine o_q _ rfl rfl rfl (v_fieldAddr rfl Tryz.underlying233 inf4 rfl rfl rfl rfl) ?_; refine o_nil (r_then ?_); refine oi_lift wideF rfl (fun _ _ h => by obtain ⟨⟨v, hv⟩, _⟩ := h; cases hv) ?_; refine o_q _ rfl rfl rfl (v_lf1 rfl Tryz.underlying4 rfl rfl rfl) ?_; refine o_nil (r_then ?_); refine oi_lift wideF rfl (fun _ _ h => by obtain ⟨⟨v, hv⟩, _⟩ := h; cases hv) ?_; refine q_mv rfl rfl rfl rfl rfl ?_; refine o_nil (r_then ?_); refine oi_lift wideF rfl (fun _ _ h => by obtain ⟨⟨v, hv⟩, _⟩ := h; cases hv) ?_; refine o_g _ rfl rfl rfl rfl (v_move rfl rfl) ?_; refine o_nil (r_then ?_); refine oi_lift wideF rfl (fun _ _ h => by obtain ⟨⟨v, hv⟩, _⟩ := h; cases hv) ?_; refine o_g _ rfl rfl rfl rfl (v_fieldAddr rfl Tryz.underlying233 inf3 rfl rfl rfl rfl) ?_; refine o_nil (r_then ?_); refine oi_lift wideF rfl (fun _ _ h => by obtain ⟨⟨v, hv⟩, _⟩ := h; cases hv) ?_; refine o_g _ rfl rfl rfl rfl (v_lf1 rfl Tryz.underlying3 rfl rfl rfl) ?_; refine o_nil (r_then ?_); refine oi_lift wideF rfl (fun _ _ h => by obtain ⟨⟨v, hv⟩, _⟩ := h; cases hv) ?_; refine o_gtest rfl rfl rfl rfl (v_leq rfl rfl rfl) (fun h165 => ?_) (fun h165 => ?_)
              all_goals
               refine o_nil (r_then ?_); refine oi_lift wideF rfl (fun _ _ h => by obtain ⟨⟨v, hv⟩, _⟩ := h; cases hv) ?_; refine o_q _ rfl rfl rfl (v_pick_t rfl rfl rfl) ?_; refine o_nil (r_then ?_); refine oi_lift wideF rfl (fun _ _ h => by obtain ⟨⟨v, hv⟩, _⟩ := h; cases hv) ?_; refine q_mv rfl rfl rfl rfl rfl ?_; refine o_nil (r_then ?_); refine oi_lift wideF rfl (fun _ _ h => by obtain ⟨⟨v, hv⟩, _⟩ := h; cases hv) ?_
               first | refine o_gn rfl rfl rfl rfl ?_ | refine o_g _ rfl rfl rfl rfl (v_move rfl rfl) ?_
               refine o_nil (r_then ?_); refine oi_lift wideF rfl (fun _ _ h => by obtain ⟨⟨v, hv⟩, _⟩ := h; cases hv) ?_
               first | refine o_gn rfl rfl rfl rfl ?_ | refine o_g _ rfl rfl rfl rfl (v_move rfl rfl) ?_
               refine o_nil (r_then ?_); refine oi_lift wideF rfl (fun _ _ h => by obtain ⟨⟨v, hv⟩, _⟩ := h; cases hv) ?_
               first | refine o_gn rfl rfl rfl rfl ?_ | refine o_g _ rfl rfl rfl rfl (v_add rfl rfl rfl (by omega)) ?_
               refine o_nil (r_then ?_); refine oi_lift wideF rfl (fun _ _ h => by obtain ⟨⟨v, hv⟩, _⟩ := h; cases hv) ?_
               first | refine o_gn rfl rfl rfl rfl ?_ | refine o_g _ rfl rfl rfl rfl (v_move rfl rfl) ?_
               refine o_nil (r_then ?_); refine oi_lift wideF rfl (fun _ _ h => by obtain ⟨⟨v, hv⟩, _⟩ := h; cases hv) ?_
               first | refine o_gn rfl rfl rfl rfl ?_ | refine o_g _ rfl rfl rfl rfl (v_add rfl rfl rfl (by omega)) ?_
               refine o_nil (r_then ?_); refine oi_lift wideF rfl (fun _ _ h => by obtain ⟨⟨v, hv⟩, _⟩ := h; cases hv) ?_
               first | refine o_gn rfl rfl rfl rfl ?_ | refine o_g _ rfl rfl rfl rfl (v_bS rfl Tryz.underlying43 inf43 plt43 rfl rfl rfl (by repeat (first | exact trivial | refine ⟨rfl, ?_⟩)) (by rfl)) ?_
               refine o_nil (r_then ?_); refine oi_lift wideF rfl (fun _ _ h => by obtain ⟨⟨v, hv⟩, _⟩ := h; cases hv) ?_
               first | refine o_gn rfl rfl rfl rfl ?_ | refine o_g _ rfl rfl rfl rfl (v_bS rfl Tryz.underlying291 inf291 plt291 rfl rfl rfl (by repeat (first | exact trivial | refine ⟨rfl, ?_⟩)) (by rfl)) ?_
               refine o_nil (r_then ?_)
               first | (refine oi_lift wideF rfl (fun _ _ h => by obtain ⟨⟨v, hv⟩, _⟩ := h; cases hv) ?_; refine o_gn rfl rfl rfl rfl ?_; refine o_nil ?_; refine r_then ?_) | refine oi_yieldsG (Ri := [boxF c1 157 [pt bb 0], boxF c2 233 [u64 m, i64 s, .bool true], boxF bb 230 [.slice bo B.banks.length bc, i64 B.wlo, i64 B.whi, .slice ro B.rain.length rc, i64 B.drain, .slice so B.signs.length sc, .map (some mb)], rowD bo 4 encB B.banks, rowD ro 2 encS B.rain, rowD so 3 encG B.signs]) hY (hat ⟨rfl, by assumption⟩).1 rfl rfl rfl (congrArg (fun x => [x]) (vN_mk (a' := 0) (b' := 0) (bV i B.rain.length) (by show _ = ((1 + i : Nat) : Int); omega) (by show _ = ((5 + B.rain.length : Nat) : Int); omega) rfl rfl)) rfl rfl rfl rfl ?_ ?_
               all_goals
                refine oi_lift wideF rfl (fun _ _ h => by obtain ⟨⟨v, hv⟩, _⟩ := h; cases hv) ?_
                first | refine o_gn rfl rfl rfl rfl ?_ | refine o_g _ rfl rfl rfl rfl (v_not rfl rfl) ?_
                refine o_nil (r_then ?_); refine oi_lift wideF rfl (fun _ _ h => by obtain ⟨⟨v, hv⟩, _⟩ := h; cases hv) ?_
                first | refine o_q _ rfl rfl rfl (v_pick_t rfl rfl rfl) ?_ | refine o_q _ rfl rfl rfl (v_pick_f rfl rfl rfl) ?_
                refine o_nil (r_then ?_); refine oi_nil ?_; refine r_then ?_; refine r_cond rfl (fun hc177 => ?_) (fun hc177 => ?_)
                ·
                 first
                 | (exfalso; revert hc177; decide)
                 |
                  skip
                  refine r_ret ?_; (with_reducible refine r_in_ret ?_; refine r_then_ret ?_; refine r_then_ret ?_; refine r_in_ret ?_; refine r_sc_ret ?_); exact r_retseqxR (Rd.none rfl) ⟨(hat ⟨rfl, by assumption⟩).2, by omega⟩ SelMC.sel SubRC.sub
                ·
                 first
                 | (exfalso; revert hc177; decide)
                 |
                  skip
                  refine r_skip ?_; refine r_in_normal ?_; refine r_then ?_; refine r_region ?_; refine o_q _ rfl rfl rfl (v_add rfl rfl rfl (by omega)) ?_; refine q_mv rfl rfl rfl rfl rfl ?_; refine o_nil (r_then ?_); refine r_next (i + 1) ?_ ?_ ?_
                  ·
                   rw [← wdTo_all]
                   first
                   | (rw [← len_v B m s true ⟨rfl, by assumption⟩]; exact r_here (by repeat (first | exact FSub.nil | refine FSub.cons rfl ?_)) SelMC.sel SubRC.sub)
                   | (rw [← len_vn B m s true (fun h => absurd h.2 (by assumption))]; exact r_here (by repeat (first | exact FSub.nil | refine FSub.cons rfl ?_)) SelMC.sel SubRC.sub)
                  ·
                   omega
                  ·
                   omega
           ·
            refine r_exit ?_; refine r_then_exit ?_; refine r_then_exit ?_; refine r_in_here ?_; refine r_sc_normal ?_; obtain rfl : i = B.banks.length := by omega
            exact r_retseq2 (wsTo B m s true B.banks.length).length rfl (Rd.none rfl) SelMC.sel SubRC.sub
set_option maxHeartbeats 4000000 in
theorem bounds1_false (m : Nat) (s : Int) (c1 c2 : Nat) (hg : GoodB B) (hm : m < 2 ^ 62) : IsSeq Tryz.prog 195 [pt c1 0, pt c2 0] [boxF c1 157 [pt bb 0], boxF c2 233 [u64 m, i64 s, .bool false], boxF bb 230 [.slice bo B.banks.length bc, i64 B.wlo, i64 B.whi, .slice ro B.rain.length rc, i64 B.drain, .slice so B.signs.length sc, .map (some mb)], rowD bo 4 encB B.banks, rowD ro 2 encS B.rain, rowD so 3 encG B.signs] (fun x => [vN x]) (boundsL B m s false) := by
 refine IsSeq.intro Tryz.call195 Tryz.func195 rfl Tryz.ntmps195 rfl ?_; intro l J Jx W Rf hY; refine r_scope ?_; refine r_seq ?_; refine r_seq ?_; have hgb := hg.nb; have hgr := hg.nr; have hgs := hg.ns; have hgd := hg.dr; have hw := at_w B m s false; refine r_region_in ?_; refine oi_lift wideF rfl (fun _ _ h => by obtain ⟨⟨v, hv⟩, _⟩ := h; cases hv) ?_; refine q_mv rfl rfl rfl rfl rfl ?_; refine o_nil (r_then ?_); refine oi_lift wideF rfl (fun _ _ h => by obtain ⟨⟨v, hv⟩, _⟩ := h; cases hv) ?_; refine o_q _ rfl rfl rfl (v_lf1 rfl Tryz.underlying157 rfl rfl rfl) ?_; refine o_nil (r_then ?_); refine oi_lift wideF rfl (fun _ _ h => by obtain ⟨⟨v, hv⟩, _⟩ := h; cases hv) ?_; refine o_q _ rfl rfl rfl (v_nilCheck rfl rfl) ?_; refine o_nil (r_then ?_); refine oi_lift wideF rfl (fun _ _ h => by obtain ⟨⟨v, hv⟩, _⟩ := h; cases hv) ?_; refine o_q _ rfl rfl rfl (v_fieldAddr rfl Tryz.underlying230 inf66 rfl rfl rfl rfl) ?_; refine o_nil (r_then ?_); refine oi_lift wideF rfl (fun _ _ h => by obtain ⟨⟨v, hv⟩, _⟩ := h; cases hv) ?_; refine o_q _ rfl rfl rfl (v_fieldAddr rfl Tryz.underlying66 inf43 rfl rfl rfl rfl) ?_; refine o_nil (r_then ?_); refine oi_lift wideF rfl (fun _ _ h => by obtain ⟨⟨v, hv⟩, _⟩ := h; cases hv) ?_; refine o_q _ rfl rfl rfl (v_lfN rfl Tryz.underlying43 rfl inf43 rfl rfl rfl) ?_; refine o_nil (r_then ?_); refine oi_lift wideF rfl (fun _ _ h => by obtain ⟨⟨v, hv⟩, _⟩ := h; cases hv) ?_; refine o_q _ rfl rfl rfl (v_bS rfl Tryz.underlying291 inf291 plt291 rfl rfl rfl (by repeat (first | exact trivial | refine ⟨rfl, ?_⟩)) (by rfl)) ?_; refine o_nil (r_then ?_); refine oi_yields (Ri := [boxF c1 157 [pt bb 0], boxF c2 233 [u64 m, i64 s, .bool false], boxF bb 230 [.slice bo B.banks.length bc, i64 B.wlo, i64 B.whi, .slice ro B.rain.length rc, i64 B.drain, .slice so B.signs.length sc, .map (some mb)], rowD bo 4 encB B.banks, rowD ro 2 encS B.rain, rowD so 3 encG B.signs]) hY (hw).1 rfl rfl rfl (congrArg (fun x => [x]) (vN_mk (a' := 0) (b' := 0) (bW B) (by show _ = ((5 : Nat) : Int); omega) (by show _ = ((0 : Nat) : Int); omega) rfl rfl)) rfl rfl rfl ?_ ?_
 all_goals
  refine oi_lift wideF rfl (fun _ _ h => by obtain ⟨⟨v, hv⟩, _⟩ := h; cases hv) ?_; refine o_q _ rfl rfl rfl (v_not rfl rfl) ?_; refine o_nil (r_then ?_); refine oi_nil ?_; refine r_then ?_; refine r_cond rfl (fun hc20 => ?_) (fun hc20 => ?_)
  ·
   first
   | (exfalso; revert hc20; decide)
   |
    skip
    refine r_ret ?_; (with_reducible refine r_then_ret ?_; refine r_sc_ret ?_); exact r_retseqxR (Rd.none rfl) ⟨hw.2, by omega⟩ SelMC.sel SubRC.sub
  ·
   first
   | (exfalso; revert hc20; decide)
   |
    skip
    refine r_skip (r_then ?_); refine r_seq ?_; refine r_seq (r_region ?_); refine o_q _ rfl rfl rfl (v_lf1 rfl Tryz.underlying157 rfl rfl rfl) ?_; refine o_q _ rfl rfl rfl (v_nilCheck rfl rfl) ?_; refine o_q _ rfl rfl rfl (v_fieldAddr rfl Tryz.underlying230 inf66 rfl rfl rfl rfl) ?_; refine o_q _ rfl rfl rfl (v_fieldAddr rfl Tryz.underlying66 inf63 rfl rfl rfl rfl) ?_; refine o_q _ rfl rfl rfl (v_lf1 rfl Tryz.underlying63 rfl rfl rfl) ?_; refine o_q _ rfl rfl rfl (v_len rfl rfl Tryz.underlying63 rfl) ?_; refine q_mv rfl rfl rfl rfl rfl ?_; refine o_nil (r_then ?_); refine r_block ?_; refine r_loop (ι := Nat) (fun i => i ≤ B.banks.length) (fun i => [(0, .func (.yield l) #[] #[]), (1, pt c1 0), (2, pt c2 0), (25, .slice bo B.banks.length bc), (26, i64 B.banks.length), (27, i64 i)]) (fun i => [J (bsTo B i).length]) (fun i => [boxF c1 157 [pt bb 0], boxF c2 233 [u64 m, i64 s, .bool false], boxF bb 230 [.slice bo B.banks.length bc, i64 B.wlo, i64 B.whi, .slice ro B.rain.length rc, i64 B.drain, .slice so B.signs.length sc, .map (some mb)], rowD bo 4 encB B.banks, rowD ro 2 encS B.rain, rowD so 3 encG B.signs] ++ Rf) (fun i => B.banks.length - i) 0 ?_ ?_ ?_
    ·
     show Imp _ _ _ _ [J (bsTo B 0).length] _ _; exact r_here (by repeat (first | exact FSub.nil | refine FSub.cons rfl ?_)) SelMC.sel SubRC.sub
    ·
     omega
    ·
     rintro i hI0; refine r_seq (r_region ?_); refine o_q _ rfl rfl rfl (v_lss rfl rfl rfl) ?_; refine o_nil (r_then (r_seq ?_)); refine r_condd rfl (fun hc28 => ?_) (fun hc28 => ?_)
     ·
      refine r_skip (r_then ?_); refine r_seq (r_block ?_); refine r_seq (r_region ?_); refine q_mv rfl rfl rfl rfl rfl ?_; refine o_q _ rfl rfl rfl (v_indexAddrSn rfl Tryz.underlying63 inf75 rfl rfl rfl (by omega) rfl) ?_; refine o_q _ rfl rfl rfl (v_loadEN rfl Tryz.underlying75 rfl inf75 rfl (by omega) rfl rfl rfl) ?_; refine o_alloc rfl inf75 rfl rfl rfl rfl rfl (fun b5 => ?_); refine q_as rfl rfl rfl rfl rfl ?_; refine o_st rfl inf75 rfl rfl rfl rfl rfl rfl rfl rfl ?_; refine o_nil (r_then (r_seq ?_)); have hbk := hg.banks i (by omega); unfold BankOk at hbk; refine Imp.box_to b5 [i64 (B.banks.getD i default).blo, i64 (B.banks.getD i default).bhi, i64 (B.banks.getD i default).clo, i64 (B.banks.getD i default).chi] rfl ?_; have hat := at_b B m s false (i := i) (by omega); refine r_region_in ?_; refine oi_lift wideF rfl (fun _ _ h => by obtain ⟨⟨v, hv⟩, _⟩ := h; cases hv) ?_; refine q_mv rfl rfl rfl rfl rfl ?_; refine o_nil (r_then ?_); refine oi_lift wideF rfl (fun _ _ h => by obtain ⟨⟨v, hv⟩, _⟩ := h; cases hv) ?_; refine q_mv rfl rfl rfl rfl rfl ?_; refine o_nil (r_then ?_); refine oi_lift wideF rfl (fun _ _ h => by obtain ⟨⟨v, hv⟩, _⟩ := h; cases hv) ?_; refine o_q _ rfl rfl rfl (v_add rfl rfl rfl (by omega)) ?_; refine o_nil (r_then ?_); refine oi_lift wideF rfl (fun _ _ h => by obtain ⟨⟨v, hv⟩, _⟩ := h; cases hv) ?_; refine o_q _ rfl rfl rfl (v_fieldAddr rfl Tryz.underlying75 inf43 rfl rfl rfl rfl) ?_; refine o_nil (r_then ?_); refine oi_lift wideF rfl (fun _ _ h => by obtain ⟨⟨v, hv⟩, _⟩ := h; cases hv) ?_; refine o_q _ rfl rfl rfl (v_fieldAddr rfl Tryz.underlying43 inf3 rfl rfl rfl rfl) ?_; refine o_nil (r_then ?_); refine oi_lift wideF rfl (fun _ _ h => by obtain ⟨⟨v, hv⟩, _⟩ := h; cases hv) ?_; refine o_q _ rfl rfl rfl (v_ld1 rfl Tryz.underlying3 rfl rfl rfl) ?_; refine o_nil (r_then ?_); refine oi_lift wideF rfl (fun _ _ h => by obtain ⟨⟨v, hv⟩, _⟩ := h; cases hv) ?_; refine o_q _ rfl rfl rfl (v_fieldAddr rfl Tryz.underlying75 inf43 rfl rfl rfl rfl) ?_; refine o_nil (r_then ?_); refine oi_lift wideF rfl (fun _ _ h => by obtain ⟨⟨v, hv⟩, _⟩ := h; cases hv) ?_; refine o_q _ rfl rfl rfl (v_fieldAddr rfl Tryz.underlying43 inf3 rfl rfl rfl rfl) ?_; refine o_nil (r_then ?_); refine oi_lift wideF rfl (fun _ _ h => by obtain ⟨⟨v, hv⟩, _⟩ := h; cases hv) ?_; refine o_q _ rfl rfl rfl (v_ld1 rfl Tryz.underlying3 rfl rfl rfl) ?_; refine o_nil (r_then ?_); refine oi_lift wideF rfl (fun _ _ h => by obtain ⟨⟨v, hv⟩, _⟩ := h; cases hv) ?_; refine o_q _ rfl rfl rfl (v_sub rfl rfl rfl (by omega)) ?_; refine o_nil (r_then ?_); refine oi_lift wideF rfl (fun _ _ h => by obtain ⟨⟨v, hv⟩, _⟩ := h; cases hv) ?_; refine o_q _ rfl rfl rfl (v_fieldAddr rfl Tryz.underlying75 inf43 rfl rfl rfl rfl) ?_; refine o_nil (r_then ?_)
      refine oi_lift wideF rfl (fun _ _ h => by obtain ⟨⟨v, hv⟩, _⟩ := h; cases hv) ?_; refine o_q _ rfl rfl rfl (v_fieldAddr rfl Tryz.underlying43 inf3 rfl rfl rfl rfl) ?_; refine o_nil (r_then ?_); refine oi_lift wideF rfl (fun _ _ h => by obtain ⟨⟨v, hv⟩, _⟩ := h; cases hv) ?_; refine o_q _ rfl rfl rfl (v_ld1 rfl Tryz.underlying3 rfl rfl rfl) ?_; refine o_nil (r_then ?_); refine oi_lift wideF rfl (fun _ _ h => by obtain ⟨⟨v, hv⟩, _⟩ := h; cases hv) ?_; refine o_q _ rfl rfl rfl (v_fieldAddr rfl Tryz.underlying75 inf43 rfl rfl rfl rfl) ?_; refine o_nil (r_then ?_); refine oi_lift wideF rfl (fun _ _ h => by obtain ⟨⟨v, hv⟩, _⟩ := h; cases hv) ?_; refine o_q _ rfl rfl rfl (v_fieldAddr rfl Tryz.underlying43 inf3 rfl rfl rfl rfl) ?_; refine o_nil (r_then ?_); refine oi_lift wideF rfl (fun _ _ h => by obtain ⟨⟨v, hv⟩, _⟩ := h; cases hv) ?_; refine o_q _ rfl rfl rfl (v_ld1 rfl Tryz.underlying3 rfl rfl rfl) ?_; refine o_nil (r_then ?_); refine oi_lift wideF rfl (fun _ _ h => by obtain ⟨⟨v, hv⟩, _⟩ := h; cases hv) ?_; refine o_q _ rfl rfl rfl (v_sub rfl rfl rfl (by omega)) ?_; refine o_nil (r_then ?_); refine oi_lift wideF rfl (fun _ _ h => by obtain ⟨⟨v, hv⟩, _⟩ := h; cases hv) ?_; refine o_q _ rfl rfl rfl (v_bS rfl Tryz.underlying43 inf43 plt43 rfl rfl rfl (by repeat (first | exact trivial | refine ⟨rfl, ?_⟩)) (by rfl)) ?_; refine o_nil (r_then ?_); refine oi_lift wideF rfl (fun _ _ h => by obtain ⟨⟨v, hv⟩, _⟩ := h; cases hv) ?_; refine o_q _ rfl rfl rfl (v_bS rfl Tryz.underlying291 inf291 plt291 rfl rfl rfl (by repeat (first | exact trivial | refine ⟨rfl, ?_⟩)) (by rfl)) ?_; refine o_nil (r_then ?_); refine oi_yields (Ri := [boxF c1 157 [pt bb 0], boxF c2 233 [u64 m, i64 s, .bool false], boxF bb 230 [.slice bo B.banks.length bc, i64 B.wlo, i64 B.whi, .slice ro B.rain.length rc, i64 B.drain, .slice so B.signs.length sc, .map (some mb)], rowD bo 4 encB B.banks, rowD ro 2 encS B.rain, rowD so 3 encG B.signs]) hY (hat).1 rfl rfl rfl (congrArg (fun x => [x]) (vN_mk (a' := 0) (b' := 0) (bB B i) (by show _ = ((1 + i : Nat) : Int); omega) (by show _ = ((0 : Nat) : Int); omega) rfl rfl)) rfl rfl rfl ?_ ?_
      all_goals
       refine oi_lift wideF rfl (fun _ _ h => by obtain ⟨⟨v, hv⟩, _⟩ := h; cases hv) ?_; refine o_q _ rfl rfl rfl (v_not rfl rfl) ?_; refine o_nil (r_then ?_); refine oi_nil ?_; refine r_then ?_; refine r_cond rfl (fun hc52 => ?_) (fun hc52 => ?_)
       ·
        first
        | (exfalso; revert hc52; decide)
        |
         skip
         refine r_ret ?_; (with_reducible refine r_in_ret ?_; refine r_then_ret ?_; refine r_then_ret ?_; refine r_in_ret ?_; refine r_then_ret ?_; refine r_sc_ret ?_); exact r_retseqxR (Rd.none rfl) ⟨hat.2, by omega⟩ SelMC.sel SubRC.sub
       ·
        first
        | (exfalso; revert hc52; decide)
        |
         skip
         refine r_skip ?_; refine r_in_normal ?_; refine r_then ?_; refine r_region ?_; refine o_q _ rfl rfl rfl (v_add rfl rfl rfl (by omega)) ?_; refine q_mv rfl rfl rfl rfl rfl ?_; refine o_nil (r_then ?_); refine r_next (i + 1) ?_ ?_ ?_
         ·
          rw [← len_b]; exact r_here (by repeat (first | exact FSub.nil | refine FSub.cons rfl ?_)) SelMC.sel SubRC.sub
         ·
          omega
         ·
          omega
     ·
      refine r_exit ?_; refine r_then_exit ?_; refine r_then_exit ?_; refine r_in_here ?_; refine r_then (r_seq ?_); refine r_seq (r_region ?_); refine o_q _ rfl rfl rfl (v_lf1 rfl Tryz.underlying157 rfl rfl rfl) ?_; refine o_q _ rfl rfl rfl (v_nilCheck rfl rfl) ?_; refine o_q _ rfl rfl rfl (v_fieldAddr rfl Tryz.underlying230 inf66 rfl rfl rfl rfl) ?_; refine o_q _ rfl rfl rfl (v_fieldAddr rfl Tryz.underlying66 inf59 rfl rfl rfl rfl) ?_; refine o_q _ rfl rfl rfl (v_lf1 rfl Tryz.underlying59 rfl rfl rfl) ?_; refine o_q _ rfl rfl rfl (v_len rfl rfl Tryz.underlying59 rfl) ?_; refine q_mv rfl rfl rfl rfl rfl ?_; refine o_nil (r_then ?_); refine r_block ?_; refine r_loop (ι := Nat) (fun d => d ≤ B.rain.length) (fun d => [(0, .func (.yield l) #[] #[]), (1, pt c1 0), (2, pt c2 0), (58, .slice ro B.rain.length rc), (59, i64 B.rain.length), (60, i64 d)]) (fun d => [J (rsTo B d).length]) (fun d => [boxF c1 157 [pt bb 0], boxF c2 233 [u64 m, i64 s, .bool false], boxF bb 230 [.slice bo B.banks.length bc, i64 B.wlo, i64 B.whi, .slice ro B.rain.length rc, i64 B.drain, .slice so B.signs.length sc, .map (some mb)], rowD bo 4 encB B.banks, rowD ro 2 encS B.rain, rowD so 3 encG B.signs] ++ Rf) (fun d => B.rain.length - d) 0 ?_ ?_ ?_
      ·
       obtain rfl : i = B.banks.length := by omega
       rw [← rsTo_0]; exact r_here (by repeat (first | exact FSub.nil | refine FSub.cons rfl ?_)) SelMC.sel SubRC.sub
      ·
       omega
      ·
       rintro d hI1; refine r_seq (r_region ?_); refine o_q _ rfl rfl rfl (v_lss rfl rfl rfl) ?_; refine o_nil (r_then (r_seq ?_)); refine r_condd rfl (fun hc61 => ?_) (fun hc61 => ?_)
       ·
        refine r_skip (r_then ?_); refine r_seq (r_block ?_); refine r_seq (r_region ?_); refine q_mv rfl rfl rfl rfl rfl ?_; refine o_q _ rfl rfl rfl (v_indexAddrSn rfl Tryz.underlying59 inf43 rfl rfl rfl (by omega) rfl) ?_; refine o_q _ rfl rfl rfl (v_loadEN rfl Tryz.underlying43 rfl inf43 rfl (by omega) rfl rfl rfl) ?_; refine o_alloc rfl inf43 rfl rfl rfl rfl rfl (fun b7 => ?_); refine q_as rfl rfl rfl rfl rfl ?_; refine o_st rfl inf43 rfl rfl rfl rfl rfl rfl rfl rfl ?_; refine o_nil (r_then (r_seq ?_)); have hrn := hg.rain d (by omega); unfold RainOk at hrn; refine Imp.box_to b7 [i64 (B.rain.getD d default).lo, i64 (B.rain.getD d default).hi] rfl ?_; have hat := at_r B m s false (d := d) (by omega); refine r_par_in' 24 mixed (by kernel_rfl) (by rfl) (by kernel_rfl) ?_; refine p_q _ rfl rfl rfl (fun _ _ => v_move rfl rfl) ?_; refine p_q _ rfl rfl rfl (fun _ _ => v_move rfl rfl) ?_; refine p_q _ rfl rfl rfl (fun _ _ => v_add rfl rfl rfl (by omega)) ?_; refine p_q _ rfl rfl rfl (fun _ _ => v_add rfl rfl rfl (by omega)) ?_; refine p_q _ rfl rfl rfl (fun _ _ => v_move rfl rfl) ?_; refine p_q _ rfl rfl rfl (fun _ _ => v_add rfl rfl rfl (by omega)) ?_; refine p_q _ rfl rfl rfl (fun _ _ => v_fieldAddr rfl Tryz.underlying43 inf3 rfl rfl rfl rfl) ?_; refine p_q _ rfl rfl rfl (fun _ _ => v_ld1 rfl Tryz.underlying3 rfl rfl rfl) ?_; refine p_q _ rfl rfl rfl (fun _ _ => v_lf1 rfl Tryz.underlying157 rfl rfl rfl) ?_; refine p_q _ rfl rfl rfl (fun _ _ => v_nilCheck rfl rfl) ?_; refine p_q _ rfl rfl rfl (fun _ _ => v_fieldAddr rfl Tryz.underlying230 inf66 rfl rfl rfl rfl) ?_; refine p_q _ rfl rfl rfl (fun _ _ => v_fieldAddr rfl Tryz.underlying66 inf3 rfl rfl rfl rfl) ?_; refine p_q _ rfl rfl rfl (fun _ _ => v_lf1 rfl Tryz.underlying3 rfl rfl rfl) ?_; refine p_q _ rfl rfl rfl (fun _ _ => v_sub rfl rfl rfl (by omega)) ?_; refine p_q _ rfl rfl rfl (fun _ _ => v_fieldAddr rfl Tryz.underlying43 inf3 rfl rfl rfl rfl) ?_; refine p_q _ rfl rfl rfl (fun _ _ => v_ld1 rfl Tryz.underlying3 rfl rfl rfl) ?_; refine p_q _ rfl rfl rfl (fun _ _ => v_lf1 rfl Tryz.underlying157 rfl rfl rfl) ?_; refine p_q _ rfl rfl rfl (fun _ _ => v_nilCheck rfl rfl) ?_; refine p_q _ rfl rfl rfl (fun _ _ => v_fieldAddr rfl Tryz.underlying230 inf66 rfl rfl rfl rfl) ?_; refine p_q _ rfl rfl rfl (fun _ _ => v_fieldAddr rfl Tryz.underlying66 inf3 rfl rfl rfl rfl) ?_; refine p_q _ rfl rfl rfl (fun _ _ => v_lf1 rfl Tryz.underlying3 rfl rfl rfl) ?_; refine p_q _ rfl rfl rfl (fun _ _ => v_sub rfl rfl rfl (by omega)) ?_; refine p_q _ rfl rfl rfl (fun _ _ => v_bS rfl Tryz.underlying43 inf43 plt43 rfl rfl rfl (by repeat (first | exact trivial | refine ⟨rfl, ?_⟩)) (by rfl)) ?_; refine p_q _ rfl rfl rfl (fun _ _ => v_bS rfl Tryz.underlying291 inf291 plt291 rfl rfl rfl (by repeat (first | exact trivial | refine ⟨rfl, ?_⟩)) (by rfl)) ?_; refine p_nil2 (by simp only [List.nil_append, List.cons_append]; rfl) rfl ?_; refine f_q rfl ?_
        (iterate 23 refine f_q rfl ?_); refine f_nil ?_; refine oi_yields (Ri := [boxF c1 157 [pt bb 0], boxF c2 233 [u64 m, i64 s, .bool false], boxF bb 230 [.slice bo B.banks.length bc, i64 B.wlo, i64 B.whi, .slice ro B.rain.length rc, i64 B.drain, .slice so B.signs.length sc, .map (some mb)], rowD bo 4 encB B.banks, rowD ro 2 encS B.rain, rowD so 3 encG B.signs]) hY (hat).1 rfl rfl rfl (congrArg (fun x => [x]) (vN_mk (a' := 0) (b' := 0) (bR B d) (by show _ = ((5 + d + 1 : Nat) : Int); omega) (by show _ = ((5 + d : Nat) : Int); omega) rfl rfl)) rfl rfl rfl ?_ ?_
        all_goals
         refine oi_lift wideF rfl (fun _ _ h => by obtain ⟨⟨v, hv⟩, _⟩ := h; cases hv) ?_; refine o_q _ rfl rfl rfl (v_not rfl rfl) ?_; refine o_nil (r_then ?_); refine oi_nil ?_; refine r_then ?_; refine r_cond rfl (fun hc90 => ?_) (fun hc90 => ?_)
         ·
          first
          | (exfalso; revert hc90; decide)
          |
           skip
           refine r_ret ?_; (with_reducible refine r_in_ret ?_; refine r_then_ret ?_; refine r_then_ret ?_; refine r_in_ret ?_; refine r_then_ret ?_; refine r_sc_ret ?_); exact r_retseqxR (Rd.none rfl) ⟨hat.2, by omega⟩ SelMC.sel SubRC.sub
         ·
          first
          | (exfalso; revert hc90; decide)
          |
           skip
           refine r_skip ?_; refine r_in_normal ?_; refine r_then ?_; refine r_region ?_; refine o_q _ rfl rfl rfl (v_add rfl rfl rfl (by omega)) ?_; refine q_mv rfl rfl rfl rfl rfl ?_; refine o_nil (r_then ?_); refine r_next (d + 1) ?_ ?_ ?_
           ·
            rw [← len_r]; exact r_here (by repeat (first | exact FSub.nil | refine FSub.cons rfl ?_)) SelMC.sel SubRC.sub
           ·
            omega
           ·
            omega
       ·
        refine r_exit ?_; refine r_then_exit ?_; refine r_then_exit ?_; refine r_in_here ?_; refine r_then (r_seq ?_); refine r_label ?_; refine r_then (r_seq ?_); refine r_seq (r_region ?_); refine o_q _ rfl rfl rfl (v_lf1 rfl Tryz.underlying157 rfl rfl rfl) ?_; refine o_q _ rfl rfl rfl (v_nilCheck rfl rfl) ?_; refine o_q _ rfl rfl rfl (v_fieldAddr rfl Tryz.underlying230 inf66 rfl rfl rfl rfl) ?_; refine o_q _ rfl rfl rfl (v_fieldAddr rfl Tryz.underlying66 inf64 rfl rfl rfl rfl) ?_; refine o_q _ rfl rfl rfl (v_lf1 rfl Tryz.underlying64 rfl rfl rfl) ?_; refine o_q _ rfl rfl rfl (v_len rfl rfl Tryz.underlying64 rfl) ?_; refine q_mv rfl rfl rfl rfl rfl ?_; refine o_nil (r_then ?_); refine r_block ?_; refine r_loop (ι := Nat) (fun k => k ≤ B.signs.length) (fun k => [(0, .func (.yield l) #[] #[]), (1, pt c1 0), (2, pt c2 0), (97, i64 B.signs.length), (98, i64 k)]) (fun k => [J (ssTo B m k).length]) (fun k => [boxF c1 157 [pt bb 0], boxF c2 233 [u64 m, i64 s, .bool false], boxF bb 230 [.slice bo B.banks.length bc, i64 B.wlo, i64 B.whi, .slice ro B.rain.length rc, i64 B.drain, .slice so B.signs.length sc, .map (some mb)], rowD bo 4 encB B.banks, rowD ro 2 encS B.rain, rowD so 3 encG B.signs] ++ Rf) (fun k => B.signs.length - k) 0 ?_ ?_ ?_
        ·
         obtain rfl : d = B.rain.length := by omega
         rw [← ssTo_0 B m]; exact r_here (by repeat (first | exact FSub.nil | refine FSub.cons rfl ?_)) SelMC.sel SubRC.sub
        ·
         omega
        ·
         rintro k hI2; refine r_seq (r_region ?_); refine o_q _ rfl rfl rfl (v_lss rfl rfl rfl) ?_; refine o_nil (r_then (r_seq ?_)); refine r_condd rfl (fun hc99 => ?_) (fun hc99 => ?_)
         ·
          refine r_skip (r_then ?_); refine r_seq (r_block ?_); refine r_seq (r_region ?_); refine q_mv rfl rfl rfl rfl rfl ?_; refine q_as rfl rfl rfl rfl rfl ?_; refine o_nil (r_then (r_seq ?_)); refine r_seq (r_region ?_); refine o_q _ rfl rfl rfl (v_fieldAddr rfl Tryz.underlying233 inf116 rfl rfl rfl rfl) ?_; refine o_q _ rfl rfl rfl (v_lf1 rfl Tryz.underlying116 rfl rfl rfl) ?_; refine q_mv rfl rfl rfl rfl rfl ?_; refine o_q _ rfl rfl rfl (v_shrU rfl rfl rfl (by omega) (by omega)) ?_; refine o_q _ rfl rfl rfl (v_andU rfl rfl rfl (Nat.lt_of_le_of_lt (Nat.shiftRight_le _ _) (by omega)) (by decide)) ?_; refine o_q _ rfl rfl rfl (v_eql rfl rfl rfl) ?_; refine o_nil (r_then ?_); refine r_condd rfl (fun hc106 => ?_) (fun hc106 => ?_)
          ·
           refine r_exit ?_; refine r_then_exit ?_; refine r_in_here ?_; refine r_then ?_; refine r_region ?_; refine o_q _ rfl rfl rfl (v_add rfl rfl rfl (by omega)) ?_; refine q_mv rfl rfl rfl rfl rfl ?_; refine o_nil (r_then ?_); refine r_next (k + 1) ?_ ?_ ?_
           ·
            (rw [← len_sn B m (bit_eq (by assumption))]; exact r_here (by repeat (first | exact FSub.nil | refine FSub.cons rfl ?_)) SelMC.sel SubRC.sub)
           ·
            omega
           ·
            omega
          ·
           refine r_skip (r_then ?_); refine r_seq ?_; have htb : m.testBit k = true := bit_ne (by assumption); have hat := at_s B m s false (k := k) (by omega) htb; refine r_region_in ?_; refine oi_lift wideF rfl (fun _ _ h => by obtain ⟨⟨v, hv⟩, _⟩ := h; cases hv) ?_; refine q_mv rfl rfl rfl rfl rfl ?_; refine o_nil (r_then ?_); refine oi_lift wideF rfl (fun _ _ h => by obtain ⟨⟨v, hv⟩, _⟩ := h; cases hv) ?_; refine o_q _ rfl rfl rfl (v_lf1 rfl Tryz.underlying157 rfl rfl rfl) ?_; refine o_nil (r_then ?_); refine oi_lift wideF rfl (fun _ _ h => by obtain ⟨⟨v, hv⟩, _⟩ := h; cases hv) ?_; refine q_mv rfl rfl rfl rfl rfl ?_; refine o_nil (r_then ?_); refine oi_lift wideF rfl (fun _ _ h => by obtain ⟨⟨v, hv⟩, _⟩ := h; cases hv) ?_; refine o_q _ rfl rfl rfl (OpQ.fn (sign_v B bo ro so bc rc sc bb mb k (by omega)) rfl rfl SubRC.sub) ?_; refine o_nil (r_then ?_); refine oi_lift wideF rfl (fun _ _ h => by obtain ⟨⟨v, hv⟩, _⟩ := h; cases hv) ?_; refine o_q _ rfl rfl rfl (OpQ.invoke (signB_v B (B.signs.getD k default) (hg.signs k (by omega)) (by omega)) (signM (B.signs.getD k default)) rfl rfl rfl rfl SubRC.sub) ?_; refine o_nil (r_then ?_); refine oi_yields (Ri := [boxF c1 157 [pt bb 0], boxF c2 233 [u64 m, i64 s, .bool false], boxF bb 230 [.slice bo B.banks.length bc, i64 B.wlo, i64 B.whi, .slice ro B.rain.length rc, i64 B.drain, .slice so B.signs.length sc, .map (some mb)], rowD bo 4 encB B.banks, rowD ro 2 encS B.rain, rowD so 3 encG B.signs]) hY (hat).1 rfl rfl rfl rfl rfl rfl rfl ?_ ?_
           all_goals
            refine oi_lift wideF rfl (fun _ _ h => by obtain ⟨⟨v, hv⟩, _⟩ := h; cases hv) ?_; refine o_q _ rfl rfl rfl (v_not rfl rfl) ?_; refine o_nil (r_then ?_); refine oi_nil ?_; refine r_then ?_; refine r_cond rfl (fun hc113 => ?_) (fun hc113 => ?_)
            ·
             first
             | (exfalso; revert hc113; decide)
             |
              skip
              refine r_ret ?_; (with_reducible refine r_in_ret ?_; refine r_then_ret ?_; refine r_then_ret ?_; refine r_in_ret ?_; refine r_then_ret ?_; refine r_sc_ret ?_); exact r_retseqxR (Rd.none rfl) ⟨hat.2, by omega⟩ SelMC.sel SubRC.sub
            ·
             first
             | (exfalso; revert hc113; decide)
             |
              skip
              refine r_skip ?_; refine r_in_normal ?_; refine r_then ?_; refine r_region ?_; refine o_q _ rfl rfl rfl (v_add rfl rfl rfl (by omega)) ?_; refine q_mv rfl rfl rfl rfl rfl ?_; refine o_nil (r_then ?_); refine r_next (k + 1) ?_ ?_ ?_
              ·
               (rw [← len_s B m (by assumption)]; exact r_here (by repeat (first | exact FSub.nil | refine FSub.cons rfl ?_)) SelMC.sel SubRC.sub)
              ·
               omega
              ·
               omega
         ·
          refine r_exit ?_; refine r_then_exit ?_; refine r_then_exit ?_; refine r_in_here ?_; refine r_then (r_seq (r_region ?_)); refine o_q _ rfl rfl rfl (v_lf1 rfl Tryz.underlying157 rfl rfl rfl) ?_; refine o_q _ rfl rfl rfl (v_nilCheck rfl rfl) ?_; refine o_q _ rfl rfl rfl (v_fieldAddr rfl Tryz.underlying230 inf66 rfl rfl rfl rfl) ?_; refine o_q _ rfl rfl rfl (v_fieldAddr rfl Tryz.underlying66 inf63 rfl rfl rfl rfl) ?_; refine o_q _ rfl rfl rfl (v_lf1 rfl Tryz.underlying63 rfl rfl rfl) ?_; refine o_q _ rfl rfl rfl (v_len rfl rfl Tryz.underlying63 rfl) ?_; refine q_mv rfl rfl rfl rfl rfl ?_; refine o_nil (r_then ?_); refine r_block ?_; refine r_loop (ι := Nat) (fun i => i ≤ B.banks.length) (fun i => [(0, .func (.yield l) #[] #[]), (1, pt c1 0), (2, pt c2 0), (120, i64 B.banks.length), (121, i64 i)]) (fun i => [J (wsTo B m s false i).length]) (fun i => [boxF c1 157 [pt bb 0], boxF c2 233 [u64 m, i64 s, .bool false], boxF bb 230 [.slice bo B.banks.length bc, i64 B.wlo, i64 B.whi, .slice ro B.rain.length rc, i64 B.drain, .slice so B.signs.length sc, .map (some mb)], rowD bo 4 encB B.banks, rowD ro 2 encS B.rain, rowD so 3 encG B.signs] ++ Rf) (fun i => B.banks.length - i) 0 ?_ ?_ ?_
          ·
           obtain rfl : k = B.signs.length := by omega
           rw [← wsTo_0 B m s false]; exact r_here (by repeat (first | exact FSub.nil | refine FSub.cons rfl ?_)) SelMC.sel SubRC.sub
          ·
           omega
          ·
           rintro i hI3; refine r_seq (r_region ?_); refine o_q _ rfl rfl rfl (v_lss rfl rfl rfl) ?_; refine o_nil (r_then (r_seq ?_)); refine r_condd rfl (fun hc122 => ?_) (fun hc122 => ?_)
           ·
            refine r_skip (r_then ?_); refine r_seq (r_block ?_); refine r_seq (r_region ?_); refine q_mv rfl rfl rfl rfl rfl ?_; refine q_as rfl rfl rfl rfl rfl ?_; refine o_nil (r_then (r_seq ?_)); refine r_seq (r_region ?_); refine o_q _ rfl rfl rfl (v_lf1 rfl Tryz.underlying157 rfl rfl rfl) ?_; refine o_q _ rfl rfl rfl (v_nilCheck rfl rfl) ?_; refine o_q _ rfl rfl rfl (v_fieldAddr rfl Tryz.underlying230 inf66 rfl rfl rfl rfl) ?_; refine o_q _ rfl rfl rfl (v_fieldAddr rfl Tryz.underlying66 inf59 rfl rfl rfl rfl) ?_; refine o_q _ rfl rfl rfl (v_lf1 rfl Tryz.underlying59 rfl rfl rfl) ?_; refine o_q _ rfl rfl rfl (v_len rfl rfl Tryz.underlying59 rfl) ?_; refine q_mv rfl rfl rfl rfl rfl ?_; refine o_nil (r_then ?_); refine r_block ?_; refine r_loop (ι := Nat) (fun d => d ≤ B.rain.length) (fun d => [(0, .func (.yield l) #[] #[]), (1, pt c1 0), (2, pt c2 0), (9, i64 i), (120, i64 B.banks.length), (121, i64 i), (129, i64 B.rain.length), (130, i64 d)]) (fun d => [J (wdTo B m s false i d).length]) (fun d => [boxF c1 157 [pt bb 0], boxF c2 233 [u64 m, i64 s, .bool false], boxF bb 230 [.slice bo B.banks.length bc, i64 B.wlo, i64 B.whi, .slice ro B.rain.length rc, i64 B.drain, .slice so B.signs.length sc, .map (some mb)], rowD bo 4 encB B.banks, rowD ro 2 encS B.rain, rowD so 3 encG B.signs] ++ Rf) (fun d => B.rain.length - d) 0 ?_ ?_ ?_
            ·
             rw [← wdTo_0]; exact r_here (by repeat (first | exact FSub.nil | refine FSub.cons rfl ?_)) SelMC.sel SubRC.sub
            ·
             omega
            ·
             rintro d hI4; refine r_seq (r_region ?_); refine o_q _ rfl rfl rfl (v_lss rfl rfl rfl) ?_; refine o_nil (r_then (r_seq ?_)); refine r_condd rfl (fun hc131 => ?_) (fun hc131 => ?_)
             ·
              refine r_skip (r_then ?_); refine r_seq (r_block ?_); refine r_seq (r_region ?_); refine q_mv rfl rfl rfl rfl rfl ?_; refine q_as rfl rfl rfl rfl rfl ?_; refine o_nil (r_then (r_seq ?_)); have hat := fun hws => at_v B m s false (i := i) (d := d) (by omega) (by omega) hws
              refine r_region_in ?_; refine oi_lift wideF rfl (fun _ _ h => by obtain ⟨⟨v, hv⟩, _⟩ := h; cases hv) ?_; refine o_q _ rfl rfl rfl (v_fieldAddr rfl Tryz.underlying233 inf4 rfl rfl rfl rfl) ?_; refine o_nil (r_then ?_); refine oi_lift wideF rfl (fun _ _ h => by obtain ⟨⟨v, hv⟩, _⟩ := h; cases hv) ?_; refine o_q _ rfl rfl rfl (v_lf1 rfl Tryz.underlying4 rfl rfl rfl) ?_; refine o_nil (r_then ?_); refine oi_lift wideF rfl (fun _ _ h => by obtain ⟨⟨v, hv⟩, _⟩ := h; cases hv) ?_; refine q_mv rfl rfl rfl rfl rfl ?_; refine o_nil (r_then ?_); refine oi_lift wideF rfl (fun _ _ h => by obtain ⟨⟨v, hv⟩, _⟩ := h; cases hv) ?_; refine o_gn rfl rfl rfl rfl ?_; refine o_nil (r_then ?_); refine oi_lift wideF rfl (fun _ _ h => by obtain ⟨⟨v, hv⟩, _⟩ := h; cases hv) ?_; refine o_gn rfl rfl rfl rfl ?_; refine o_nil (r_then ?_); refine oi_lift wideF rfl (fun _ _ h => by obtain ⟨⟨v, hv⟩, _⟩ := h; cases hv) ?_; refine o_gn rfl rfl rfl rfl ?_; refine o_nil (r_then ?_); refine oi_lift wideF rfl (fun _ _ h => by obtain ⟨⟨v, hv⟩, _⟩ := h; cases hv) ?_; refine o_gn rfl rfl rfl rfl ?_
              all_goals
               refine o_nil (r_then ?_); refine oi_lift wideF rfl (fun _ _ h => by obtain ⟨⟨v, hv⟩, _⟩ := h; cases hv) ?_; refine o_q _ rfl rfl rfl (v_pick_f rfl rfl rfl) ?_; refine o_nil (r_then ?_); refine oi_lift wideF rfl (fun _ _ h => by obtain ⟨⟨v, hv⟩, _⟩ := h; cases hv) ?_; refine q_mv rfl rfl rfl rfl rfl ?_; refine o_nil (r_then ?_); refine oi_lift wideF rfl (fun _ _ h => by obtain ⟨⟨v, hv⟩, _⟩ := h; cases hv) ?_; refine o_gn rfl rfl rfl rfl ?_; refine o_nil (r_then ?_); refine oi_lift wideF rfl (fun _ _ h => by obtain ⟨⟨v, hv⟩, _⟩ := h; cases hv) ?_; refine o_gn rfl rfl rfl rfl ?_; refine o_nil (r_then ?_); refine oi_lift wideF rfl (fun _ _ h => by obtain ⟨⟨v, hv⟩, _⟩ := h; cases hv) ?_; refine o_gn rfl rfl rfl rfl ?_; refine o_nil (r_then ?_); refine oi_lift wideF rfl (fun _ _ h => by obtain ⟨⟨v, hv⟩, _⟩ := h; cases hv) ?_; refine o_gn rfl rfl rfl rfl ?_; refine o_nil (r_then ?_); refine oi_lift wideF rfl (fun _ _ h => by obtain ⟨⟨v, hv⟩, _⟩ := h; cases hv) ?_; refine o_gn rfl rfl rfl rfl ?_; refine o_nil (r_then ?_); refine oi_lift wideF rfl (fun _ _ h => by obtain ⟨⟨v, hv⟩, _⟩ := h; cases hv) ?_; refine o_gn rfl rfl rfl rfl ?_; refine o_nil (r_then ?_); refine oi_lift wideF rfl (fun _ _ h => by obtain ⟨⟨v, hv⟩, _⟩ := h; cases hv) ?_; refine o_gn rfl rfl rfl rfl ?_; refine o_nil (r_then ?_)
               (refine oi_lift wideF rfl (fun _ _ h => by obtain ⟨⟨v, hv⟩, _⟩ := h; cases hv) ?_; refine o_gn rfl rfl rfl rfl ?_; refine o_nil (r_then ?_))
               all_goals
                refine oi_lift wideF rfl (fun _ _ h => by obtain ⟨⟨v, hv⟩, _⟩ := h; cases hv) ?_; refine o_gn rfl rfl rfl rfl ?_; refine o_nil (r_then ?_); refine oi_lift wideF rfl (fun _ _ h => by obtain ⟨⟨v, hv⟩, _⟩ := h; cases hv) ?_; refine o_q _ rfl rfl rfl (v_pick_f rfl rfl rfl) ?_; refine o_nil (r_then ?_); refine oi_nil ?_; refine r_then ?_; refine r_cond rfl (fun hc151 => ?_) (fun hc151 => ?_)
                ·
                 (exfalso; revert hc151; decide)
                ·
                 refine r_skip ?_; refine r_in_normal ?_; refine r_then ?_; refine r_region ?_; refine o_q _ rfl rfl rfl (v_add rfl rfl rfl (by omega)) ?_; refine q_mv rfl rfl rfl rfl rfl ?_; refine o_nil (r_then ?_); refine r_next (d + 1) ?_ ?_ ?_
                 ·
                  (rw [← len_vn B m s false (fun h => absurd h.1 (by decide))]; exact r_here (by repeat (first | exact FSub.nil | refine FSub.cons rfl ?_)) SelMC.sel SubRC.sub)
                 ·
                  omega
                 ·
                  omega
             ·
              refine r_exit ?_; refine r_then_exit ?_; refine r_then_exit ?_; refine r_in_here ?_; refine r_then (r_seq (r_region ?_)); refine o_q _ rfl rfl rfl (v_lf1 rfl Tryz.underlying157 rfl rfl rfl) ?_; refine o_q _ rfl rfl rfl (v_nilCheck rfl rfl) ?_; refine o_q _ rfl rfl rfl (v_fieldAddr rfl Tryz.underlying230 inf66 rfl rfl rfl rfl) ?_; refine o_q _ rfl rfl rfl (v_fieldAddr rfl Tryz.underlying66 inf59 rfl rfl rfl rfl) ?_; refine o_q _ rfl rfl rfl (v_lf1 rfl Tryz.underlying59 rfl rfl rfl) ?_; refine o_q _ rfl rfl rfl (v_len rfl rfl Tryz.underlying59 rfl) ?_; refine q_as rfl rfl rfl rfl rfl ?_; refine o_nil (r_then (r_seq ?_)); obtain rfl : d = B.rain.length := by omega
              have hat := fun hws => at_v B m s false (i := i) (d := B.rain.length) (by omega) (by omega) hws
              refine r_region_in ?_; refine oi_lift wideF rfl (fun _ _ h => by obtain ⟨⟨v, hv⟩, _⟩ := h; cases hv) ?_; refine o_q _ rfl rfl rfl (v_fieldAddr rfl Tryz.underlying233 inf4 rfl rfl rfl rfl) ?_; refine o_nil (r_then ?_); refine oi_lift wideF rfl (fun _ _ h => by obtain ⟨⟨v, hv⟩, _⟩ := h; cases hv) ?_; refine o_q _ rfl rfl rfl (v_lf1 rfl Tryz.underlying4 rfl rfl rfl) ?_; refine o_nil (r_then ?_); refine oi_lift wideF rfl (fun _ _ h => by obtain ⟨⟨v, hv⟩, _⟩ := h; cases hv) ?_; refine q_mv rfl rfl rfl rfl rfl ?_; refine o_nil (r_then ?_); refine oi_lift wideF rfl (fun _ _ h => by obtain ⟨⟨v, hv⟩, _⟩ := h; cases hv) ?_; refine o_gn rfl rfl rfl rfl ?_; refine o_nil (r_then ?_); refine oi_lift wideF rfl (fun _ _ h => by obtain ⟨⟨v, hv⟩, _⟩ := h; cases hv) ?_; refine o_gn rfl rfl rfl rfl ?_; refine o_nil (r_then ?_); refine oi_lift wideF rfl (fun _ _ h => by obtain ⟨⟨v, hv⟩, _⟩ := h; cases hv) ?_; refine o_gn rfl rfl rfl rfl ?_; refine o_nil (r_then ?_); refine oi_lift wideF rfl (fun _ _ h => by obtain ⟨⟨v, hv⟩, _⟩ := h; cases hv) ?_; refine o_gn rfl rfl rfl rfl ?_
              all_goals
               refine o_nil (r_then ?_); refine oi_lift wideF rfl (fun _ _ h => by obtain ⟨⟨v, hv⟩, _⟩ := h; cases hv) ?_; refine o_q _ rfl rfl rfl (v_pick_f rfl rfl rfl) ?_; refine o_nil (r_then ?_); refine oi_lift wideF rfl (fun _ _ h => by obtain ⟨⟨v, hv⟩, _⟩ := h; cases hv) ?_; refine q_mv rfl rfl rfl rfl rfl ?_; refine o_nil (r_then ?_); refine oi_lift wideF rfl (fun _ _ h => by obtain ⟨⟨v, hv⟩, _⟩ := h; cases hv) ?_; refine o_gn rfl rfl rfl rfl ?_; refine o_nil (r_then ?_); refine oi_lift wideF rfl (fun _ _ h => by obtain ⟨⟨v, hv⟩, _⟩ := h; cases hv) ?_; refine o_gn rfl rfl rfl rfl ?_; refine o_nil (r_then ?_); refine oi_lift wideF rfl (fun _ _ h => by obtain ⟨⟨v, hv⟩, _⟩ := h; cases hv) ?_; refine o_gn rfl rfl rfl rfl ?_; refine o_nil (r_then ?_); refine oi_lift wideF rfl (fun _ _ h => by obtain ⟨⟨v, hv⟩, _⟩ := h; cases hv) ?_; refine o_gn rfl rfl rfl rfl ?_; refine o_nil (r_then ?_); refine oi_lift wideF rfl (fun _ _ h => by obtain ⟨⟨v, hv⟩, _⟩ := h; cases hv) ?_; refine o_gn rfl rfl rfl rfl ?_; refine o_nil (r_then ?_); refine oi_lift wideF rfl (fun _ _ h => by obtain ⟨⟨v, hv⟩, _⟩ := h; cases hv) ?_; refine o_gn rfl rfl rfl rfl ?_; refine o_nil (r_then ?_); refine oi_lift wideF rfl (fun _ _ h => by obtain ⟨⟨v, hv⟩, _⟩ := h; cases hv) ?_; refine o_gn rfl rfl rfl rfl ?_; refine o_nil (r_then ?_)
               (refine oi_lift wideF rfl (fun _ _ h => by obtain ⟨⟨v, hv⟩, _⟩ := h; cases hv) ?_; refine o_gn rfl rfl rfl rfl ?_; refine o_nil (r_then ?_))
               all_goals
                refine oi_lift wideF rfl (fun _ _ h => by obtain ⟨⟨v, hv⟩, _⟩ := h; cases hv) ?_; refine o_gn rfl rfl rfl rfl ?_; refine o_nil (r_then ?_); refine oi_lift wideF rfl (fun _ _ h => by obtain ⟨⟨v, hv⟩, _⟩ := h; cases hv) ?_; refine o_q _ rfl rfl rfl (v_pick_f rfl rfl rfl) ?_; refine o_nil (r_then ?_); refine oi_nil ?_; refine r_then ?_; refine r_cond rfl (fun hc177 => ?_) (fun hc177 => ?_)
                ·
                 (exfalso; revert hc177; decide)
                ·
                 refine r_skip ?_; refine r_in_normal ?_; refine r_then ?_; refine r_region ?_; refine o_q _ rfl rfl rfl (v_add rfl rfl rfl (by omega)) ?_; refine q_mv rfl rfl rfl rfl rfl ?_; refine o_nil (r_then ?_); refine r_next (i + 1) ?_ ?_ ?_
                 ·
                  rw [← wdTo_all]
                  (rw [← len_vn B m s false (fun h => absurd h.1 (by decide))]; exact r_here (by repeat (first | exact FSub.nil | refine FSub.cons rfl ?_)) SelMC.sel SubRC.sub)
                 ·
                  omega
                 ·
                  omega
           ·
            refine r_exit ?_; refine r_then_exit ?_; refine r_then_exit ?_; refine r_in_here ?_; refine r_sc_normal ?_; obtain rfl : i = B.banks.length := by omega
            exact r_retseq2 (wsTo B m s false B.banks.length).length rfl (Rd.none rfl) SelMC.sel SubRC.sub
theorem bounds1_s (m : Nat) (s : Int) (w : Bool) (c1 c2 : Nat) (hg : GoodB B) (hm : m < 2 ^ 62) : IsSeq Tryz.prog 195 [pt c1 0, pt c2 0] [boxF c1 157 [pt bb 0], boxF c2 233 [u64 m, i64 s, .bool w], boxF bb 230 [.slice bo B.banks.length bc, i64 B.wlo, i64 B.whi, .slice ro B.rain.length rc, i64 B.drain, .slice so B.signs.length sc, .map (some mb)], rowD bo 4 encB B.banks, rowD ro 2 encS B.rain, rowD so 3 encG B.signs] (fun x => [vN x]) (boundsL B m s w) := by
  cases w
  · exact bounds1_false B bo ro so bc rc sc bb mb m s c1 c2 hg hm
  · exact bounds1_true B bo ro so bc rc sc bb mb m s c1 c2 hg hm
end Go.Proofs.YtpndeonmmcaikaaGreat.BurstW

namespace Go.Proofs.YtpndeonmmcaikaaGreat.BurstW
open Go.G Burst8
set_option maxRecDepth 1000000
attribute [local irreducible] G.ParO G.Fin
def cap1 : Value → Nat
  | .func _ _ cs => blk (cs.getD 0 undef)
  | _ => 0
def cap2 : Value → Nat
  | .func _ _ cs => blk (cs.getD 1 undef)
  | _ => 0
def zeroK : List Value := zeroT.map i64 ++ [.bool false]
theorem zeroK_len : zeroK.length = 122 := rfl
def kC (T : Tab) (c : Bool) : List Value := T.map i64 ++ [.bool c]
theorem kC_len {T : Tab} (hT : T.length = 121) (c : Bool) : (kC T c).length = 122 := by simp [kC, hT]
theorem kC_one (T : Tab) (c : Bool) : oneCells (kC T c) = true := by
  unfold kC
  induction T with
  | nil => rfl
  | cons x r ih => exact ih
@[reducible] def kV (T : Tab) (c : Bool) : Value := .agg (kC T c).toArray
@[reducible] def knownV (B : Bog) (m : Nat) (s : Int) (w : Bool) : Value := kV (knownT B m s w) (canB B m s w)
def okB (B : Bog) : Value → Value → Prop := fun k v => ∀ m s w, k = keyV m s w → v = knownV B m s w
theorem okB_mk (B : Bog) (m : Nat) (s : Int) (w : Bool) : okB B (keyV m s w) (knownV B m s w) := fun m' s' w' h => by
  have h1 := (Value.agg.inj h)
  have h2 : [u64 m, i64 s, .bool w] = [u64 m', i64 s', .bool w'] := congrArg Array.toList h1
  simp only [List.cons.injEq, Value.int.injEq, true_and, and_true, Value.bool.injEq] at h2
  obtain ⟨a, b, c⟩ := h2
  obtain rfl : m = m' := by omega
  subst b; subst c; rfl
theorem mk73 {W : World} {n : Nat} {L : Tm} {M : List Res} {R : List Fact} {o : Oper} {x y : Operand} {T : Tab} {c : Bool} (ho : o.op = .build 156 #[(0, x), (1, y)]) (hx : ev L x = some (.agg (T.map i64).toArray)) (hy : ev L y = some (.bool c)) (hT : T.length = 121) : OpQ Tryz.prog W n L M R o (kV T c) := by
  have hc : CatC [.agg (T.map i64).toArray, .bool c] (T.map i64 ++ [.bool c]) := inferInstance
  refine v_bS (ps := [(0, x), (1, y)]) (vs := [.agg (T.map i64).toArray, .bool c]) ho Tryz.underlying156 inf156 plt156 rfl ?_ rfl ?_ ?_
  · show evs L [x, y] = _
    simp only [evs, hx, hy]
  · have : (Value.agg (T.map i64).toArray).cells.size = 121 := by simp [Value.cells, hT]
    refine ⟨by rw [this]; rfl, ?_, trivial⟩
    rw [this]; rfl
  · exact (kC_len hT c).trans rfl
theorem tab_0 : tabOf [] = emptyT := rfl
theorem tab_s {l : List Bnd} {i : Nat} {x : Bnd} (h : l[i]? = some x) : put1 (tabOf (l.take i)) x = tabOf (l.take (i + 1)) := by
  rw [← tabOf_snoc, List.take_add_one, h]; rfl
theorem tabB_eq (B : Bog) (m : Nat) (s : Int) (w : Bool) : tabOf ((boundsL B m s w).take (boundsL B m s w).length) = tabB B m s w := by rw [List.take_length]; rfl
theorem knownT_eq (B : Bog) (m : Nat) (s : Int) (w : Bool) : fw (tabB B m s w) 11 = knownT B m s w := rfl
theorem canB_eq (B : Bog) (m : Nat) (s : Int) (w : Bool) : decide (Burst8.Can (tabB B m s w)) = canB B m s w := rfl
attribute [local irreducible] fw fwR fwC emptyT tabOf knownT canB boundsL
variable (B : Bog) (bo ro so : Option Addr) (bc rc sc : Nat) (bb mb : Nat)
set_option maxHeartbeats 4000000 in
theorem bounds_r (m : Nat) (s : Int) (w : Bool) : FnR Tryz.prog 164 [pt bb 0, keyV m s w] [] (fun v => v = .func (.func 195) #[] #[pt (cap1 v) 0, pt (cap2 v) 0]) (fun v => [boxF (cap2 v) 233 [u64 m, i64 s, .bool w], boxF (cap1 v) 157 [pt bb 0]]) := by
 refine FnR.intro Tryz.call164 Tryz.func164 rfl Tryz.ntmps164 rfl ?_; intro W M Rf; refine r_seq (r_region ?_); refine o_box1 rfl rfl rfl rfl rfl rfl (fun b2 => ?_); refine o_boxA rfl rfl rfl rfl rfl (fun b3 => ?_); refine q_as rfl rfl rfl rfl rfl ?_; refine o_nil (r_then (r_seq (r_region ?_))); refine o_q _ rfl rfl rfl (v_makeFunc rfl rfl rfl) ?_; refine q_as rfl rfl rfl rfl rfl ?_; refine o_nil (r_then ?_); refine r_ret ?_; refine Imp.sealB b2 ?_; refine Imp.sealB b3 ?_; exact r_retr (Rd.tmp rfl rfl) rfl SelMC.sel (fun _ h => h)
set_option maxHeartbeats 4000000 in
theorem known_t (m : Nat) (s : Int) (w : Bool) (hg : GoodB B) (hm : m < 2 ^ 62) (hs : -1000 ≤ s ∧ s ≤ 1000) : FnC Tryz.prog 135 [pt bb 0, keyV m s w] (memoH Tryz.prog 233 (okB B) mb (keyV m s w) true) [boxF bb 230 [.slice bo B.banks.length bc, i64 B.wlo, i64 B.whi, .slice ro B.rain.length rc, i64 B.drain, .slice so B.signs.length sc, .map (some mb)], rowD bo 4 encB B.banks, rowD ro 2 encS B.rain, rowD so 3 encG B.signs] (knownV B m s w) (memo Tryz.prog 233 (okB B) mb) := by
 obtain ⟨kl, hkl⟩ := key_of (w := w) hm hs; refine FnC.intro Tryz.call135 Tryz.func135 rfl Tryz.ntmps135 rfl ?_; intro W M Rf; refine r_seq (r_region ?_); refine o_boxA rfl rfl rfl rfl rfl (fun b3 => ?_); refine o_alloc (zs := zeroK) rfl inf156 rfl (by kernel_rfl) rfl rfl rfl (fun b4 => ?_); refine o_nil (r_then (r_seq ?_)); refine r_seq ?_; refine r_par' 11 mixed (by kernel_rfl) (by rfl) ?_; refine p_q _ rfl rfl rfl (fun _ _ => v_move rfl rfl) ?_; refine p_q _ rfl rfl rfl (fun _ _ => v_nilCheck rfl rfl) ?_; refine p_q _ rfl rfl rfl (fun _ _ => v_fieldAddr rfl Tryz.underlying230 inf228 rfl rfl rfl rfl) ?_; refine p_q _ rfl rfl rfl (fun _ _ => v_lf1 rfl Tryz.underlying228 rfl rfl rfl) ?_; refine p_q _ rfl rfl rfl (fun _ _ => v_ldW rfl Tryz.underlying233 rfl inf233 rfl rfl) ?_; refine p_q _ rfl rfl rfl (fun _ _ => v_cast (v := .tuple #[knownV B m s w, .bool true]) (v_lookH (okB B) true (knownV B m s w) keyLaw93 hkl rfl Tryz.underlying228 inf156 (z := .agg zeroK.toArray) (by kernel_rfl) (fun _ u hu => hu m s w rfl) rfl rfl) (rfl)) ?_; refine p_q _ rfl rfl rfl (fun _ _ => v_move rfl rfl) ?_; refine p_q _ rfl rfl rfl (fun _ _ => v_extract rfl rfl rfl) ?_; refine p_q _ rfl rfl rfl (fun _ _ => v_extract rfl rfl rfl) ?_; refine p_allocL (zs := zeroK) 10 (kC (knownT B m s w) (canB B m s w)) rfl inf156 rfl (by kernel_rfl) rfl rfl rfl ?_; refine p_acc (by simp only [List.nil_append, List.cons_append]; rfl) ?_; refine p_stl 9 rfl rfl rfl inf156 rfl rfl rfl (by kernel_rfl) (fun _ => rfl) rfl (kC_len (knownT_len _ _ _ _) _) (by rw [kC_len (knownT_len _ _ _ _), zeroK_len]) (kC_one _ _) ?_; refine p_nil2 (by simp only [List.nil_append, List.cons_append]; rfl) rfl ?_ (by kernel_rfl); (iterate 9 refine f_q rfl ?_); refine f_allocL rfl (fun b5 => ?_); refine f_s rfl ?_; refine f_nil ?_; refine q_as rfl rfl rfl rfl rfl ?_; refine o_nil (r_then (r_seq (r_region ?_))); refine q_mv rfl rfl rfl rfl rfl ?_; refine o_nil (r_then ?_); refine r_cond rfl (fun hc22 => ?_) (fun hc22 => ?_)
 ·
  refine r_seq (r_region ?_); refine o_q _ rfl rfl rfl (v_ldW rfl Tryz.underlying156 rfl inf156 rfl (kC_len (knownT_len _ _ _ _) _)) ?_; refine o_st (us := kC (knownT B m s w) (canB B m s w)) rfl inf156 rfl rfl rfl rfl rfl (kC_len (knownT_len _ _ _ _) _) (kC_one _ _) (Nat.ble_eq_true_of_le (by rw [kC_len (knownT_len _ _ _ _), zeroK_len]; decide)) ?_; refine o_nil (r_then ?_); refine r_ret ?_; (with_reducible refine r_then_ret ?_); refine Imp.box_to b4 (kC (knownT B m s w) (canB B m s w)) (splice_all (by rw [kC_len (knownT_len _ _ _ _), zeroK_len])) ?_; refine Imp.memo_join (P := Tryz.prog) (k := 233) (ok := okB B) (b := mb) (kv := keyV m s w) (has := true) ?_; exact r_rete [memo Tryz.prog 233 (okB B) mb] [] (Rd.one rfl (RdI.cellW Tryz.underlying156 rfl inf156 rfl (kC_len (knownT_len _ _ _ _) _))) ⟨rfl, rfl, rfl⟩ SelMC.sel SubRC.sub
 ·
  (exfalso; revert hc22; decide)
set_option maxHeartbeats 4000000 in
theorem known_f (m : Nat) (s : Int) (w : Bool) (hg : GoodB B) (hm : m < 2 ^ 62) (hs : -1000 ≤ s ∧ s ≤ 1000) : FnC Tryz.prog 135 [pt bb 0, keyV m s w] (memoH Tryz.prog 233 (okB B) mb (keyV m s w) false) [boxF bb 230 [.slice bo B.banks.length bc, i64 B.wlo, i64 B.whi, .slice ro B.rain.length rc, i64 B.drain, .slice so B.signs.length sc, .map (some mb)], rowD bo 4 encB B.banks, rowD ro 2 encS B.rain, rowD so 3 encG B.signs] (knownV B m s w) (memo Tryz.prog 233 (okB B) mb) := by
 obtain ⟨kl, hkl⟩ := key_of (w := w) hm hs; refine FnC.introM Tryz.call135 Tryz.func135 rfl Tryz.ntmps135 rfl ?_; intro W M Rf; refine r_seq (r_region ?_); refine o_boxA rfl rfl rfl rfl rfl (fun b3 => ?_); refine o_alloc (zs := zeroK) rfl inf156 rfl (by kernel_rfl) rfl rfl rfl (fun b4 => ?_); refine o_nil (r_then (r_seq ?_)); refine r_seq ?_; refine r_par' 11 mixed (by kernel_rfl) (by rfl) ?_; refine p_q _ rfl rfl rfl (fun _ _ => v_move rfl rfl) ?_; refine p_q _ rfl rfl rfl (fun _ _ => v_nilCheck rfl rfl) ?_; refine p_q _ rfl rfl rfl (fun _ _ => v_fieldAddr rfl Tryz.underlying230 inf228 rfl rfl rfl rfl) ?_; refine p_q _ rfl rfl rfl (fun _ _ => v_lf1 rfl Tryz.underlying228 rfl rfl rfl) ?_; refine p_q _ rfl rfl rfl (fun _ _ => v_ldW rfl Tryz.underlying233 rfl inf233 rfl rfl) ?_; refine p_q _ rfl rfl rfl (fun _ _ => v_cast (v := .tuple #[.agg zeroK.toArray, .bool false]) (v_lookH (okB B) false (knownV B m s w) keyLaw93 hkl rfl Tryz.underlying228 inf156 (z := .agg zeroK.toArray) (by kernel_rfl) (fun _ u hu => hu m s w rfl) rfl rfl) (rfl)) ?_; refine p_q _ rfl rfl rfl (fun _ _ => v_move rfl rfl) ?_; refine p_q _ rfl rfl rfl (fun _ _ => v_extract rfl rfl rfl) ?_; refine p_q _ rfl rfl rfl (fun _ _ => v_extract rfl rfl rfl) ?_; refine p_allocL (zs := zeroK) 10 (zeroK) rfl inf156 rfl (by kernel_rfl) rfl rfl rfl ?_; refine p_acc (by simp only [List.nil_append, List.cons_append]; rfl) ?_; refine p_stl 9 rfl rfl rfl inf156 rfl rfl rfl (by kernel_rfl) (fun _ => rfl) rfl (rfl) (rfl) (rfl) ?_; refine p_nil2 (by simp only [List.nil_append, List.cons_append]; rfl) rfl ?_ (by kernel_rfl); (iterate 9 refine f_q rfl ?_); refine f_allocL rfl (fun b5 => ?_); refine f_s rfl ?_; refine f_nil ?_; refine q_as rfl rfl rfl rfl rfl ?_; refine o_nil (r_then (r_seq (r_region ?_))); refine q_mv rfl rfl rfl rfl rfl ?_; refine o_nil (r_then ?_); refine r_cond rfl (fun hc22 => ?_) (fun hc22 => ?_)
 ·
  (exfalso; revert hc22; decide)
 ·
  refine r_skip (r_then (r_seq (r_region ?_))); refine o_q _ rfl rfl rfl (OpQ.fn empty_v rfl rfl SubRC.sub) ?_; refine o_alloc (zs := zeroT.map i64) rfl inf154 rfl (by kernel_rfl) rfl rfl rfl (fun b7 => ?_); refine o_st (us := (emptyT).map i64) rfl inf154 rfl rfl rfl rfl rfl (map_len (emptyT_len)) (oneCells_map _) (whole_ble (emptyT_len) (by first | exact zeroT_len | exact emptyT_len)) ?_; refine o_nil (r_then (r_seq ?_)); refine Imp.box_to b7 (emptyT.map i64) (splice_all (by rw [map_len emptyT_len, map_len zeroT_len])) ?_; refine r_region ?_; refine o_q _ rfl rfl rfl (v_ldW rfl Tryz.underlying154 rfl inf154 rfl (map_len (emptyT_len))) ?_; refine o_q _ rfl rfl rfl (v_makeFunc rfl rfl rfl) ?_; refine o_alloc rfl inf286 rfl rfl rfl rfl rfl (fun b8 => ?_); refine o_st rfl inf286 rfl rfl rfl rfl rfl rfl rfl rfl ?_; refine o_nil (r_then (r_seq ?_)); refine r_seq ?_; refine Imp.box_to b7 (((tabOf ((boundsL B m s w).take 0))).map i64) (by rw [List.take_zero, tab_0]) ?_; refine Imp.box_to b8 [.func (.func 163) #[.agg (((tabOf ((boundsL B m s w).take 0))).map i64).toArray] #[]] (by rw [List.take_zero, tab_0]; rfl) ?_; refine r_region ?_; refine q_mv rfl rfl rfl rfl rfl ?_; refine o_q _ rfl rfl rfl (v_ldW rfl Tryz.underlying233 rfl inf233 rfl rfl) ?_; refine o_fn (bounds_r bb m s w) rfl rfl rfl rfl rfl SubRC.sub (fun v29 hv29 => ?_)
  (obtain ⟨c1, hc1⟩ : ∃ c, cap1 v29 = c := ⟨_, rfl⟩); (obtain ⟨c2, hc2⟩ : ∃ c, cap2 v29 = c := ⟨_, rfl⟩); rw [hc1, hc2] at hv29 ⊢; clear hc1 hc2; subst hv29
  all_goals
   refine o_nil (r_then ?_); refine r_block ?_; refine r_range (bounds1_s B bo ro so bc rc sc bb mb m s w c1 c2 hg hm) rfl SubRC.sub (fun _ => rfl) rfl (fun i => exR fun (_ : Unit) => [bx b7 154 (((tabOf ((boundsL B m s w).take i))).map i64), bx b8 286 [.func (.func 163) #[.agg (((tabOf ((boundsL B m s w).take i))).map i64).toArray] #[]]]) (fun _ _ => noR) (M0 := bx b3 233 [u64 m, i64 s, .bool w] :: bx b4 156 zeroK :: memoH Tryz.prog 233 (okB B) mb (keyV m s w) false :: M) (M1 := bx b7 154 (((tabOf ((boundsL B m s w).take 0))).map i64) :: bx b8 286 [.func (.func 163) #[.agg (((tabOf ((boundsL B m s w).take 0))).map i64).toArray] #[]] :: bx b3 233 [u64 m, i64 s, .bool w] :: bx b4 156 zeroK :: memoH Tryz.prog 233 (okB B) mb (keyV m s w) false :: M) SelMC.sel (fun w h => St.pk () h) ?_ ?_ ?_
   ·
    intro l i x hx Mi Ri rdy bsy hbg; refine Imp.unpk2 (fun _ => ?_); refine ri_region ?_; refine oi_lift wideR rfl (fun _ _ h => h) ?_; refine o_alloc rfl inf291 rfl rfl rfl rfl rfl (fun b9 => ?_); refine o_nil (r_then ?_); refine oi_lift wideR rfl (fun _ _ h => h) ?_; refine o_st rfl inf291 rfl rfl rfl rfl rfl rfl rfl rfl ?_; refine o_nil (r_then ?_); refine oi_nil ?_; refine r_then ?_; refine r_begin hbg ?_; refine ri_block ?_; refine ri_seq ?_; refine ri_region ?_; refine oi_lift wideR rfl (fun _ _ h => h) ?_; refine o_q _ rfl rfl rfl (v_ld1 rfl Tryz.underlying286 rfl rfl rfl) ?_; refine o_nil (r_then ?_); refine oi_lift wideR rfl (fun _ _ h => h) ?_; refine o_q _ rfl rfl rfl (v_ldW rfl Tryz.underlying291 rfl inf291 rfl rfl) ?_; refine o_nil (r_then ?_); refine oi_lift wideR rfl (fun _ _ h => h) ?_; refine o_lit rfl Tryz.underlying330 inf291 rfl rfl rfl rfl rfl rfl rfl rfl (by repeat (first | exact trivial | refine ⟨rfl, ?_⟩)) (by rfl) (fun b33 => ?_); refine o_nil (r_then ?_); refine Imp.sealB b33 ?_; refine Imp.rowN (b := b33) [x] encN_len rfl ?_; refine oi_lift wideR rfl (fun _ _ h => h) ?_; refine o_q _ rfl rfl rfl (OpQ.call (put_v (tabOf ((boundsL B m s w).take i)) (tabOf_len _) x (some ⟨b33, 0, none⟩) 1 (bounds_in hg x (List.mem_of_getElem? hx)) (tabOf_in (fun y hy => bounds_in hg y (List.mem_of_mem_take hy)))) rfl [.agg (((tabOf ((boundsL B m s w).take i))).map i64).toArray] [] rfl rfl rfl SubRC.sub) ?_; refine o_nil (r_then ?_); refine oi_lift wideR rfl (fun _ _ h => h) ?_; refine o_st (us := (put1 ((tabOf ((boundsL B m s w).take i))) x).map i64) rfl inf154 rfl rfl rfl rfl rfl (map_len (by rw [put1_len, tabOf_len])) (oneCells_map _) (whole_ble (by rw [put1_len, tabOf_len]) (tabOf_len _)) ?_; refine o_nil (r_then ?_); refine oi_nil ?_; refine r_then ?_; refine Imp.box_to b7 (((tabOf ((boundsL B m s w).take (i + 1)))).map i64) (by rw [← tab_s hx]; exact splice_all ((map_len (tabOf_len _)).trans (map_len (by rw [put1_len, tabOf_len])).symm)) ?_; refine ri_region ?_; refine oi_lift wideR rfl (fun _ _ h => h) ?_; refine o_q _ rfl rfl rfl (v_ldW rfl Tryz.underlying154 rfl inf154 rfl (map_len (tabOf_len _))) ?_; refine o_nil (r_then ?_); refine oi_lift wideR rfl (fun _ _ h => h) ?_; refine o_q _ rfl rfl rfl (v_makeFunc rfl rfl rfl) ?_; refine o_nil (r_then ?_); refine oi_lift wideR rfl (fun _ _ h => h) ?_; refine o_st rfl inf286 rfl rfl rfl rfl rfl rfl rfl rfl ?_; refine o_nil (r_then ?_); refine oi_nil ?_; (with_reducible refine r_in_normal ?_); refine Imp.box_to b8 [.func (.func 163) #[.agg (((tabOf ((boundsL B m s w).take (i + 1)))).map i64).toArray] #[]] rfl ?_; exact r_round2 () SelMC.sel SubRC.sub
   ·
    intro db; refine Imp.unpk2 (fun _ => ?_); refine r_in_normal ?_; refine r_then (r_seq ?_); refine Imp.box_to b7 ((tabB B m s w).map i64) (by rw [tabB_eq]) ?_; refine r_region ?_; refine q_as rfl rfl rfl rfl rfl ?_; refine o_nil (r_then (r_seq (r_region ?_))); refine q_mv rfl rfl rfl rfl rfl ?_; refine o_q _ rfl rfl rfl (v_ldW rfl Tryz.underlying154 rfl inf154 rfl (map_len (tabB_len _ _ _ _))) ?_; refine o_q _ rfl rfl rfl (v_cast (v := .tuple #[.agg ((knownT B m s w).map i64).toArray, .bool (canB B m s w)]) (OpQ.call (closed_v (tabB B m s w) (tabB_len _ _ _ _) (tabB_in hg)) rfl [] [] rfl rfl rfl SubRC.sub) (by rw [knownT_eq, canB_eq])) ?_; refine q_mv rfl rfl rfl rfl rfl ?_; refine o_q _ rfl rfl rfl (v_extract rfl rfl rfl) ?_; refine o_q _ rfl rfl rfl (v_extract rfl rfl rfl) ?_; refine o_alloc (zs := zeroT.map i64) rfl inf154 rfl (by kernel_rfl) rfl rfl rfl (fun b11 => ?_); refine o_st (us := (knownT B m s w).map i64) rfl inf154 rfl rfl rfl rfl rfl (map_len (knownT_len _ _ _ _)) (oneCells_map _) (whole_ble (knownT_len _ _ _ _) (by first | exact zeroT_len | exact knownT_len _ _ _ _)) ?_; refine q_as rfl rfl rfl rfl rfl ?_; refine o_nil (r_then (r_seq ?_)); refine Imp.box_to b11 ((knownT B m s w).map i64) (splice_all (by rw [map_len (knownT_len _ _ _ _), map_len zeroT_len])) ?_; refine r_par' 8 mixed (by kernel_rfl) (by rfl) ?_; refine p_q _ rfl rfl rfl (fun _ _ => v_move rfl rfl) ?_; refine p_q _ rfl rfl rfl (fun _ _ => v_nilCheck rfl rfl) ?_; refine p_q _ rfl rfl rfl (fun _ _ => v_fieldAddr rfl Tryz.underlying230 inf228 rfl rfl rfl rfl) ?_; refine p_q _ rfl rfl rfl (fun _ _ => v_lf1 rfl Tryz.underlying228 rfl rfl rfl) ?_; refine p_q _ rfl rfl rfl (fun _ _ => v_ldW rfl Tryz.underlying233 rfl inf233 rfl rfl) ?_; refine p_q _ rfl rfl rfl (fun _ _ => v_ldW rfl Tryz.underlying154 rfl inf154 rfl (map_len (knownT_len _ _ _ _))) ?_; refine p_q _ rfl rfl rfl (fun _ _ => v_move rfl rfl) ?_; refine p_q _ rfl rfl rfl (fun _ _ => mk73 rfl rfl rfl (knownT_len _ _ _ _)) ?_; refine p_nil2 (by simp only [List.nil_append, List.cons_append]; rfl) rfl ?_; (iterate 8 refine f_q rfl ?_); refine f_nil ?_; refine o_mapUpdH (ok := okB B) (kv0 := keyV m s w) (has := false) keyLaw93 hkl rfl Tryz.underlying228 rfl rfl rfl rfl rfl (okB_mk B m s w) ?_; refine o_nil (r_then (r_seq ?_)); refine r_par' 5 mixed (by kernel_rfl) (by rfl) ?_; refine p_q _ rfl rfl rfl (fun _ _ => v_move rfl rfl) ?_; refine p_q _ rfl rfl rfl (fun _ _ => v_nilCheck rfl rfl) ?_; refine p_q _ rfl rfl rfl (fun _ _ => v_fieldAddr rfl Tryz.underlying230 inf228 rfl rfl rfl rfl) ?_; refine p_q _ rfl rfl rfl (fun _ _ => v_lf1 rfl Tryz.underlying228 rfl rfl rfl) ?_; refine p_q _ rfl rfl rfl (fun _ _ => v_ldW rfl Tryz.underlying233 rfl inf233 rfl rfl) ?_
    refine p_nil2 (by simp only [List.nil_append, List.cons_append]; rfl) rfl ?_; (iterate 5 refine f_q rfl ?_); refine f_nil ?_; refine o_q _ rfl rfl rfl (v_cast (v := knownV B m s w) (v_lookH (okB B) true (knownV B m s w) keyLaw93 hkl rfl Tryz.underlying228 inf156 (z := .agg zeroK.toArray) (by kernel_rfl) (fun _ u hu => hu m s w rfl) rfl rfl) (rfl)) ?_; refine o_st (us := kC (knownT B m s w) (canB B m s w)) rfl inf156 rfl rfl rfl rfl rfl (kC_len (knownT_len _ _ _ _) _) (kC_one _ _) (Nat.ble_eq_true_of_le (by rw [kC_len (knownT_len _ _ _ _), zeroK_len]; decide)) ?_; refine o_nil (r_then ?_); refine r_ret ?_; refine Imp.box_to b4 (kC (knownT B m s w) (canB B m s w)) (splice_all (by rw [kC_len (knownT_len _ _ _ _), zeroK_len])) ?_; refine Imp.memo_join (P := Tryz.prog) (k := 233) (ok := okB B) (b := mb) (kv := keyV m s w) (has := true) ?_; exact m_rete [memo Tryz.prog 233 (okB B) mb] [] (Rd.one rfl (RdI.cellW Tryz.underlying156 rfl inf156 rfl (kC_len (knownT_len _ _ _ _) _))) ⟨rfl, rfl, rfl⟩ SelMC.sel SubRC.sub
   ·
    intro db i c _; exact Imp.noR
theorem known_m (m : Nat) (s : Int) (w : Bool) (hg : GoodB B) (hm : m < 2 ^ 62) (hs : -1000 ≤ s ∧ s ≤ 1000) : FnM Tryz.prog 135 [pt bb 0, keyV m s w] (memo Tryz.prog 233 (okB B) mb) [boxF bb 230 [.slice bo B.banks.length bc, i64 B.wlo, i64 B.whi, .slice ro B.rain.length rc, i64 B.drain, .slice so B.signs.length sc, .map (some mb)], rowD bo 4 encB B.banks, rowD ro 2 encS B.rain, rowD so 3 encG B.signs] (fun u => u = knownV B m s w) :=
  FnM.of_memo (known_t B bo ro so bc rc sc bb mb m s w hg hm hs) (known_f B bo ro so bc rc sc bb mb m s w hg hm hs)
end Go.Proofs.YtpndeonmmcaikaaGreat.BurstW

set_option linter.unusedVariables false
namespace Go.G
variable {P : Program} {W : World} {n : Nat} {D : List Deferred} {L : Tm} {M : List Res} {R : List Fact} {Q : Exit → Act → World → Prop} {o : Oper}
theorem r_parX {id : Nat} {l : List Oper} (m : Nat) (hm : P.follows .mixedOrders = true) (hpb : parB (l.take m) (l.drop m) = true) (hfr : freshB L (l.take m) = true)
    (h : ParO P W n M R l.toArray (fun ss => preOf ss = [] ∧ lateB l.toArray ss 0 ss = true ∧ (∀ (i : Nat) (s : Spc) (c : List PanicEntry), ss[i]? = some s → s.ab = some c → Imp W n D L M R (Q (.panic c))) ∧ Fin W n D (wpList P l.toArray Q (l.drop m)) (l.take m) ss L M R) (l.take m) [] L) : Imp W n D L M R ((Code.region id l.toArray true).wp P Q) :=
  r_parG (l.take m) (l.drop m) (List.take_append_drop m l).symm hm hpb (fun o ho => by
    have := List.all_eq_true.1 hfr o ho
    simpa using this) (h.mono fun ss hs => by
      rw [hs.1]; exact ⟨SelM.refl, hs.2⟩)
def abOf (ss : List Spc) : List (List PanicEntry) := ss.filterMap (·.ab)
theorem p_nilX {ops : Array Oper} {F : List Spc → Prop} {Z : List PanicEntry → Prop} {acc acc' : List Spc} (c : List PanicEntry) (e : acc = acc') (hp : preOf acc' = []) (hl : lateB ops acc' 0 acc' = true) (ha : abOf acc' = [c]) (hz : Z c) (h : F acc') : ParO P W n M R ops (fun ss => preOf ss = [] ∧ lateB ops ss 0 ss = true ∧ (∀ (i : Nat) (s : Spc) (c : List PanicEntry), ss[i]? = some s → s.ab = some c → Z c) ∧ F ss) [] acc L := by
  subst e
  refine p_nil ⟨hp, hl, fun i s c' h1 h2 => ?_, h⟩
  have : c' ∈ abOf acc := List.mem_filterMap.2 ⟨s, List.mem_of_getElem? h1, h2⟩
  rw [ha] at this
  have : c' = c := by simpa using this
  subst this; exact hz
@[reducible] def panOf (pv : Value) : List PanicEntry := [{ v := pv, recovered := false }]
def Spc.dead (c : List PanicEntry) : Spc := ⟨none, fun _ => False, fun _ => [], fun _ => [], [], none, none, some c⟩
theorem p_deadX {ops : Array Oper} {K : List Spc → Prop} {rest : List Oper} {acc : List Spc} {k : FuncId} {args : List Value} {R0 : List Fact} {pv : Value} {xs : List Operand} {ts : Array TypeId} {d : Nat}
    (h : FnX P k args R0 pv) (ho : o.op = .call { callee := .value (.func k), args := xs.toArray, argTypes := ts })
    (hx : evs L xs = some args) (hg : o.guard = none) (hdst : o.dst = some d) (hd : Nat.blt d n = true) (hs : SubR R R0)
    (hr : ParO P W n M R ops K rest (acc ++ [Spc.dead (panOf pv)]) L) : ParO P W n M R ops K (o :: rest) acc L := by
  refine ⟨Spc.dead (panOf pv), by simp [hdst, hd], .inl ⟨rfl, .inl ⟨.inl hg, ?_⟩⟩, by simpa [addL, Spc.dead] using hr⟩
  intro Mx Rx a w h1 h2
  have h2 : St W (Mx ++ M) (Rx ++ R) w := h2
  rw [exec_call [] [] ho rfl (h1.evs hx) h.enter]
  simp only [List.nil_append, List.append_nil]
  refine ⟨rfl, (h.calls W (Mx ++ M) (Rx ++ R) w (h2.both (fun φ hφ => List.mem_append_right _ (hs φ hφ)))).mono ?_⟩
  rintro e w' ⟨rfl, hw'⟩
  exact .inr ⟨_, rfl, rfl, [], hw'.weak (fun φ hφ => List.mem_append_right _ hφ)⟩
theorem p_dead {ops : Array Oper} {K : List Spc → Prop} {rest : List Oper} {acc : List Spc} {sj : Spc} {d : Nat} (j : Nat) {oj : Oper} (hoj : ops[j]? = some oj) (hsj : acc[j]? = some sj) (hdj : sj.det = none) (hF : ∀ u, ¬ sj.pval u) (hdep : depD ops o j = true) (hg : o.guard = none) (hdst : o.dst = some d) (hd : Nat.blt d n = true)
    (hr : ParO P W n M R ops K rest (acc ++ [Spc.g (fun _ => False) (fun _ => []) (fun _ => [])]) L) : ParO P W n M R ops K (o :: rest) acc L :=
  ⟨Spc.g (fun _ => False) (fun _ => []) (fun _ => []), by simp [hdst, hd], .inl ⟨rfl, .inr (.inr (.inl ⟨hg, j, oj, sj, hoj, hsj, hdj, hdep, fun u hu => absurd hu (hF u)⟩))⟩, by simpa [addL, Spc.g] using hr⟩
theorem f_dead {X : Act → World → Prop} {os : List Oper} {ss : List Spc} {c : List PanicEntry} : Fin W n D X (o :: os) (Spc.dead c :: ss) L M R := fun _ hv => hv.elim
theorem p_openL {ops : Array Oper} {K : List Spc → Prop} {rest : List Oper} {acc : List Spc} {k : FuncId} {args : List Value} {R0 : List Fact} {res : Nat → Res} {xs : List Operand} {ts : Array TypeId} {d : Nat} (kT : Nat)
    (h : FnS P k args [] R0 (fun e M' R' => ∃ b, e = .returned (pt b 0) ∧ M' = [res b] ∧ R' = [])) (ho : o.op = .call { callee := .value (.func k), args := xs.toArray, argTypes := ts })
    (hx : evs L xs = some args) (hg : o.guard = none) (hdst : o.dst = some d) (hd : Nat.blt d n = true) (hs : SubR R R0)
    (hr : ParO P W n M R ops K rest (acc ++ [Spc.al isPt (fun v => [res (blk v)]) kT (fun _ => [])]) L) : ParO P W n M R ops K (o :: rest) acc L := by
  refine ⟨Spc.al isPt (fun v => [res (blk v)]) kT (fun _ => []), by simp [hdst, hd], .inl ⟨rfl, .inl ⟨.inl hg, ?_⟩⟩, by simpa [addL, Spc.al] using hr⟩
  intro Mx Rx a w h1 h2
  have h2 : St W (Mx ++ M) (Rx ++ R) w := h2
  rw [exec_call [] [] ho rfl (h1.evs hx) h.enter]
  simp only [List.nil_append, List.append_nil]
  have h3 : St W ([] ++ (Mx ++ M)) (R0 ++ (Rx ++ R)) w := h2.both (fun φ hφ => List.mem_append_right _ (hs φ hφ))
  refine ⟨rfl, (h.calls W (Mx ++ M) (Rx ++ R) w h3).mono ?_⟩
  rintro e w' ⟨M1, R1, ⟨b, rfl, rfl, rfl⟩, hw'⟩
  refine .inl ⟨pt b 0, rfl, ⟨b, rfl⟩, ?_⟩
  exact hw'.weak (fun φ hφ => List.mem_append_right _ (List.mem_append_right _ hφ))
theorem f_openL {X : Act → World → Prop} {os : List Oper} {ss : List Spc} {res : Nat → Res} {k d : Nat} (hdst : o.dst = some d) (h : ∀ b, Fin W n D X os ss ((d, pt b 0) :: L) M R) : Fin W n D X (o :: os) (Spc.al isPt (fun v => [res (blk v)]) k (fun _ => []) :: ss) L M R := by
  show ∀ v, isPt v → Fin W n D X os ss (putL o.dst v L) ([] ++ M) ([] ++ R)
  rw [hdst]
  rintro v ⟨b, rfl⟩
  exact h b
theorem p_take {ops : Array Oper} {K : List Spc → Prop} {rest : List Oper} {acc : List Spc} {k : FuncId} {R0 : List Fact} {res : Nat → Res} {v : Value} {ts : Array TypeId} {d x : Nat} (j : Nat) {oj : Oper}
    (h : ∀ b, FnS P k [pt b 0] [res b] R0 (fun e M' R' => e = .returned v ∧ M' = [] ∧ R' = [])) (ho : o.op = .call { callee := .value (.func k), args := #[.tmp x], argTypes := ts })
    (hoj : ops[j]? = some oj) (hx : oj.dst.getD 1000000 = x) (hsj : acc[j]? = some (Spc.al isPt (fun v => [res (blk v)]) acc.length (fun _ => []))) (hdep : depD ops o j = true) (hg : o.guard = none) (hdst : o.dst = some d) (hd : Nat.blt d n = true) (hs : SubR R R0)
    (hr : ParO P W n M R ops K rest (acc ++ [Spc.s5 (some v) (fun _ => True) j none]) ((d, v) :: L)) : ParO P W n M R ops K (o :: rest) acc L := by
  refine ⟨Spc.s5 (some v) (fun _ => True) j none, by simp [hdst, hd], .inr (.inl ⟨hg, j, oj, _, _, some v, _, none, _, rfl, hoj, hsj, rfl, rfl, hdep, fun u hu => ?_⟩), by simpa [addL, Spc.s5, hdst] using hr⟩
  obtain ⟨b, rfl⟩ := hu
  rw [hx]
  intro Mx Rx a w h1 h2
  have h2 : St W (Mx ++ ([res b] ++ M)) (Rx ++ R) w := h2
  have hxe : evs ((x, pt b 0) :: L) [.tmp x] = some [pt b 0] := by simp [evs, ev, look_cons_eq]
  rw [exec_call [] [] (xs := [.tmp x]) ho rfl (h1.evs hxe) (h b).enter]
  have h3 : St W ([res b] ++ (Mx ++ M)) (R0 ++ (Rx ++ R)) w := (h2.perm (by
    rw [← List.append_assoc, ← List.append_assoc]
    exact List.perm_append_comm.append_right M)).both (fun φ hφ => List.mem_append_right _ (hs φ hφ))
  refine ⟨rfl, ((h b).calls W (Mx ++ M) (Rx ++ R) w h3).mono ?_⟩
  rintro e w' ⟨M1, R1, ⟨rfl, rfl, rfl⟩, hw'⟩
  exact .inl ⟨v, rfl, rfl, hw'.weak (fun φ hφ => List.mem_append_right _ (List.mem_append_right _ hφ))⟩
theorem f_take {X : Act → World → Prop} {os : List Oper} {ss : List Spc} {v : Value} {j d : Nat} (hdst : o.dst = some d) (h : Fin W n D X os ss ((d, v) :: L) M R) : Fin W n D X (o :: os) (Spc.s5 (some v) (fun _ => True) j none :: ss) L M R := by
  show Fin W n D X os ss (putL o.dst v L) M R
  rw [hdst]; exact h
theorem p_takeX {ops : Array Oper} {K : List Spc → Prop} {rest : List Oper} {acc : List Spc} {k : FuncId} {R0 : List Fact} {res : Nat → Res} {pv : Value} {ts : Array TypeId} {d x : Nat} (j : Nat) {oj : Oper}
    (h : ∀ b, FnS P k [pt b 0] [res b] R0 (fun e M' R' => e = .panicked (panOf pv) ∧ M' = [] ∧ R' = [])) (ho : o.op = .call { callee := .value (.func k), args := #[.tmp x], argTypes := ts })
    (hoj : ops[j]? = some oj) (hx : oj.dst.getD 1000000 = x) (hsj : acc[j]? = some (Spc.al isPt (fun v => [res (blk v)]) acc.length (fun _ => []))) (hdep : depD ops o j = true) (hg : o.guard = none) (hdst : o.dst = some d) (hd : Nat.blt d n = true) (hs : SubR R R0)
    (hr : ParO P W n M R ops K rest (acc ++ [Spc.s5 none (fun _ => False) j (some (panOf pv))]) L) : ParO P W n M R ops K (o :: rest) acc L := by
  refine ⟨Spc.s5 none (fun _ => False) j (some (panOf pv)), by simp [hdst, hd], .inr (.inl ⟨hg, j, oj, _, _, none, _, some (panOf pv), _, rfl, hoj, hsj, rfl, rfl, hdep, fun u hu => ?_⟩), by simpa [addL, Spc.s5] using hr⟩
  obtain ⟨b, rfl⟩ := hu
  rw [hx]
  intro Mx Rx a w h1 h2
  have h2 : St W (Mx ++ ([res b] ++ M)) (Rx ++ R) w := h2
  have hxe : evs ((x, pt b 0) :: L) [.tmp x] = some [pt b 0] := by simp [evs, ev, look_cons_eq]
  rw [exec_call [] [] (xs := [.tmp x]) ho rfl (h1.evs hxe) (h b).enter]
  have h3 : St W ([res b] ++ (Mx ++ M)) (R0 ++ (Rx ++ R)) w := (h2.perm (by
    rw [← List.append_assoc, ← List.append_assoc]
    exact List.perm_append_comm.append_right M)).both (fun φ hφ => List.mem_append_right _ (hs φ hφ))
  refine ⟨rfl, ((h b).calls W (Mx ++ M) (Rx ++ R) w h3).mono ?_⟩
  rintro e w' ⟨M1, R1, ⟨rfl, rfl, rfl⟩, hw'⟩
  exact .inr ⟨_, rfl, rfl, [], hw'.weak (fun φ hφ => List.mem_append_right _ (List.mem_append_right _ hφ))⟩
theorem f_takeX {X : Act → World → Prop} {os : List Oper} {ss : List Spc} {c : List PanicEntry} {j : Nat} : Fin W n D X (o :: os) (Spc.s5 none (fun _ => False) j (some c) :: ss) L M R := fun _ hv => hv.elim
end Go.G

namespace Go.Proofs.YtpndeonmmcaikaaGreat.BurstW
open Go.G Burst8
set_option maxRecDepth 1000000
attribute [local irreducible] G.ParO G.Fin
theorem v_bSp {P : Program} {W : World} {n : Nat} {L : Tm} {M : List Res} {R : List Fact} {o : Oper} {T : TypeId} {ps : List (Nat × Operand)} {vs us : List Value} {i : TypeInfo} {z : Value} {fs : Array Field} {pl : List (Nat × Nat)} {cs : List Value} (ho : o.op = .build T ps.toArray) (hT : P.underlying T = some (.struct fs)) (hi : P.info? T = some i) (hp : plT P T = some pl) (hz : i.zero = some z)
    (hx : evs L (ps.map (·.2)) = some vs) (hk : ps.map (·.1) = List.range ps.length) (hpl : PlaceOK (fun k => pl[k]?) 0 0 vs) [hc : CatC vs cs] (hl : cs.length ≤ z.cells.size) (hu : cs ++ z.cells.toList.drop cs.length = us) : OpQ P W n L M R o (.agg us.toArray) :=
  OpQ.of_value fun g w h1 _ => by
    have hq := parts_eq h1 hx hk
    have hf0 : cs = vs.flatMap fun v => v.cells.toList := hc.cat
    obtain ⟨arr, e1, e2⟩ := fill_seq vs 0 0 z.cells hpl (by rw [← hf0]; omega)
    have hf : Instr.fill (fun k => pl[k]?) z.cells ((List.range vs.length).zip vs) = some us.toArray := by
      rw [List.range_eq_range', e1]
      congr 1
      apply Array.ext'
      rw [e2, ← hf0, ← hu]
      simp
    simp only [execOp, ho, Instr.build, Sem.run_bind, run_zeroValue' hi hz, run_underlying hT, Result.andThen_ok, plT_run hT hp w, List.map_toArray, hq]
    simp [hf]
theorem kC_take {T : Tab} (hT : T.length = 121) (c : Bool) : ((kC T c).drop 0).take 121 = T.map i64 := by
  unfold kC
  rw [List.drop_zero, List.take_append_of_le_length (by simp [hT]), List.take_of_length_le (by simp [hT])]
theorem kC_121 {T : Tab} (hT : T.length = 121) (c : Bool) : (kC T c)[121]? = some (.bool c) := by
  unfold kC
  rw [List.getElem?_append_right (by simp [hT])]; simp [hT]
def spanT (T : Tab) (a b : Nat) : Burst8.Span := ⟨0 - tat T b a, tat T a b⟩
@[reducible] def vS (s : Burst8.Span) : Value := .agg #[i64 s.lo, i64 s.hi]
def marginT (T : Tab) (k d : Nat) : Burst8.Span := spanT T (1 + k) (5 + d)
def SmallT (T : Tab) : Prop := ∀ i, i < 11 → ∀ k, k < 11 → -1000000000000000 ≤ tat T i k ∧ tat T i k ≤ 65536
theorem SmallT.known {B : Bog} (hg : GoodB B) (m : Nat) (s : Int) (w : Bool) : SmallT (knownT B m s w) := fun i hi k hk => knownT_bd hg hi hk
def leastN (f : Nat → Int) : Nat → Nat × Int
  | 0 => (0, 0)
  | k + 1 => if k = 0 ∨ f k < (leastN f k).2 then (k, f k) else leastN f k
theorem leastN_y {f : Nat → Int} {k : Nat} (h : k = 0 ∨ f k < (leastN f k).2) : leastN f (k + 1) = (k, f k) := if_pos h
theorem leastN_n {f : Nat → Int} {k : Nat} (h : ¬ (k = 0 ∨ f k < (leastN f k).2)) : leastN f (k + 1) = leastN f k := if_neg h
def worstT (T : Tab) (k d : Nat) : Int := (leastN (fun j => (marginT T k j).lo) (d + 1)).2
def firstT (T : Tab) (nb d : Nat) : Nat × Int := leastN (fun k => worstT T k d) nb
def natsI (n : Nat) : List Int := (List.range n).map fun k : Nat => (k : Int)
theorem natsI_s (n : Nat) : natsI (n + 1) = natsI n ++ [(n : Int)] := by simp [natsI, List.range_succ]
theorem natsI_len (n : Nat) : (natsI n).length = n := by simp [natsI]
theorem natsI_at {n k : Nat} (h : k < n) : (natsI n).getD k default = (k : Int) := by simp [natsI, List.getD_eq_getElem?_getD, h]
def encI (x : Int) : List Value := [i64 x]
theorem encI_len (x : Int) : (encI x).length = 1 := rfl
attribute [local irreducible] fw fwR fwC emptyT tabOf knownT canB boundsL
set_option maxHeartbeats 4000000 in
theorem margin_v (T : Tab) (hT : T.length = 121) (hs : SmallT T) (c : Bool) (k d : Nat) (hk : k < 4) (hd : d < 6) : FnV Tryz.prog 88 [kV T c, i64 k, i64 d] [] (vS (marginT T k d)) := by
 refine FnV.intro Tryz.call88 Tryz.func88 rfl Tryz.ntmps88 rfl ?_; intro W M Rf; refine r_seq (r_region ?_); refine o_boxA rfl rfl rfl rfl rfl (fun b3 => ?_); refine o_alloc rfl inf43 rfl rfl rfl rfl rfl (fun b6 => ?_); refine o_nil (r_then (r_seq (r_region ?_))); refine o_q _ rfl rfl rfl (v_fieldAddr rfl Tryz.underlying156 inf154 rfl rfl rfl rfl) ?_; refine o_q _ rfl rfl rfl (v_ldN (us := T.map i64) rfl Tryz.underlying154 rfl inf154 rfl (kC_take hT c) (map_len hT)) ?_; refine q_mv rfl rfl rfl rfl rfl ?_; refine o_q _ rfl rfl rfl (v_add rfl rfl rfl (by omega)) ?_; refine q_mv rfl rfl rfl rfl rfl ?_; refine o_q _ rfl rfl rfl (v_add rfl rfl rfl (by omega)) ?_; refine o_q _ rfl rfl rfl (v_cast (v := vS (marginT T k d)) (OpQ.fn (tspan_v T hT (1 + k) (5 + d) (by omega) (by omega) (hs (5 + d) (by omega) (1 + k) (by omega))) rfl (by simp only [evs, ev, look]; push_cast; rfl) SubRC.sub) rfl) ?_; refine o_st rfl inf43 rfl rfl rfl rfl rfl rfl rfl rfl ?_; refine o_nil (r_then ?_); refine r_ret ?_; exact r_retv2 (Rd.one rfl (RdI.cellW Tryz.underlying43 rfl inf43 rfl rfl)) rfl SelMC.sel SubRC.sub
set_option maxHeartbeats 4000000 in
theorem upTo_r (n : Nat) (hn : n ≤ 1000) : FnR Tryz.prog 138 [i64 ((n : Int) - 1)] [] (isSl (natsI n).length) (fun v => [rowD (adr v) 1 encI (natsI n)]) := by
 refine FnR.intro Tryz.call138 Tryz.func138 rfl Tryz.ntmps138 rfl ?_; intro W M Rf; refine r_seq (r_region ?_); refine q_as rfl rfl rfl rfl rfl ?_; refine o_nil (r_then (r_seq ?_)); refine r_seq ?_; refine Imp.nilL 3 1 encI ?_; refine r_region ?_; refine q_mv rfl rfl rfl rfl rfl ?_; refine o_q _ rfl rfl rfl (v_add rfl rfl rfl (by omega)) ?_; refine q_mv rfl rfl rfl rfl rfl ?_; refine o_nil (r_then ?_); refine r_block ?_; refine r_loop (ι := Nat × Value) (fun gh => gh.1 ≤ n) (fun gh => [(0, i64 ((n : Int) - 1)), (2, gh.2), (5, i64 n), (6, i64 gh.1)]) (fun gh => ownL gh.2 3 1 encI (natsI gh.1) :: M) (fun gh => [] ++ Rf) (fun gh => n - gh.1) (0, .slice none 0 0) ?_ ?_ ?_
 ·
  refine Imp.own_to (.slice none 0 0) (natsI 0) rfl ?_; exact r_here (by repeat (first | exact FSub.nil | refine FSub.cons rfl ?_ | refine FSub.cons2 rfl (congrArg (Value.int .i64) (by omega)) ?_)) SelMC.sel SubRC.sub
 ·
  exact Nat.zero_le _
 ·
  rintro ⟨k, v⟩ hI0; dsimp only at hI0; dsimp only; have hlen := natsI_len k; refine r_seq (r_region ?_); refine o_q _ rfl rfl rfl (v_lss rfl rfl rfl) ?_; refine o_nil (r_then (r_seq ?_)); refine r_condd rfl (fun hc7 => ?_) (fun hc7 => ?_)
  ·
   refine r_skip (r_then ?_); refine r_seq (r_block ?_); refine r_seq (r_region ?_); refine q_mv rfl rfl rfl rfl rfl ?_; refine q_as rfl rfl rfl rfl rfl ?_; refine o_nil (r_then ?_); refine r_region ?_; refine q_mv rfl rfl rfl rfl rfl ?_; refine q_mv rfl rfl rfl rfl rfl ?_; refine o_lit rfl Tryz.underlying39 inf3 rfl rfl rfl rfl rfl rfl rfl rfl (by repeat (first | exact trivial | refine ⟨rfl, ?_⟩)) (by rfl) (fun b11 => ?_); refine o_app1 ((k : Int)) rfl Tryz.underlying39 inf3 rfl (by rfl) (by rfl) rfl rfl rfl rfl rfl (by rfl) (by rfl) (by rfl) (by first | omega | (constructor <;> first | omega | decide)) (fun v12 => ?_); refine q_as rfl rfl rfl rfl rfl ?_; refine o_nil ?_; refine r_in_normal ?_; refine r_then ?_; refine r_region ?_; refine o_q _ rfl rfl rfl (v_add rfl rfl rfl (by omega)) ?_; refine q_mv rfl rfl rfl rfl rfl ?_; refine o_nil (r_then ?_); exact r_next ((k + 1, v12)) (by refine Imp.own_to v12 (natsI (k + 1)) (natsI_s k).symm ?_; exact r_here (by repeat (first | exact FSub.nil | refine FSub.cons rfl ?_)) SelMC.sel SubRC.sub) (by first | omega | (show _ + 1 ≤ _; omega)) (by first | omega | (show _ - (_ + 1) < _ - _; omega))
  ·
   refine r_exit ?_; refine r_then_exit ?_; refine r_then_exit ?_; refine r_in_here ?_; refine r_then (r_seq (r_region ?_)); refine q_mv rfl rfl rfl rfl rfl ?_; refine q_as rfl rfl rfl rfl rfl ?_; refine o_nil (r_then ?_); refine r_ret ?_; obtain rfl : k = n := by omega
   refine Imp.settleL v encI_len (fun hsl => ?_); exact r_retr (Rd.tmp rfl rfl) hsl SelMC.sel SubRC.sub
set_option maxHeartbeats 4000000 in
theorem open1_v (s : Burst8.Span) : FnV Tryz.prog 134 [.agg #[i64 s.lo, i64 s.hi]] [] (.bool (decide (¬ RainOk s))) := by
 refine FnV.intro Tryz.call134 Tryz.func134 rfl Tryz.ntmps134 rfl ?_; intro W M Rf; refine r_seq (r_region ?_); refine o_boxA rfl rfl rfl rfl rfl (fun b1 => ?_); refine q_as rfl rfl rfl rfl rfl ?_; refine o_nil (r_then (r_seq (r_region ?_))); refine o_q _ rfl rfl rfl (v_ldW rfl Tryz.underlying43 rfl inf43 rfl rfl) ?_; refine o_test rfl rfl rfl (OpQ.fn (isSpan_v _ _ _ _) rfl rfl SubRC.sub) (fun h4 => ?_) (fun h4 => ?_)
 all_goals
  refine o_q _ rfl rfl rfl (v_not rfl rfl) ?_; refine q_as rfl rfl rfl rfl rfl ?_; refine o_nil (r_then ?_); refine r_ret ?_; exact r_retv2 (Rd.tmp rfl rfl) (congrArg Value.bool (by simp [RainOk, *])) SelMC.sel SubRC.sub
set_option maxHeartbeats 4000000 in
theorem spans_r (p : Burst8.Span → Prop) [DecidablePred p] (xs : List Burst8.Span) (oa : Option Addr) (c : Nat) (fv : FuncId) (caps : List Value) (Rs : List Fact) (hl : xs.length ≤ 1000) (hf : ∀ k, k < xs.length → FnV Tryz.prog fv (.agg #[i64 (xs.getD k default).lo, i64 (xs.getD k default).hi] :: caps) Rs (.bool (decide (p (xs.getD k default))))) : FnR Tryz.prog 159 [.slice oa xs.length c, .func (.func fv) #[] caps.toArray] (rowD oa 2 (encS) xs :: Rs) (fun v => (v = i64 (-1) ∧ ∀ j, j < xs.length → ¬ p (xs.getD j default)) ∨ ∃ k : Nat, v = i64 k ∧ k < xs.length ∧ p (xs.getD k default)) (fun _ => []) := by
 refine FnR.intro Tryz.call159 Tryz.func159 rfl Tryz.ntmps159 rfl ?_; intro W M Rf; refine r_seq (r_region ?_); refine q_as rfl rfl rfl rfl rfl ?_; refine o_nil (r_then (r_seq ?_)); refine r_seq (r_region ?_); refine q_mv rfl rfl rfl rfl rfl ?_; refine o_q _ rfl rfl rfl (v_len rfl rfl Tryz.underlying59 rfl) ?_; refine q_mv rfl rfl rfl rfl rfl ?_; refine o_nil (r_then ?_); refine r_block ?_; refine r_loop (ι := Nat) (fun k => k ≤ xs.length ∧ ∀ j, j < k → ¬ p (xs.getD j default)) (fun k => [(0, .slice oa xs.length c), (1, .func (.func fv) #[] caps.toArray), (7, i64 xs.length), (8, i64 k)]) (fun k => M) (fun k => (rowD oa 2 (encS) xs :: Rs) ++ Rf) (fun k => xs.length - k) 0 ?_ ?_ ?_
 ·
  exact r_here (by repeat (first | exact FSub.nil | refine FSub.cons rfl ?_)) SelMC.sel SubRC.sub
 ·
  exact ⟨by omega, fun j hj => absurd hj (by omega)⟩
 ·
  rintro k hI0; refine r_seq (r_region ?_); refine o_q _ rfl rfl rfl (v_lss rfl rfl rfl) ?_; refine o_nil (r_then (r_seq ?_)); refine r_condd rfl (fun hc9 => ?_) (fun hc9 => ?_)
  ·
   refine r_skip (r_then ?_); refine r_seq (r_block ?_); refine r_seq (r_region ?_); refine q_mv rfl rfl rfl rfl rfl ?_; refine q_as rfl rfl rfl rfl rfl ?_; refine o_nil (r_then (r_seq (r_region ?_))); (iterate 3 refine q_mv rfl rfl rfl rfl rfl ?_); refine o_q _ rfl rfl rfl (v_indexAddrSn rfl Tryz.underlying59 inf43 rfl rfl rfl (by omega) rfl) ?_; refine o_q _ rfl rfl rfl (v_loadEN rfl Tryz.underlying43 rfl inf43 rfl (by omega) rfl rfl rfl) ?_; refine o_test rfl rfl rfl (OpQ.call (hf k (by omega)) rfl [] caps rfl rfl rfl SubRC.sub) (fun h16 => ?_) (fun h16 => ?_)
   all_goals
    refine o_nil (r_then ?_); refine r_cond rfl (fun hc16 => ?_) (fun hc16 => ?_)
    ·
     first
     | (exfalso; revert hc16; decide)
     |
      skip
      refine r_seq (r_region ?_); refine q_mv rfl rfl rfl rfl rfl ?_; refine q_as rfl rfl rfl rfl rfl ?_; refine o_nil (r_then ?_); refine r_ret ?_; (with_reducible refine r_in_ret ?_; refine r_then_ret ?_; refine r_then_ret ?_; refine r_in_ret ?_; refine r_then_ret ?_); exact r_retr (Rd.tmp rfl rfl) (Or.inr ⟨k, rfl, by omega, by assumption⟩) SelMC.sel SubRC.sub
    ·
     first
     | (exfalso; revert hc16; decide)
     |
      skip
      refine r_skip ?_; refine r_in_normal ?_; refine r_then ?_; refine r_region ?_; refine o_q _ rfl rfl rfl (v_add rfl rfl rfl (by omega)) ?_; refine q_mv rfl rfl rfl rfl rfl ?_; refine o_nil (r_then ?_); refine r_next (k + 1) ?_ ?_ ?_
      ·
       exact r_here (by repeat (first | exact FSub.nil | refine FSub.cons rfl ?_)) SelMC.sel SubRC.sub
      ·
       exact ⟨by omega, all_step hI0.2 (by assumption)⟩
      ·
       omega
  ·
   refine r_exit ?_; refine r_then_exit ?_; refine r_then_exit ?_; refine r_in_here ?_; refine r_then (r_seq (r_region ?_)); refine q_as rfl rfl rfl rfl rfl ?_; refine o_nil (r_then ?_); refine r_ret ?_; exact r_retr (Rd.tmp rfl rfl) (Or.inl ⟨rfl, fun j hj => hI0.2 j (by omega)⟩) SelMC.sel SubRC.sub
set_option maxHeartbeats 4000000 in
theorem spans_c (p : Burst8.Span → Prop) [DecidablePred p] (xs : List Burst8.Span) (oa : Option Addr) (c : Nat) (fv : FuncId) (caps : List Value) (Rs : List Fact) (hl : xs.length ≤ 1000) (hf : ∀ k, k < xs.length → FnV Tryz.prog fv (.agg #[i64 (xs.getD k default).lo, i64 (xs.getD k default).hi] :: caps) Rs (.bool (decide (p (xs.getD k default))))) : FnV Tryz.prog 125 [.slice oa xs.length c, .func (.func fv) #[] caps.toArray] (rowD oa 2 (encS) xs :: Rs) (.bool (decide (∃ k, k < xs.length ∧ p (xs.getD k default)))) := by
 refine FnV.intro Tryz.call125 Tryz.func125 rfl Tryz.ntmps125 rfl ?_; intro W M Rf; refine r_seq (r_region ?_); refine q_as rfl rfl rfl rfl rfl ?_; refine o_nil (r_then (r_seq (r_region ?_))); refine q_mv rfl rfl rfl rfl rfl ?_; refine q_mv rfl rfl rfl rfl rfl ?_; refine o_fn (spans_r p xs oa c fv caps Rs hl hf) rfl rfl rfl rfl rfl SubRC.sub (fun v7 hv7 => ?_); obtain ⟨rfl, hn⟩ | ⟨k, rfl, hk, hp⟩ := hv7
 all_goals
  refine o_q _ rfl rfl rfl (v_geq rfl rfl rfl) ?_; refine q_as rfl rfl rfl rfl rfl ?_; refine o_nil (r_then ?_); refine r_ret ?_
  first
  | exact r_retv2 (Rd.tmp rfl rfl) (congrArg Value.bool ((decide_eq_false (by omega)).trans (decide_eq_false (fun ⟨k, hk, hp⟩ => hn k hk hp)).symm)) SelMC.sel SubRC.sub
  | exact r_retv2 (Rd.tmp rfl rfl) (congrArg Value.bool ((decide_eq_true (by omega)).trans (decide_eq_true ⟨k, hk, hp⟩).symm)) SelMC.sel SubRC.sub
set_option maxHeartbeats 4000000 in
theorem least_v (f : Nat → Int) (N : Nat) (hN : N ≤ 1000) (oa : Option Addr) (cc : Nat) (fv : FuncId) (caps : List Value) (Rs : List Fact) (hf : ∀ k, k < N → FnV Tryz.prog fv (i64 (k : Int) :: caps) Rs (i64 (f k))) : FnV Tryz.prog 137 [.slice oa (natsI N).length cc, .agg #[.func (.func fv) #[] caps.toArray]] (rowD oa 1 encI (natsI N) :: Rs) (.tuple #[i64 (leastN f N).1, i64 (leastN f N).2]) := by
 refine FnV.intro Tryz.call137 Tryz.func137 rfl Tryz.ntmps137 rfl ?_; intro W M Rf; refine r_seq (r_region ?_); refine o_boxA rfl rfl rfl rfl rfl (fun b3 => ?_); refine q_as rfl rfl rfl rfl rfl ?_; refine q_as rfl rfl rfl rfl rfl ?_; refine o_nil (r_then (r_seq ?_)); refine r_seq ?_; have hnl := natsI_len N; refine r_region ?_; refine q_mv rfl rfl rfl rfl rfl ?_; refine o_q _ rfl rfl rfl (v_len rfl rfl Tryz.underlying39 rfl) ?_; refine q_mv rfl rfl rfl rfl rfl ?_; refine o_nil (r_then ?_); refine r_block ?_; refine r_loop (ι := Nat) (fun k => k ≤ N) (fun k => [(3, pt b3 0), (4, i64 (leastN f k).1), (5, i64 (leastN f k).2), (9, .slice oa (natsI N).length cc), (10, i64 (natsI N).length), (11, i64 k)]) (fun k => bx b3 237 [.func (.func fv) #[] caps.toArray] :: M) (fun k => (rowD oa 1 encI (natsI N) :: Rs) ++ Rf) (fun k => N - k) 0 ?_ ?_ ?_
 ·
  exact r_here (by repeat (first | exact FSub.nil | refine FSub.cons rfl ?_)) SelMC.sel SubRC.sub
 ·
  omega
 ·
  rintro k hI0; have hnl := natsI_len N; refine r_seq (r_region ?_); refine o_q _ rfl rfl rfl (v_lss rfl rfl rfl) ?_; refine o_nil (r_then (r_seq ?_)); refine r_condd rfl (fun hc12 => ?_) (fun hc12 => ?_)
  ·
   refine r_skip (r_then ?_); refine r_seq (r_block ?_); refine r_seq (r_region ?_); refine q_mv rfl rfl rfl rfl rfl ?_; refine o_q _ rfl rfl rfl (v_indexAddrSn rfl Tryz.underlying39 inf3 rfl rfl rfl (by rw [natsI_len]; omega) rfl) ?_; refine o_q _ rfl rfl rfl (v_cast (v := i64 (k : Int)) (v_loadE1 rfl Tryz.underlying3 rfl rfl (by rw [natsI_len]; omega) rfl rfl) (by rw [natsI_at (by omega)])) ?_; refine q_as rfl rfl rfl rfl rfl ?_; refine q_as rfl rfl rfl rfl rfl ?_; refine o_nil (r_then (r_seq (r_region ?_))); refine o_q _ rfl rfl rfl (v_fieldAddr rfl Tryz.underlying237 inf76 rfl rfl rfl rfl) ?_; refine o_q _ rfl rfl rfl (v_ld1 rfl Tryz.underlying76 rfl rfl rfl) ?_; refine q_mv rfl rfl rfl rfl rfl ?_; refine o_q _ rfl rfl rfl (OpQ.call (hf k (by omega)) rfl [] caps rfl rfl rfl SubRC.sub) ?_; refine q_as rfl rfl rfl rfl rfl ?_; refine o_nil (r_then (r_seq (r_region ?_))); refine q_mv rfl rfl rfl rfl rfl ?_; refine o_test rfl rfl rfl (v_eql rfl rfl rfl) (fun h21 => ?_) (fun h21 => ?_)
   all_goals
    refine q_mv rfl rfl rfl rfl rfl ?_
    first | refine o_gn rfl rfl rfl rfl ?_ | refine o_g _ rfl rfl rfl rfl (v_move rfl rfl) ?_
    first | refine o_gn rfl rfl rfl rfl ?_ | refine o_g _ rfl rfl rfl rfl (v_move rfl rfl) ?_
    first | refine o_gn rfl rfl rfl rfl ?_ | refine o_gtest rfl rfl rfl rfl (v_lss rfl rfl rfl) (fun h25 => ?_) (fun h25 => ?_)
    all_goals
     first | refine o_q _ rfl rfl rfl (v_pick_t rfl rfl rfl) ?_ | refine o_q _ rfl rfl rfl (v_pick_f rfl rfl rfl) ?_
     refine o_nil (r_then ?_); refine r_cond rfl (fun hc26 => ?_) (fun hc26 => ?_)
     ·
      first
      | (exfalso; revert hc26; decide)
      |
       skip
       refine r_region ?_; refine q_mv rfl rfl rfl rfl rfl ?_; refine q_mv rfl rfl rfl rfl rfl ?_; refine q_as rfl rfl rfl rfl rfl ?_; refine q_as rfl rfl rfl rfl rfl ?_; refine o_nil ?_; refine r_in_normal ?_; refine r_then ?_; refine r_region ?_; refine o_q _ rfl rfl rfl (v_add rfl rfl rfl (by omega)) ?_; refine q_mv rfl rfl rfl rfl rfl ?_; refine o_nil (r_then ?_); refine r_next (k + 1) ?_ ?_ ?_
       ·
        (exact r_here (by repeat (first | exact FSub.nil | refine FSub.cons rfl ?_ | refine FSub.cons2 rfl (congrArg (Value.int .i64) (by first | rw [leastN_y (Or.inl (by omega))] | rw [leastN_y (Or.inr (by omega))] | (rw [leastN_n (by omega)]) | omega)) ?_)) SelMC.sel SubRC.sub)
       ·
        omega
       ·
        omega
     ·
      first
      | (exfalso; revert hc26; decide)
      |
       skip
       refine r_skip ?_; refine r_in_normal ?_; refine r_then ?_; refine r_region ?_; refine o_q _ rfl rfl rfl (v_add rfl rfl rfl (by omega)) ?_; refine q_mv rfl rfl rfl rfl rfl ?_; refine o_nil (r_then ?_); refine r_next (k + 1) ?_ ?_ ?_
       ·
        (exact r_here (by repeat (first | exact FSub.nil | refine FSub.cons rfl ?_ | refine FSub.cons2 rfl (congrArg (Value.int .i64) (by first | rw [leastN_y (Or.inl (by omega))] | rw [leastN_y (Or.inr (by omega))] | (rw [leastN_n (by omega)]) | omega)) ?_)) SelMC.sel SubRC.sub)
       ·
        omega
       ·
        omega
  ·
   refine r_exit ?_; refine r_then_exit ?_; refine r_then_exit ?_; refine r_in_here ?_; refine r_then (r_seq (r_region ?_)); refine q_mv rfl rfl rfl rfl rfl ?_; refine q_mv rfl rfl rfl rfl rfl ?_; refine q_as rfl rfl rfl rfl rfl ?_; refine q_as rfl rfl rfl rfl rfl ?_; refine o_nil (r_then ?_); refine r_ret ?_; obtain rfl : k = N := by omega
   exact r_retv2 (Rd.two rfl (RdI.tmp rfl) (RdI.tmp rfl)) rfl SelMC.sel SubRC.sub
end Go.Proofs.YtpndeonmmcaikaaGreat.BurstW

namespace Go.Proofs.YtpndeonmmcaikaaGreat.BurstW
open Go.G Burst8
set_option maxRecDepth 1000000
attribute [local irreducible] G.ParO G.Fin
theorem FnS.intro1 {P : Program} {n : Nat} {r : Res} {k : FuncId} {args : List Value} {R0 : List Fact} {Post : Ending → List Res → List Fact → Prop} {fn : Func} {c : Code} (he : ∀ (ag : Array Value) (w : World), (callFunc k ag).run P w = .ok (.enter k ag) w)
    (hf : P.funcs[k]? = some fn) (hb : fn.body = some c) (hn : fn.ntmps = n) (ha : Nat.ble args.length n = true)
    (h : ∀ W Mf Rf, Imp W n [] (argsL args 0) (r :: Mf) (R0 ++ Rf) (c.wp P (bodyPost P fn (RetE W Mf (R0 ++ Rf) Post)))) : FnS P k args [r] R0 Post := FnS.intro he hf hb hn ha h
theorem upTo_d (d : Nat) (hd : d < 999) : FnR Tryz.prog 138 [i64 (d : Int)] [] (isSl (natsI (d + 1)).length) (fun v => [rowD (adr v) 1 encI (natsI (d + 1))]) := by
  have h := upTo_r (d + 1) (by omega)
  rw [show ((d + 1 : Nat) : Int) - 1 = (d : Int) from by omega] at h
  exact h
theorem encG_len (x : Sign) : (encG x).length = 3 := rfl
theorem Imp.run {W : World} {M : List Res} {R : List Fact} {Z : World → Prop} {w : World} (h : Imp W 0 [] [] M R (fun _ w => Z w)) (hw : St W M R w) : Z w := h _ w (FSat.entry (args := []) (n := 0) (Nat.zero_le _)) rfl hw
attribute [local irreducible] fw fwR fwC emptyT tabOf knownT canB boundsL
set_option maxHeartbeats 4000000 in
theorem worst1_v (T : Tab) (hT : T.length = 121) (hs : SmallT T) (c : Bool) (c1 c2 : Nat) (k d : Nat) (hk : k < 4) (hd : d < 6) : FnV Tryz.prog 139 [i64 d, pt c1 0, pt c2 0] [boxF c1 156 (kC T c), boxF c2 3 [i64 k]] (i64 (marginT T k d).lo) := by
 refine FnV.intro Tryz.call139 Tryz.func139 rfl Tryz.ntmps139 rfl ?_; intro W M Rf; refine r_seq (r_region ?_); refine q_as rfl rfl rfl rfl rfl ?_; refine o_nil (r_then (r_seq (r_region ?_))); refine o_q _ rfl rfl rfl (v_lfW rfl Tryz.underlying156 rfl inf156 rfl (kC_len hT c)) ?_; refine o_q _ rfl rfl rfl (v_lf1 rfl Tryz.underlying3 rfl rfl rfl) ?_; refine q_mv rfl rfl rfl rfl rfl ?_; refine o_q _ rfl rfl rfl (OpQ.fn (margin_v T hT hs c k d hk hd) rfl rfl SubRC.sub) ?_; refine o_q _ rfl rfl rfl (v_field rfl Tryz.underlying43 Tryz.underlying3 inf3 rfl rfl rfl rfl) ?_; refine q_as rfl rfl rfl rfl rfl ?_; refine o_nil (r_then ?_); refine r_ret ?_; exact r_retv2 (Rd.tmp rfl rfl) rfl SelMC.sel SubRC.sub
set_option maxHeartbeats 4000000 in
theorem worst_v (T : Tab) (hT : T.length = 121) (hs : SmallT T) (c : Bool) (k d : Nat) (hk : k < 4) (hd : d < 6) : FnV Tryz.prog 82 [kV T c, i64 k, i64 d] [] (i64 (worstT T k d)) := by
 refine FnV.intro Tryz.call82 Tryz.func82 rfl Tryz.ntmps82 rfl ?_; intro W M Rf; refine r_seq (r_region ?_); refine o_boxA rfl rfl rfl rfl rfl (fun b3 => ?_); refine o_box1 rfl rfl rfl rfl rfl rfl (fun b4 => ?_); refine q_as rfl rfl rfl rfl rfl ?_; refine o_nil (r_then (r_seq ?_)); refine Imp.sealB b3 ?_; refine Imp.sealB b4 ?_; refine r_region ?_; refine q_mv rfl rfl rfl rfl rfl ?_; refine o_fns (upTo_d d (by omega)) rfl rfl rfl rfl rfl SubRC.sub (fun oa11 cp11 => ?_); refine o_q _ rfl rfl rfl (v_makeFunc rfl rfl rfl) ?_; refine o_q _ rfl rfl rfl (v_bS rfl Tryz.underlying237 inf237 plt237 rfl rfl rfl (by repeat (first | exact trivial | refine ⟨rfl, ?_⟩)) (by rfl)) ?_; refine o_q _ rfl rfl rfl (OpQ.fn (least_v (fun j => (marginT T k j).lo) (d + 1) (by omega) oa11 cp11 139 [pt b3 0, pt b4 0] [boxF b3 156 (kC T c), boxF b4 3 [i64 k]] (fun j hj => worst1_v T hT hs c b3 b4 k j hk (by omega))) rfl rfl SubRC.sub) ?_; refine q_mv rfl rfl rfl rfl rfl ?_; refine o_q _ rfl rfl rfl (v_extract rfl rfl rfl) ?_; refine o_q _ rfl rfl rfl (v_extract rfl rfl rfl) ?_; refine q_as rfl rfl rfl rfl rfl ?_; refine q_as rfl rfl rfl rfl rfl ?_; refine o_nil (r_then (r_seq (r_region ?_))); refine q_mv rfl rfl rfl rfl rfl ?_; refine q_as rfl rfl rfl rfl rfl ?_; refine o_nil (r_then ?_); refine r_ret ?_; exact r_retv2 (Rd.tmp rfl rfl) rfl SelMC.sel SubRC.sub
set_option maxHeartbeats 4000000 in
theorem first1_v (T : Tab) (hT : T.length = 121) (hs : SmallT T) (c : Bool) (c1 c2 : Nat) (k d : Nat) (hk : k < 4) (hd : d < 6) : FnV Tryz.prog 140 [i64 k, pt c1 0, pt c2 0] [boxF c1 156 (kC T c), boxF c2 3 [i64 d]] (i64 (worstT T k d)) := by
 refine FnV.intro Tryz.call140 Tryz.func140 rfl Tryz.ntmps140 rfl ?_; intro W M Rf; refine r_seq (r_region ?_); refine q_as rfl rfl rfl rfl rfl ?_; refine o_nil (r_then (r_seq (r_region ?_))); refine o_q _ rfl rfl rfl (v_lfW rfl Tryz.underlying156 rfl inf156 rfl (kC_len hT c)) ?_; refine q_mv rfl rfl rfl rfl rfl ?_; refine o_q _ rfl rfl rfl (v_lf1 rfl Tryz.underlying3 rfl rfl rfl) ?_; refine o_q _ rfl rfl rfl (OpQ.fn (worst_v T hT hs c k d hk hd) rfl rfl SubRC.sub) ?_; refine q_as rfl rfl rfl rfl rfl ?_; refine o_nil (r_then ?_); refine r_ret ?_; exact r_retv2 (Rd.tmp rfl rfl) rfl SelMC.sel SubRC.sub
set_option maxHeartbeats 4000000 in
theorem first_v (T : Tab) (hT : T.length = 121) (hs : SmallT T) (c : Bool) (nb d : Nat) (hn : nb ≤ 4) (hd : d < 6) : FnV Tryz.prog 85 [kV T c, i64 nb, i64 d] [] (.tuple #[i64 (firstT T nb d).1, i64 (firstT T nb d).2]) := by
 refine FnV.intro Tryz.call85 Tryz.func85 rfl Tryz.ntmps85 rfl ?_; intro W M Rf; refine r_seq (r_region ?_); refine o_boxA rfl rfl rfl rfl rfl (fun b3 => ?_); refine o_box1 rfl rfl rfl rfl rfl rfl (fun b5 => ?_); refine q_as rfl rfl rfl rfl rfl ?_; refine q_as rfl rfl rfl rfl rfl ?_; refine o_nil (r_then (r_seq ?_)); refine Imp.sealB b3 ?_; refine Imp.sealB b5 ?_; refine r_region ?_; refine q_mv rfl rfl rfl rfl rfl ?_; refine o_q _ rfl rfl rfl (v_sub rfl rfl rfl (by omega)) ?_; refine o_fns (upTo_r nb (by omega)) rfl rfl rfl rfl rfl SubRC.sub (fun oa10 cp10 => ?_); refine o_q _ rfl rfl rfl (v_makeFunc rfl rfl rfl) ?_; refine o_q _ rfl rfl rfl (v_bS rfl Tryz.underlying237 inf237 plt237 rfl rfl rfl (by repeat (first | exact trivial | refine ⟨rfl, ?_⟩)) (by rfl)) ?_; refine o_q _ rfl rfl rfl (OpQ.fn (least_v (fun k => worstT T k d) nb (by omega) oa10 cp10 140 [pt b3 0, pt b5 0] [boxF b3 156 (kC T c), boxF b5 3 [i64 d]] (fun k hk => first1_v T hT hs c b3 b5 k d (by omega) hd)) rfl rfl SubRC.sub) ?_; refine o_q _ rfl rfl rfl (v_extract rfl rfl rfl) ?_; refine o_q _ rfl rfl rfl (v_extract rfl rfl rfl) ?_; refine q_as rfl rfl rfl rfl rfl ?_; refine q_as rfl rfl rfl rfl rfl ?_; refine o_nil (r_then ?_); refine r_ret ?_; exact r_retv2 (Rd.two rfl (RdI.tmp rfl) (RdI.tmp rfl)) rfl SelMC.sel SubRC.sub
variable (B : Bog) (bo ro so : Option Addr) (bc rc sc : Nat) (bb mb : Nat)
abbrev allS (B : Bog) : Nat := 2 ^ B.signs.length - 1
theorem allS_lt {B : Bog} (hg : GoodB B) : allS B < 2 ^ 62 := by
  have h := Nat.pow_le_pow_right (show 0 < 2 by decide) (show B.signs.length ≤ 5 by have := hg.ns; omega)
  unfold allS; omega
set_option maxHeartbeats 4000000 in
theorem told_m (hg : GoodB B) (hc : canB B (allS B) 0 false = true) : FnM Tryz.prog 81 [pt bb 0] (memo Tryz.prog 233 (okB B) mb) [boxF bb 230 [.slice bo B.banks.length bc, i64 B.wlo, i64 B.whi, .slice ro B.rain.length rc, i64 B.drain, .slice so B.signs.length sc, .map (some mb)], rowD bo 4 encB B.banks, rowD ro 2 encS B.rain, rowD so 3 encG B.signs] (fun u => u = knownV B (allS B) 0 false) := by
 refine FnM.intro Tryz.call81 Tryz.func81 rfl Tryz.ntmps81 rfl ?_; intro W M Rf; refine r_seq (r_region ?_); refine o_alloc (zs := zeroK) rfl inf156 rfl (by kernel_rfl) rfl rfl rfl (fun b2 => ?_); refine o_nil (r_then (r_seq (r_region ?_))); refine q_mv rfl rfl rfl rfl rfl ?_; refine q_mv rfl rfl rfl rfl rfl ?_; refine o_q _ rfl rfl rfl (OpQ.fn (every_v B bo ro so bc rc sc bb mb (by have := hg.ns; omega)) rfl rfl SubRC.sub) ?_; refine o_q _ rfl rfl rfl (v_bSp (us := [u64 (allS B), i64 0, .bool false]) rfl Tryz.underlying233 inf233 plt233 rfl rfl rfl (by repeat (first | exact trivial | refine ⟨rfl, ?_⟩)) (by show 1 ≤ 3; decide) rfl) ?_; refine o_q _ rfl rfl rfl (OpQ.fnm (known_m B bo ro so bc rc sc bb mb (allS B) 0 false hg (allS_lt hg) (by omega)) rfl [] [] rfl rfl rfl SubRC.sub) ?_; refine o_alloc (zs := zeroK) rfl inf156 rfl (by kernel_rfl) rfl rfl rfl (fun b3 => ?_); refine o_st (us := kC (knownT B (allS B) 0 false) (canB B (allS B) 0 false)) rfl inf156 rfl rfl rfl rfl rfl (kC_len (knownT_len _ _ _ _) _) (kC_one _ _) (Nat.ble_eq_true_of_le (by rw [kC_len (knownT_len _ _ _ _), zeroK_len]; decide)) ?_; refine o_nil (r_then (r_seq ?_)); refine Imp.box_to b3 (kC (knownT B (allS B) 0 false) (canB B (allS B) 0 false)) (splice_all (by rw [kC_len (knownT_len _ _ _ _), zeroK_len])) ?_; refine r_region ?_; refine o_q _ rfl rfl rfl (v_fieldAddr rfl Tryz.underlying156 inf4 rfl rfl rfl rfl) ?_; refine o_q _ rfl rfl rfl (v_cast (v := .bool true) (v_ld1 rfl Tryz.underlying4 rfl rfl (kC_121 (knownT_len _ _ _ _) _)) (by rw [hc])) ?_; refine o_q _ rfl rfl rfl (OpQ.fn (ask_t _) rfl rfl SubRC.sub) ?_; refine o_nil (r_then (r_seq (r_region ?_))); refine o_q _ rfl rfl rfl (v_ldW rfl Tryz.underlying156 rfl inf156 rfl (kC_len (knownT_len _ _ _ _) _)) ?_; refine o_st (us := kC (knownT B (allS B) 0 false) (canB B (allS B) 0 false)) rfl inf156 rfl rfl rfl rfl rfl (kC_len (knownT_len _ _ _ _) _) (kC_one _ _) (Nat.ble_eq_true_of_le (by rw [kC_len (knownT_len _ _ _ _), zeroK_len]; decide)) ?_; refine o_nil (r_then ?_); refine r_ret ?_; refine Imp.box_to b2 (kC (knownT B (allS B) 0 false) (canB B (allS B) 0 false)) (splice_all (by rw [kC_len (knownT_len _ _ _ _), zeroK_len])) ?_; exact r_retm (Rd.one rfl (RdI.cellW Tryz.underlying156 rfl inf156 rfl (kC_len (knownT_len _ _ _ _) _))) rfl SelMC.sel SubRC.sub
set_option maxHeartbeats 4000000 in
theorem told_x (hg : GoodB B) (hc : canB B (allS B) 0 false = false) : FnS Tryz.prog 81 [pt bb 0] [memo Tryz.prog 233 (okB B) mb] [boxF bb 230 [.slice bo B.banks.length bc, i64 B.wlo, i64 B.whi, .slice ro B.rain.length rc, i64 B.drain, .slice so B.signs.length sc, .map (some mb)], rowD bo 4 encB B.banks, rowD ro 2 encS B.rain, rowD so 3 encG B.signs] (fun e M' R' => e = .panicked (panOf (.iface 226 (i64 10))) ∧ M' = [memo Tryz.prog 233 (okB B) mb] ∧ R' = []) := by
 refine FnS.intro1 Tryz.call81 Tryz.func81 rfl Tryz.ntmps81 rfl ?_; intro W M Rf; refine r_seq (r_region ?_); refine o_alloc (zs := zeroK) rfl inf156 rfl (by kernel_rfl) rfl rfl rfl (fun b2 => ?_); refine o_nil (r_then (r_seq (r_region ?_))); refine q_mv rfl rfl rfl rfl rfl ?_; refine q_mv rfl rfl rfl rfl rfl ?_; refine o_q _ rfl rfl rfl (OpQ.fn (every_v B bo ro so bc rc sc bb mb (by have := hg.ns; omega)) rfl rfl SubRC.sub) ?_; refine o_q _ rfl rfl rfl (v_bSp (us := [u64 (allS B), i64 0, .bool false]) rfl Tryz.underlying233 inf233 plt233 rfl rfl rfl (by repeat (first | exact trivial | refine ⟨rfl, ?_⟩)) (by show 1 ≤ 3; decide) rfl) ?_; refine o_q _ rfl rfl rfl (OpQ.fnm (known_m B bo ro so bc rc sc bb mb (allS B) 0 false hg (allS_lt hg) (by omega)) rfl [] [] rfl rfl rfl SubRC.sub) ?_; refine o_alloc (zs := zeroK) rfl inf156 rfl (by kernel_rfl) rfl rfl rfl (fun b3 => ?_); refine o_st (us := kC (knownT B (allS B) 0 false) (canB B (allS B) 0 false)) rfl inf156 rfl rfl rfl rfl rfl (kC_len (knownT_len _ _ _ _) _) (kC_one _ _) (Nat.ble_eq_true_of_le (by rw [kC_len (knownT_len _ _ _ _), zeroK_len]; decide)) ?_; refine o_nil (r_then (r_seq ?_)); refine Imp.box_to b3 (kC (knownT B (allS B) 0 false) (canB B (allS B) 0 false)) (splice_all (by rw [kC_len (knownT_len _ _ _ _), zeroK_len])) ?_; refine r_region ?_; refine o_q _ rfl rfl rfl (v_fieldAddr rfl Tryz.underlying156 inf4 rfl rfl rfl rfl) ?_; refine o_q _ rfl rfl rfl (v_cast (v := .bool false) (v_ld1 rfl Tryz.underlying4 rfl rfl (kC_121 (knownT_len _ _ _ _) _)) (by rw [hc])) ?_; refine o_fnx (ask_f _) rfl rfl rfl SubRC.sub ?_; (with_reducible refine r_then_panic ?_); try (exact r_panice [memo Tryz.prog 233 (okB B) mb] [] ⟨rfl, rfl, rfl⟩ SelMC.sel SubRC.sub)
 all_goals
  refine o_nil ?_; repeat (first | with_reducible refine r_then ?_ | with_reducible refine r_in_normal ?_ | with_reducible refine r_sc_normal ?_); refine r_seq (r_region ?_); refine o_q _ rfl rfl rfl (v_ldW rfl Tryz.underlying156 rfl inf156 rfl (kC_len (knownT_len _ _ _ _) _)) ?_; refine o_st (us := kC (knownT B (allS B) 0 false) (canB B (allS B) 0 false)) rfl inf156 rfl rfl rfl rfl rfl (kC_len (knownT_len _ _ _ _) _) (kC_one _ _) (Nat.ble_eq_true_of_le (by rw [kC_len (knownT_len _ _ _ _), zeroK_len]; decide)) ?_; refine o_nil ?_; repeat (first | with_reducible refine r_then ?_ | with_reducible refine r_in_normal ?_ | with_reducible refine r_sc_normal ?_); refine r_ret ?_; repeat (first | with_reducible refine r_then_ret ?_ | with_reducible refine r_in_ret ?_ | with_reducible refine r_sc_ret ?_)
  skip
def openR (B : Bog) (bo ro : Option Addr) (bc rc : Nat) (bb : Nat) : Res := exR fun x : Nat × Option Addr × Nat => [memo Tryz.prog 233 (okB B) x.1, bx bb 230 [.slice bo B.banks.length bc, i64 B.wlo, i64 B.whi, .slice ro B.rain.length rc, i64 B.drain, .slice x.2.1 B.signs.length x.2.2, .map (some x.1)], ownL (.slice x.2.1 B.signs.length x.2.2) 142 3 encG B.signs]
theorem opened {B : Bog} {bo ro : Option Addr} {bc rc bb : Nat} {W : World} {n : Nat} {D : List Deferred} {L : Tm} {M M' : List Res} {R : List Fact} {X : Act → World → Prop} [hM : DelC M (openR B bo ro bc rc bb) M']
    (h : ∀ mb so sc, Imp W n D L (memo Tryz.prog 233 (okB B) mb :: M') (rowD so 3 encG B.signs :: boxF bb 230 [.slice bo B.banks.length bc, i64 B.wlo, i64 B.whi, .slice ro B.rain.length rc, i64 B.drain, .slice so B.signs.length sc, .map (some mb)] :: R) X) : Imp W n D L M R X := by
  have h2 : Imp W n D L (openR B bo ro bc rc bb :: M') R X := by
    refine Imp.unpk (fun x => ?_)
    obtain ⟨mb, so, sc⟩ := x
    show Imp W n D L (memo Tryz.prog 233 (okB B) mb :: bx bb 230 [.slice bo B.banks.length bc, i64 B.wlo, i64 B.whi, .slice ro B.rain.length rc, i64 B.drain, .slice so B.signs.length sc, .map (some mb)] :: ownL (.slice so B.signs.length sc) 142 3 encG B.signs :: M') R X
    refine Imp.sealB bb ?_
    refine Imp.settleL (.slice so B.signs.length sc) encG_len (fun _ => ?_)
    exact h mb so sc
  exact fun a w h1 h3 h4 => h2 a w h1 h3 (h4.perm hM.del.perm)
theorem told_c (hg : GoodB B) (hc : canB B (allS B) 0 false = true) (b : Nat) : FnS Tryz.prog 81 [pt b 0] [openR B bo ro bc rc b] [rowD bo 4 encB B.banks, rowD ro 2 encS B.rain] (fun e M' R' => e = .returned (knownV B (allS B) 0 false) ∧ M' = [] ∧ R' = []) := by
  refine ⟨Tryz.call81, fun W M Rf w hw => Imp.run (Z := fun w => Calls Tryz.prog 81 #[pt b 0] w _) ?_ hw⟩
  show Imp W 0 [] [] (openR B bo ro bc rc b :: M) _ _
  refine opened (B := B) (bo := bo) (ro := ro) (bc := bc) (rc := rc) (bb := b) (fun mb so sc => ?_)
  intro a w' _ _ h
  refine ((told_m B bo ro so bc rc sc b mb hg hc).use SubRC.sub Del.here h).mono ?_
  rintro e w2 ⟨v, rfl, rfl, h5⟩
  exact ⟨[], [], ⟨rfl, rfl, rfl⟩, (h5.sel SelMC.sel).weak (fun φ hφ => List.mem_cons_of_mem _ (List.mem_cons_of_mem _ hφ))⟩
theorem told_cx (hg : GoodB B) (hc : canB B (allS B) 0 false = false) (b : Nat) : FnS Tryz.prog 81 [pt b 0] [openR B bo ro bc rc b] [rowD bo 4 encB B.banks, rowD ro 2 encS B.rain] (fun e M' R' => e = .panicked (panOf (.iface 226 (i64 10))) ∧ M' = [] ∧ R' = []) := by
  refine ⟨Tryz.call81, fun W M Rf w hw => Imp.run (Z := fun w => Calls Tryz.prog 81 #[pt b 0] w _) ?_ hw⟩
  show Imp W 0 [] [] (openR B bo ro bc rc b :: M) _ _
  refine opened (B := B) (bo := bo) (ro := ro) (bc := bc) (rc := rc) (bb := b) (fun mb so sc => ?_)
  intro a w' _ _ h
  refine ((told_x B bo ro so bc rc sc b mb hg hc).calls W M _ w' (h.both SubRC.sub)).mono ?_
  rintro e w2 ⟨M1, R1, ⟨rfl, rfl, rfl⟩, h5⟩
  have h6 : St W (memo Tryz.prog 233 (okB B) mb :: M) _ w2 := h5
  exact ⟨[], [], ⟨rfl, rfl, rfl⟩, h6.drop.weak (fun φ hφ => List.mem_append_right _ (List.mem_append_right _ (List.mem_cons_of_mem _ (List.mem_cons_of_mem _ hφ))))⟩
end Go.Proofs.YtpndeonmmcaikaaGreat.BurstW

set_option linter.unusedVariables false
namespace Go.G
variable {P : Program} {W : World} {n : Nat} {D : List Deferred} {L : Tm} {M : List Res} {R : List Fact} {Q : Exit → Act → World → Prop} {o : Oper}
section
variable {α : Type} {enc : α → List Value} {sz : Nat} {T : TypeId} {xs : List α} {M' : List Res} {oa : Option Addr} {cap : Nat}
theorem St.rowO {w : World} (h : St W M R w) (hd : Del M (ownL (.slice oa xs.length cap) T sz enc xs) M') (henc : ∀ x, (enc x).length = sz) (hne : 0 < xs.length) : ∃ b off, oa = some ⟨b, off, none⟩ ∧ ∀ (i j : Nat) (h : i < xs.length), j < sz → w.cell? ⟨b, off + i * sz + j, none⟩ = (enc xs[i])[j]? := by
  have h4 : St W (ownL (.slice oa xs.length cap) T sz enc xs :: M') R w := h.perm hd.perm
  obtain ⟨s, ⟨_, hcase⟩, hO⟩ := h4.res (Upd.of_mem (List.mem_cons_self ..))
  rcases hcase with ⟨_, h0, _⟩ | ⟨b, cap', C, he, hmc, _, hC, htake, rfl⟩
  · omega
  · have ea : oa = some ⟨b, 0, none⟩ := by cases he; rfl
    refine ⟨b, 0, ea, fun i j hi hj => ?_⟩
    have hb : w.heap[b]? = some (.cells C T (0, 0)) := hO.at_ (b, .cells C T (0, 0)) (by simp)
    rw [cell_of_row w b _ C T (0, 0) hb, ← flat_at henc xs i j hi hj, ← htake, List.getElem?_take, if_pos]
    · simp
    · have : (i + 1) * sz ≤ xs.length * sz := Nat.mul_le_mul_right _ (by omega)
      rw [Nat.add_mul] at this; omega
theorem v_indexAddrO {t : TypeId} {x ix : Operand} {l : Nat} {i : TypeInfo} {e : TypeId} {k : Nat} {kd : IntKind} [hM : HasOwn (.slice oa l cap) M T sz enc xs M'] (henc : ∀ x, (enc x).length = sz) (ho : o.op = .indexAddr t x ix) (hT : P.underlying t = some (.slice e)) (hi : P.info? e = some i)
    (hx : ev L x = some (.slice oa l cap)) (hk : ev L ix = some (.int kd (k : Int))) (hsz : i.size = sz) (h1 : k < l) (hl : l = xs.length) : OpQ P W n L M R o (pe oa k sz 0) :=
  OpQ.of_value fun g w g1 g2 => by
    subst hl hsz
    obtain ⟨b, off, rfl, _⟩ := g2.rowO hM.del henc (by omega)
    have h0 : (0 : Int) ≤ (k : Int) := by omega
    have h1' : (k : Int) < (xs.length : Int) := by omega
    simp [execOp, ho, g1.ev hx, g1.ev hk, Instr.indexAt, run_underlying hT, asIntOf, h0, h1', run_sizeOf' hi, add_at, pe, h1]
theorem v_loadEO [Inhabited α] {t : TypeId} {x : Operand} {a j0 l : Nat} {us : List Value} {d : TypeDesc} {i : TypeInfo} [hM : HasOwn (.slice oa l cap) M T sz enc xs M'] (henc : ∀ x, (enc x).length = sz) (ho : o.op = .load t x) (hT : P.underlying t = some d) (hd : aggD d = true) (hi : P.info? t = some i)
    (hx : ev L x = some (pe oa a sz j0)) (hl' : l = xs.length) (ha : a < xs.length) (hj : Nat.ble (j0 + i.size) sz = true) (hu : ((enc (xs.getD a default)).drop j0).take i.size = us) (hl : us.length = i.size) : OpQ P W n L M R o (.agg us.toArray) :=
  OpQ.of_value fun f w h1 h2 => by
    subst hl'
    obtain ⟨b, off, rfl, hc⟩ := h2.rowO hM.del henc (by omega)
    have hj' : j0 + i.size ≤ sz := by simpa using hj
    rw [show xs.getD a default = xs[a] from by simp [List.getD, ha]] at hu
    have hagg := run_isAgg' (w := w) hT
    rw [hd] at hagg
    have hlc : (loadCells ⟨b, off + a * sz + j0, none⟩ i.size).run P w = .ok us.toArray w := by
      rw [← hl]
      refine run_loadCells_list w _ us fun j v hjv => ?_
      have hlt : j < us.length := (List.getElem?_eq_some_iff.1 hjv).1
      rw [add_at, Nat.add_assoc, hc a (j0 + j) ha (by omega), ← hjv, ← hu, List.getElem?_take, if_pos (by omega), List.getElem?_drop]
    simp [execOp, ho, h1.ev hx, Instr.loadAt, pe, Instr.sureAddr, loadVar, hagg, run_sizeOf' hi, hlc]
end
end Go.G

namespace Go.Proofs.YtpndeonmmcaikaaGreat.BurstW
open Go.G Burst8
set_option maxRecDepth 1000000
attribute [local irreducible] G.ParO G.Fin
attribute [local irreducible] fw fwR fwC emptyT tabOf knownT canB boundsL
variable (B : Bog) (bo ro so : Option Addr) (bc rc sc : Nat) (bb mb : Nat)
theorem oneG (x : Sign) : oneCells (encG x) = true := rfl
theorem open_pk {W : World} {n : Nat} {D : List Deferred} {L : Tm} {M M' : List Res} {R : List Fact} {X : Act → World → Prop} (hM : SelM M (memo Tryz.prog 233 (okB B) mb :: bx bb 230 [.slice bo B.banks.length bc, i64 B.wlo, i64 B.whi, .slice ro B.rain.length rc, i64 B.drain, .slice so B.signs.length sc, .map (some mb)] :: ownL (.slice so B.signs.length sc) 142 3 encG B.signs :: M')) (h : Imp W n D L (openR B bo ro bc rc bb :: M') R X) : Imp W n D L M R X :=
  fun a w h1 h2 h3 => h a w h1 h2 (St.pk (N := fun x : Nat × Option Addr × Nat => [memo Tryz.prog 233 (okB B) x.1, bx bb 230 [.slice bo B.banks.length bc, i64 B.wlo, i64 B.whi, .slice ro B.rain.length rc, i64 B.drain, .slice x.2.1 B.signs.length x.2.2, .map (some x.1)], ownL (.slice x.2.1 B.signs.length x.2.2) 142 3 encG B.signs]) (mb, so, sc) (h3.sel hM))
set_option maxHeartbeats 4000000 in
theorem open_ok (ki : FuncId) (caps : List Value) (Rc : List Fact) (hI : ∀ bb mb, FnM Tryz.prog ki (pt bb 0 :: caps) (bx bb 230 [.slice bo B.banks.length bc, i64 B.wlo, i64 B.whi, .slice ro B.rain.length rc, i64 B.drain, .slice so B.signs.length sc, .map (some mb)]) Rc (fun u => u = .bool true)) (hl1 : B.banks.length ≤ 40) (hl2 : B.rain.length ≤ 40) (hl3 : B.signs.length ≤ 40) (hg : GoodB B) : FnS Tryz.prog 78 [valB B bo ro so bc rc sc, .func (.func ki) #[] caps.toArray] [] (rowD bo 4 encB B.banks :: rowD ro 2 encS B.rain :: rowD so 3 encG B.signs :: Rc) (fun e M' R' => ∃ b, e = .returned (pt b 0) ∧ M' = [openR B bo ro bc rc b] ∧ R' = []) := by
 refine FnS.intro0 Tryz.call78 Tryz.func78 rfl Tryz.ntmps78 rfl ?_; intro W M Rf; refine r_seq (r_region ?_); refine o_boxA rfl rfl rfl rfl rfl (fun b2 => ?_); refine q_as rfl rfl rfl rfl rfl ?_; refine o_nil (r_then (r_seq ?_)); have hq1 := hg.nb; have hq2 := hg.w; have hq3 := hg.nr; have hq4 := hg.dr; have hq5 := hg.ns; refine r_region ?_; refine o_q _ rfl rfl rfl (v_fieldAddr rfl Tryz.underlying66 inf63 rfl rfl rfl rfl) ?_; refine o_q _ rfl rfl rfl (v_ld1 rfl Tryz.underlying63 rfl rfl rfl) ?_; refine o_q _ rfl rfl rfl (v_len rfl rfl Tryz.underlying63 rfl) ?_; refine o_q _ rfl rfl rfl (v_true (OpQ.fn (within_v _ _ _) rfl rfl SubRC.sub) (by omega)) ?_
 all_goals
  refine q_mv rfl rfl rfl rfl rfl ?_; refine o_g _ rfl rfl rfl rfl (v_fieldAddr rfl Tryz.underlying66 inf43 rfl rfl rfl rfl) ?_; refine o_g _ rfl rfl rfl rfl (v_ldN rfl Tryz.underlying43 rfl inf43 rfl rfl rfl) ?_; refine o_g _ rfl rfl rfl rfl (v_true (OpQ.fn (isSpan_v _ _ _ _) rfl rfl SubRC.sub) (by omega)) ?_
  all_goals
   refine o_q _ rfl rfl rfl (v_pick_t rfl rfl rfl) ?_; refine q_mv rfl rfl rfl rfl rfl ?_; refine o_g _ rfl rfl rfl rfl (v_fieldAddr rfl Tryz.underlying66 inf59 rfl rfl rfl rfl) ?_; refine o_g _ rfl rfl rfl rfl (v_ld1 rfl Tryz.underlying59 rfl rfl rfl) ?_; refine o_g _ rfl rfl rfl rfl (v_len rfl rfl Tryz.underlying59 rfl) ?_; refine o_g _ rfl rfl rfl rfl (v_true (OpQ.fn (within_v _ _ _) rfl rfl SubRC.sub) (by omega)) ?_
   all_goals
    refine o_q _ rfl rfl rfl (v_pick_t rfl rfl rfl) ?_; refine q_mv rfl rfl rfl rfl rfl ?_; refine o_g _ rfl rfl rfl rfl (v_fieldAddr rfl Tryz.underlying66 inf3 rfl rfl rfl rfl) ?_; refine o_g _ rfl rfl rfl rfl (v_ld1 rfl Tryz.underlying3 rfl rfl rfl) ?_; refine o_g _ rfl rfl rfl rfl (v_true (OpQ.fn (within_v _ _ _) rfl rfl SubRC.sub) (by omega)) ?_
    all_goals
     refine o_q _ rfl rfl rfl (v_pick_t rfl rfl rfl) ?_; refine q_mv rfl rfl rfl rfl rfl ?_; refine o_g _ rfl rfl rfl rfl (v_fieldAddr rfl Tryz.underlying66 inf64 rfl rfl rfl rfl) ?_; refine o_g _ rfl rfl rfl rfl (v_ld1 rfl Tryz.underlying64 rfl rfl rfl) ?_; refine o_g _ rfl rfl rfl rfl (v_len rfl rfl Tryz.underlying64 rfl) ?_; refine o_g _ rfl rfl rfl rfl (v_true (v_leq rfl rfl rfl) (by omega)) ?_
     all_goals
      refine o_q _ rfl rfl rfl (v_pick_t rfl rfl rfl) ?_; refine o_q _ rfl rfl rfl (OpQ.fn (ask_t _) rfl rfl SubRC.sub) ?_; try ((exfalso; first | omega | (have hbk2 := hbk (by omega); omega) | (have hsk2 := hsk (by omega); omega) | (obtain ⟨j, hj, hp⟩ := h57; exact hp (hg.rain j hj))))
      all_goals
       refine o_nil (r_then (r_seq ?_)); refine r_seq (r_region ?_); refine o_q _ rfl rfl rfl (v_fieldAddr rfl Tryz.underlying66 inf63 rfl rfl rfl rfl) ?_; refine o_q _ rfl rfl rfl (v_ld1 rfl Tryz.underlying63 rfl rfl rfl) ?_; refine o_q _ rfl rfl rfl (v_len rfl rfl Tryz.underlying63 rfl) ?_; refine q_mv rfl rfl rfl rfl rfl ?_; refine o_nil (r_then ?_); refine r_block ?_; refine r_loop (ι := Nat) (fun k => k ≤ B.banks.length ∧ ∀ j, j < k → BankOk (B.banks.getD j default)) (fun k => [(1, .func (.func ki) #[] caps.toArray), (2, pt b2 0), (39, .slice bo B.banks.length bc), (40, i64 B.banks.length), (41, i64 k)]) (fun k => bx b2 66 (cellsB B bo ro so bc rc sc) :: M) (fun k => (rowD bo 4 encB B.banks :: rowD ro 2 encS B.rain :: rowD so 3 encG B.signs :: Rc) ++ Rf) (fun k => B.banks.length - k) 0 ?_ ?_ ?_
       ·
        exact r_here (by repeat (first | exact FSub.nil | refine FSub.cons rfl ?_)) SelMC.sel SubRC.sub
       ·
        exact ⟨Nat.zero_le _, fun j hj => absurd hj (by omega)⟩
       ·
        rintro k hI0; have hbk := hg.banks k; unfold BankOk at hbk; refine r_seq (r_region ?_); refine o_q _ rfl rfl rfl (v_lss rfl rfl rfl) ?_; refine o_nil (r_then (r_seq ?_)); refine r_condd rfl (fun hc42 => ?_) (fun hc42 => ?_)
        ·
         refine r_skip (r_then ?_); refine r_seq (r_block ?_); refine r_seq (r_region ?_); refine o_q _ rfl rfl rfl (v_indexAddrSn rfl Tryz.underlying63 inf75 rfl rfl rfl (by omega) rfl) ?_; refine o_q _ rfl rfl rfl (v_loadEN rfl Tryz.underlying75 rfl inf75 rfl (by omega) rfl rfl rfl) ?_; refine o_alloc rfl inf75 rfl rfl rfl rfl rfl (fun b6 => ?_); refine o_st rfl inf75 rfl rfl rfl rfl rfl rfl rfl rfl ?_; refine o_nil (r_then ?_); refine Imp.box_to b6 [i64 (B.banks.getD k default).blo, i64 (B.banks.getD k default).bhi, i64 (B.banks.getD k default).clo, i64 (B.banks.getD k default).chi] rfl ?_; refine r_region ?_; refine o_q _ rfl rfl rfl (v_fieldAddr rfl Tryz.underlying75 inf43 rfl rfl rfl rfl) ?_; refine o_q _ rfl rfl rfl (v_ldN rfl Tryz.underlying43 rfl inf43 rfl rfl rfl) ?_; refine o_q _ rfl rfl rfl (v_true (OpQ.fn (isSpan_v _ _ _ _) rfl rfl SubRC.sub) (by omega)) ?_
         all_goals
          refine q_mv rfl rfl rfl rfl rfl ?_; refine o_g _ rfl rfl rfl rfl (v_fieldAddr rfl Tryz.underlying75 inf43 rfl rfl rfl rfl) ?_; refine o_g _ rfl rfl rfl rfl (v_ldN rfl Tryz.underlying43 rfl inf43 rfl rfl rfl) ?_; refine o_g _ rfl rfl rfl rfl (v_true (OpQ.fn (isSpan_v _ _ _ _) rfl rfl SubRC.sub) (by omega)) ?_
          all_goals
           refine o_q _ rfl rfl rfl (v_pick_t rfl rfl rfl) ?_; refine o_q _ rfl rfl rfl (OpQ.fn (ask_t _) rfl rfl SubRC.sub) ?_; try ((exfalso; first | omega | (have hbk2 := hbk (by omega); omega) | (have hsk2 := hsk (by omega); omega) | (obtain ⟨j, hj, hp⟩ := h57; exact hp (hg.rain j hj))))
           all_goals
            refine o_nil ?_; refine r_in_normal ?_; refine r_then ?_; refine r_region ?_; refine o_q _ rfl rfl rfl (v_add rfl rfl rfl (by omega)) ?_; refine q_mv rfl rfl rfl rfl rfl ?_; refine o_nil (r_then ?_); refine r_next (k + 1) ?_ ?_ ?_
            ·
             exact r_here (by repeat (first | exact FSub.nil | refine FSub.cons rfl ?_)) SelMC.sel SubRC.sub
            ·
             exact ⟨by omega, all_step hI0.2 (by unfold BankOk; omega)⟩
            ·
             omega
        ·
         refine r_exit ?_; refine r_then_exit ?_; refine r_then_exit ?_; refine r_in_here ?_; refine r_then (r_seq (r_region ?_)); refine o_q _ rfl rfl rfl (v_fieldAddr rfl Tryz.underlying66 inf59 rfl rfl rfl rfl) ?_; refine o_q _ rfl rfl rfl (v_ld1 rfl Tryz.underlying59 rfl rfl rfl) ?_; refine o_test rfl rfl rfl (OpQ.fn (spans_c (fun s => ¬ RainOk s) B.rain ro rc 134 [] [] (by omega) (fun j hj => open1_v _)) rfl rfl SubRC.sub) (fun h57 => ?_) (fun h57 => ?_)
         all_goals
          refine o_q _ rfl rfl rfl (v_not rfl rfl) ?_
          first | refine o_q _ rfl rfl rfl (OpQ.fn (ask_t _) rfl rfl SubRC.sub) ?_ | refine o_fnx (ask_f _) rfl rfl rfl SubRC.sub ?_
          repeat (first | with_reducible refine r_then_panic ?_); try ((exfalso; first | omega | (have hbk2 := hbk (by omega); omega) | (have hsk2 := hsk (by omega); omega) | (obtain ⟨j, hj, hp⟩ := h57; exact hp (hg.rain j hj))))
          all_goals
           refine o_nil (r_then (r_seq (r_region ?_))); refine o_q _ rfl rfl rfl (v_fieldAddr rfl Tryz.underlying66 inf64 rfl rfl rfl rfl) ?_; refine o_q _ rfl rfl rfl (v_ld1 rfl Tryz.underlying64 rfl rfl rfl) ?_; refine o_q _ rfl rfl rfl (v_len rfl rfl Tryz.underlying64 rfl) ?_; refine o_make (enc := encG) (sz := 3) (⟨0, 0, 0⟩ : Sign) rfl Tryz.underlying64 inf142 rfl rfl rfl rfl rfl rfl rfl rfl rfl (Nat.le_refl _) ⟨by omega, by decide⟩ (fun b63 => ?_); refine q_as rfl rfl rfl rfl rfl ?_; refine o_nil (r_then (r_seq (r_region ?_))); refine q_mv rfl rfl rfl rfl rfl ?_; refine o_q _ rfl rfl rfl (v_fieldAddr rfl Tryz.underlying66 inf64 rfl rfl rfl rfl) ?_; refine o_q _ rfl rfl rfl (v_ld1 rfl Tryz.underlying64 rfl rfl rfl) ?_; refine o_copy (enc := encG) (sz := 3) (xs := List.replicate B.signs.length (⟨0, 0, 0⟩ : Sign)) (ys := B.signs) rfl Tryz.underlying64 inf142 rfl rfl rfl rfl encG_len oneG rfl rfl rfl (by simp) ?_; refine o_nil (r_then (r_seq (r_region ?_))); refine o_q _ rfl rfl rfl (v_ldW rfl Tryz.underlying66 rfl inf66 rfl rfl) ?_; refine o_makeMap (P := Tryz.prog) (k := 233) (okB B) rfl rfl rfl rfl (fun b69 => ?_); refine o_q _ rfl rfl rfl (v_bS rfl Tryz.underlying230 inf230 plt230 rfl rfl rfl (by repeat (first | exact trivial | refine ⟨rfl, ?_⟩)) (by rfl)) ?_; refine o_boxA rfl rfl rfl rfl rfl (fun b71 => ?_); refine q_as rfl rfl rfl rfl rfl ?_; refine o_nil (r_then (r_seq ?_)); refine r_seq ?_; refine Imp.box_to b71 [.slice bo B.banks.length bc, i64 B.wlo, i64 B.whi, .slice ro B.rain.length rc, i64 B.drain, .slice so B.signs.length sc, .map (some b69)] rfl ?_; refine r_region ?_; refine q_mv rfl rfl rfl rfl rfl ?_; refine o_q _ rfl rfl rfl (v_len rfl rfl Tryz.underlying64 rfl) ?_; refine q_mv rfl rfl rfl rfl rfl ?_; refine o_nil (r_then ?_); refine r_block ?_; refine r_loop (ι := Nat) (fun k => k ≤ B.signs.length ∧ ∀ j, j < k → SignOk B (B.signs.getD j default)) (fun k => [(1, .func (.func ki) #[] caps.toArray), (7, .slice (some ⟨b63, 0, none⟩) B.signs.length B.signs.length), (8, pt b71 0), (72, .slice (some ⟨b63, 0, none⟩) B.signs.length B.signs.length), (73, i64 B.signs.length), (74, i64 k)]) (fun k => bx b71 230 [.slice bo B.banks.length bc, i64 B.wlo, i64 B.whi, .slice ro B.rain.length rc, i64 B.drain, .slice so B.signs.length sc, .map (some b69)] :: memo Tryz.prog 233 (okB B) b69 :: ownL (.slice (some ⟨b63, 0, none⟩) B.signs.length B.signs.length) 142 3 encG B.signs :: M) (fun k => (rowD bo 4 encB B.banks :: rowD ro 2 encS B.rain :: rowD so 3 encG B.signs :: Rc) ++ Rf) (fun k => B.signs.length - k) 0 ?_ ?_ ?_
           ·
            exact r_here (by repeat (first | exact FSub.nil | refine FSub.cons rfl ?_)) SelMC.sel SubRC.sub
           ·
            exact ⟨Nat.zero_le _, fun j hj => absurd hj (by omega)⟩
           ·
            rintro k hI1; have hsk := hg.signs k; unfold SignOk at hsk; refine r_seq (r_region ?_); refine o_q _ rfl rfl rfl (v_lss rfl rfl rfl) ?_; refine o_nil (r_then (r_seq ?_)); refine r_condd rfl (fun hc75 => ?_) (fun hc75 => ?_)
            ·
             refine r_skip (r_then ?_); refine r_seq (r_block ?_); refine r_seq (r_region ?_); refine o_q _ rfl rfl rfl (v_indexAddrO (xs := B.signs) encG_len rfl Tryz.underlying64 inf142 rfl rfl rfl (by omega) rfl) ?_; refine o_q _ rfl rfl rfl (v_loadEO (xs := B.signs) (cap := B.signs.length) encG_len rfl Tryz.underlying142 rfl inf142 rfl rfl (by omega) rfl rfl rfl) ?_; refine o_alloc rfl inf142 rfl rfl rfl rfl rfl (fun b10 => ?_); refine o_st rfl inf142 rfl rfl rfl rfl rfl rfl rfl rfl ?_; refine o_nil (r_then ?_); refine Imp.box_to b10 [i64 (B.signs.getD k default).kind, i64 (B.signs.getD k default).bank, i64 (B.signs.getD k default).day] rfl ?_; refine r_region ?_; refine q_mv rfl rfl rfl rfl rfl ?_; refine o_q _ rfl rfl rfl (v_fieldAddr rfl Tryz.underlying142 inf3 rfl rfl rfl rfl) ?_; refine o_q _ rfl rfl rfl (v_ld1 rfl Tryz.underlying3 rfl rfl rfl) ?_; refine o_q _ rfl rfl rfl (v_true (OpQ.fnm (isDay_m B bo ro so bc rc sc b71 b69 _) rfl [] [] rfl rfl rfl SubRC.sub) (by omega)) ?_
             all_goals
              refine q_mv rfl rfl rfl rfl rfl ?_; refine o_g _ rfl rfl rfl rfl (v_fieldAddr rfl Tryz.underlying142 inf3 rfl rfl rfl rfl) ?_; refine o_g _ rfl rfl rfl rfl (v_ld1 rfl Tryz.underlying3 rfl rfl rfl) ?_; refine o_gtest rfl rfl rfl rfl (v_eql rfl rfl rfl) (fun h85 => ?_) (fun h85 => ?_)
              all_goals
               refine o_g _ rfl rfl rfl rfl (v_move rfl rfl) ?_
               first | refine o_gn rfl rfl rfl rfl ?_ | refine o_g _ rfl rfl rfl rfl (v_fieldAddr rfl Tryz.underlying142 inf3 rfl rfl rfl rfl) ?_
               first | refine o_gn rfl rfl rfl rfl ?_ | refine o_g _ rfl rfl rfl rfl (v_ld1 rfl Tryz.underlying3 rfl rfl rfl) ?_
               first | refine o_gn rfl rfl rfl rfl ?_ | refine o_g _ rfl rfl rfl rfl (v_true (OpQ.fn (within_v _ _ _) rfl rfl SubRC.sub) (by omega)) ?_
               all_goals
                first | refine o_gn rfl rfl rfl rfl ?_ | refine o_g _ rfl rfl rfl rfl (v_move rfl rfl) ?_
                first | refine o_gn rfl rfl rfl rfl ?_ | refine o_g _ rfl rfl rfl rfl (v_move rfl rfl) ?_
                first | refine o_gn rfl rfl rfl rfl ?_ | refine o_g _ rfl rfl rfl rfl (v_fieldAddr rfl Tryz.underlying142 inf3 rfl rfl rfl rfl) ?_
                first | refine o_gn rfl rfl rfl rfl ?_ | refine o_g _ rfl rfl rfl rfl (v_ld1 rfl Tryz.underlying3 rfl rfl rfl) ?_
                first | refine o_gn rfl rfl rfl rfl ?_ | refine o_g _ rfl rfl rfl rfl (v_true (OpQ.fnm (isBank_m B bo ro so bc rc sc b71 b69 _ (by omega)) rfl [] [] rfl rfl rfl SubRC.sub) (by omega)) ?_
                all_goals
                 first | refine o_gn rfl rfl rfl rfl ?_ | refine o_g _ rfl rfl rfl rfl (v_pick_t rfl rfl rfl) ?_
                 first | refine o_g _ rfl rfl rfl rfl (v_pick_t rfl rfl rfl) ?_ | refine o_g _ rfl rfl rfl rfl (v_pick_f rfl rfl rfl) ?_
                 refine o_q _ rfl rfl rfl (v_pick_t rfl rfl rfl) ?_; refine o_q _ rfl rfl rfl (OpQ.fn (ask_t _) rfl rfl SubRC.sub) ?_; try ((exfalso; first | omega | (have hbk2 := hbk (by omega); omega) | (have hsk2 := hsk (by omega); omega) | (obtain ⟨j, hj, hp⟩ := h57; exact hp (hg.rain j hj))))
                 all_goals
                  refine o_nil ?_; refine r_in_normal ?_; refine r_then ?_; refine r_region ?_; refine o_q _ rfl rfl rfl (v_add rfl rfl rfl (by omega)) ?_; refine q_mv rfl rfl rfl rfl rfl ?_; refine o_nil (r_then ?_); refine r_next (k + 1) ?_ ?_ ?_
                  ·
                   exact r_here (by repeat (first | exact FSub.nil | refine FSub.cons rfl ?_)) SelMC.sel SubRC.sub
                  ·
                   exact ⟨by omega, all_step hI1.2 (by unfold SignOk; omega)⟩
                  ·
                   omega
            ·
             refine r_exit ?_; refine r_then_exit ?_; refine r_then_exit ?_; refine r_in_here ?_; refine r_then (r_seq (r_region ?_)); refine q_mv rfl rfl rfl rfl rfl ?_; refine q_mv rfl rfl rfl rfl rfl ?_; refine o_q _ rfl rfl rfl (OpQ.fnm (hI b71 b69) rfl [] caps rfl rfl rfl SubRC.sub) ?_; refine o_q _ rfl rfl rfl (OpQ.fn (ask_t _) rfl rfl SubRC.sub) ?_; try ((exfalso; first | omega | (have hbk2 := hbk (by omega); omega) | (have hsk2 := hsk (by omega); omega) | (obtain ⟨j, hj, hp⟩ := h57; exact hp (hg.rain j hj))))
             all_goals
              refine o_nil (r_then (r_seq (r_region ?_))); refine q_mv rfl rfl rfl rfl rfl ?_; refine q_mv rfl rfl rfl rfl rfl ?_; refine o_q _ rfl rfl rfl (v_nilCheck rfl rfl) ?_; refine o_q _ rfl rfl rfl (v_fieldAddr rfl Tryz.underlying230 inf66 rfl rfl rfl rfl) ?_; refine o_q _ rfl rfl rfl (v_fieldAddr rfl Tryz.underlying66 inf64 rfl rfl rfl rfl) ?_; refine o_st rfl inf64 rfl rfl rfl rfl rfl rfl rfl rfl ?_; refine o_nil (r_then (r_seq (r_region ?_))); refine q_mv rfl rfl rfl rfl rfl ?_; refine q_as rfl rfl rfl rfl rfl ?_; refine o_nil (r_then ?_); refine r_ret ?_; refine Imp.box_to b71 [.slice bo B.banks.length bc, i64 B.wlo, i64 B.whi, .slice ro B.rain.length rc, i64 B.drain, .slice (some ⟨b63, 0, none⟩) B.signs.length B.signs.length, .map (some b69)] rfl ?_; refine open_pk B bo ro (some ⟨b63, 0, none⟩) bc rc B.signs.length b71 b69 (M' := M) SelMC.sel ?_; exact r_rete [openR B bo ro bc rc b71] [] (Rd.tmp rfl rfl) ⟨b71, rfl, rfl, rfl⟩ SelMC.sel SubRC.sub
set_option maxHeartbeats 4000000 in
theorem open_x2 (ki : FuncId) (caps : List Value) (Rc : List Fact) (hI : ∀ bb mb, FnM Tryz.prog ki (pt bb 0 :: caps) (bx bb 230 [.slice bo B.banks.length bc, i64 B.wlo, i64 B.whi, .slice ro B.rain.length rc, i64 B.drain, .slice so B.signs.length sc, .map (some mb)]) Rc (fun u => u = .bool false)) (hl1 : B.banks.length ≤ 40) (hl2 : B.rain.length ≤ 40) (hl3 : B.signs.length ≤ 40) (hg : GoodB B) : FnX Tryz.prog 78 [valB B bo ro so bc rc sc, .func (.func ki) #[] caps.toArray] (rowD bo 4 encB B.banks :: rowD ro 2 encS B.rain :: rowD so 3 encG B.signs :: Rc) (.iface 226 (i64 2)) := by
 refine FnX.intro Tryz.call78 Tryz.func78 rfl Tryz.ntmps78 rfl ?_; intro W M Rf; refine r_seq (r_region ?_); refine o_boxA rfl rfl rfl rfl rfl (fun b2 => ?_); refine q_as rfl rfl rfl rfl rfl ?_; refine o_nil (r_then (r_seq ?_)); have hq1 := hg.nb; have hq2 := hg.w; have hq3 := hg.nr; have hq4 := hg.dr; have hq5 := hg.ns; refine r_region ?_; refine o_q _ rfl rfl rfl (v_fieldAddr rfl Tryz.underlying66 inf63 rfl rfl rfl rfl) ?_; refine o_q _ rfl rfl rfl (v_ld1 rfl Tryz.underlying63 rfl rfl rfl) ?_; refine o_q _ rfl rfl rfl (v_len rfl rfl Tryz.underlying63 rfl) ?_; refine o_q _ rfl rfl rfl (v_true (OpQ.fn (within_v _ _ _) rfl rfl SubRC.sub) (by omega)) ?_
 all_goals
  refine q_mv rfl rfl rfl rfl rfl ?_; refine o_g _ rfl rfl rfl rfl (v_fieldAddr rfl Tryz.underlying66 inf43 rfl rfl rfl rfl) ?_; refine o_g _ rfl rfl rfl rfl (v_ldN rfl Tryz.underlying43 rfl inf43 rfl rfl rfl) ?_; refine o_g _ rfl rfl rfl rfl (v_true (OpQ.fn (isSpan_v _ _ _ _) rfl rfl SubRC.sub) (by omega)) ?_
  all_goals
   refine o_q _ rfl rfl rfl (v_pick_t rfl rfl rfl) ?_; refine q_mv rfl rfl rfl rfl rfl ?_; refine o_g _ rfl rfl rfl rfl (v_fieldAddr rfl Tryz.underlying66 inf59 rfl rfl rfl rfl) ?_; refine o_g _ rfl rfl rfl rfl (v_ld1 rfl Tryz.underlying59 rfl rfl rfl) ?_; refine o_g _ rfl rfl rfl rfl (v_len rfl rfl Tryz.underlying59 rfl) ?_; refine o_g _ rfl rfl rfl rfl (v_true (OpQ.fn (within_v _ _ _) rfl rfl SubRC.sub) (by omega)) ?_
   all_goals
    refine o_q _ rfl rfl rfl (v_pick_t rfl rfl rfl) ?_; refine q_mv rfl rfl rfl rfl rfl ?_; refine o_g _ rfl rfl rfl rfl (v_fieldAddr rfl Tryz.underlying66 inf3 rfl rfl rfl rfl) ?_; refine o_g _ rfl rfl rfl rfl (v_ld1 rfl Tryz.underlying3 rfl rfl rfl) ?_; refine o_g _ rfl rfl rfl rfl (v_true (OpQ.fn (within_v _ _ _) rfl rfl SubRC.sub) (by omega)) ?_
    all_goals
     refine o_q _ rfl rfl rfl (v_pick_t rfl rfl rfl) ?_; refine q_mv rfl rfl rfl rfl rfl ?_; refine o_g _ rfl rfl rfl rfl (v_fieldAddr rfl Tryz.underlying66 inf64 rfl rfl rfl rfl) ?_; refine o_g _ rfl rfl rfl rfl (v_ld1 rfl Tryz.underlying64 rfl rfl rfl) ?_; refine o_g _ rfl rfl rfl rfl (v_len rfl rfl Tryz.underlying64 rfl) ?_; refine o_g _ rfl rfl rfl rfl (v_true (v_leq rfl rfl rfl) (by omega)) ?_
     all_goals
      refine o_q _ rfl rfl rfl (v_pick_t rfl rfl rfl) ?_; refine o_q _ rfl rfl rfl (OpQ.fn (ask_t _) rfl rfl SubRC.sub) ?_; try (first | exact r_retx SelMC.sel SubRC.sub | (exfalso; first | omega | (have hbk2 := hbk (by omega); omega) | (have hsk2 := hsk (by omega); omega) | (obtain ⟨j, hj, hp⟩ := h57; exact hp (hg.rain j hj))))
      all_goals
       refine o_nil (r_then (r_seq ?_)); refine r_seq (r_region ?_); refine o_q _ rfl rfl rfl (v_fieldAddr rfl Tryz.underlying66 inf63 rfl rfl rfl rfl) ?_; refine o_q _ rfl rfl rfl (v_ld1 rfl Tryz.underlying63 rfl rfl rfl) ?_; refine o_q _ rfl rfl rfl (v_len rfl rfl Tryz.underlying63 rfl) ?_; refine q_mv rfl rfl rfl rfl rfl ?_; refine o_nil (r_then ?_); refine r_block ?_; refine r_loop (ι := Nat) (fun k => k ≤ B.banks.length ∧ ∀ j, j < k → BankOk (B.banks.getD j default)) (fun k => [(1, .func (.func ki) #[] caps.toArray), (2, pt b2 0), (39, .slice bo B.banks.length bc), (40, i64 B.banks.length), (41, i64 k)]) (fun k => bx b2 66 (cellsB B bo ro so bc rc sc) :: M) (fun k => (rowD bo 4 encB B.banks :: rowD ro 2 encS B.rain :: rowD so 3 encG B.signs :: Rc) ++ Rf) (fun k => B.banks.length - k) 0 ?_ ?_ ?_
       ·
        exact r_here (by repeat (first | exact FSub.nil | refine FSub.cons rfl ?_)) SelMC.sel SubRC.sub
       ·
        exact ⟨Nat.zero_le _, fun j hj => absurd hj (by omega)⟩
       ·
        rintro k hI0; have hbk := hg.banks k; unfold BankOk at hbk; refine r_seq (r_region ?_); refine o_q _ rfl rfl rfl (v_lss rfl rfl rfl) ?_; refine o_nil (r_then (r_seq ?_)); refine r_condd rfl (fun hc42 => ?_) (fun hc42 => ?_)
        ·
         refine r_skip (r_then ?_); refine r_seq (r_block ?_); refine r_seq (r_region ?_); refine o_q _ rfl rfl rfl (v_indexAddrSn rfl Tryz.underlying63 inf75 rfl rfl rfl (by omega) rfl) ?_; refine o_q _ rfl rfl rfl (v_loadEN rfl Tryz.underlying75 rfl inf75 rfl (by omega) rfl rfl rfl) ?_; refine o_alloc rfl inf75 rfl rfl rfl rfl rfl (fun b6 => ?_); refine o_st rfl inf75 rfl rfl rfl rfl rfl rfl rfl rfl ?_; refine o_nil (r_then ?_); refine Imp.box_to b6 [i64 (B.banks.getD k default).blo, i64 (B.banks.getD k default).bhi, i64 (B.banks.getD k default).clo, i64 (B.banks.getD k default).chi] rfl ?_; refine r_region ?_; refine o_q _ rfl rfl rfl (v_fieldAddr rfl Tryz.underlying75 inf43 rfl rfl rfl rfl) ?_; refine o_q _ rfl rfl rfl (v_ldN rfl Tryz.underlying43 rfl inf43 rfl rfl rfl) ?_; refine o_q _ rfl rfl rfl (v_true (OpQ.fn (isSpan_v _ _ _ _) rfl rfl SubRC.sub) (by omega)) ?_
         all_goals
          refine q_mv rfl rfl rfl rfl rfl ?_; refine o_g _ rfl rfl rfl rfl (v_fieldAddr rfl Tryz.underlying75 inf43 rfl rfl rfl rfl) ?_; refine o_g _ rfl rfl rfl rfl (v_ldN rfl Tryz.underlying43 rfl inf43 rfl rfl rfl) ?_; refine o_g _ rfl rfl rfl rfl (v_true (OpQ.fn (isSpan_v _ _ _ _) rfl rfl SubRC.sub) (by omega)) ?_
          all_goals
           refine o_q _ rfl rfl rfl (v_pick_t rfl rfl rfl) ?_; refine o_q _ rfl rfl rfl (OpQ.fn (ask_t _) rfl rfl SubRC.sub) ?_; try (first | exact r_retx SelMC.sel SubRC.sub | (exfalso; first | omega | (have hbk2 := hbk (by omega); omega) | (have hsk2 := hsk (by omega); omega) | (obtain ⟨j, hj, hp⟩ := h57; exact hp (hg.rain j hj))))
           all_goals
            refine o_nil ?_; refine r_in_normal ?_; refine r_then ?_; refine r_region ?_; refine o_q _ rfl rfl rfl (v_add rfl rfl rfl (by omega)) ?_; refine q_mv rfl rfl rfl rfl rfl ?_; refine o_nil (r_then ?_); refine r_next (k + 1) ?_ ?_ ?_
            ·
             exact r_here (by repeat (first | exact FSub.nil | refine FSub.cons rfl ?_)) SelMC.sel SubRC.sub
            ·
             exact ⟨by omega, all_step hI0.2 (by unfold BankOk; omega)⟩
            ·
             omega
        ·
         refine r_exit ?_; refine r_then_exit ?_; refine r_then_exit ?_; refine r_in_here ?_; refine r_then (r_seq (r_region ?_)); refine o_q _ rfl rfl rfl (v_fieldAddr rfl Tryz.underlying66 inf59 rfl rfl rfl rfl) ?_; refine o_q _ rfl rfl rfl (v_ld1 rfl Tryz.underlying59 rfl rfl rfl) ?_; refine o_test rfl rfl rfl (OpQ.fn (spans_c (fun s => ¬ RainOk s) B.rain ro rc 134 [] [] (by omega) (fun j hj => open1_v _)) rfl rfl SubRC.sub) (fun h57 => ?_) (fun h57 => ?_)
         all_goals
          refine o_q _ rfl rfl rfl (v_not rfl rfl) ?_
          first | refine o_q _ rfl rfl rfl (OpQ.fn (ask_t _) rfl rfl SubRC.sub) ?_ | refine o_fnx (ask_f _) rfl rfl rfl SubRC.sub ?_
          repeat (first | with_reducible refine r_then_panic ?_); try (first | exact r_retx SelMC.sel SubRC.sub | (exfalso; first | omega | (have hbk2 := hbk (by omega); omega) | (have hsk2 := hsk (by omega); omega) | (obtain ⟨j, hj, hp⟩ := h57; exact hp (hg.rain j hj))))
          all_goals
           refine o_nil (r_then (r_seq (r_region ?_))); refine o_q _ rfl rfl rfl (v_fieldAddr rfl Tryz.underlying66 inf64 rfl rfl rfl rfl) ?_; refine o_q _ rfl rfl rfl (v_ld1 rfl Tryz.underlying64 rfl rfl rfl) ?_; refine o_q _ rfl rfl rfl (v_len rfl rfl Tryz.underlying64 rfl) ?_; refine o_make (enc := encG) (sz := 3) (⟨0, 0, 0⟩ : Sign) rfl Tryz.underlying64 inf142 rfl rfl rfl rfl rfl rfl rfl rfl rfl (Nat.le_refl _) ⟨by omega, by decide⟩ (fun b63 => ?_); refine q_as rfl rfl rfl rfl rfl ?_; refine o_nil (r_then (r_seq (r_region ?_))); refine q_mv rfl rfl rfl rfl rfl ?_; refine o_q _ rfl rfl rfl (v_fieldAddr rfl Tryz.underlying66 inf64 rfl rfl rfl rfl) ?_; refine o_q _ rfl rfl rfl (v_ld1 rfl Tryz.underlying64 rfl rfl rfl) ?_; refine o_copy (enc := encG) (sz := 3) (xs := List.replicate B.signs.length (⟨0, 0, 0⟩ : Sign)) (ys := B.signs) rfl Tryz.underlying64 inf142 rfl rfl rfl rfl encG_len oneG rfl rfl rfl (by simp) ?_; refine o_nil (r_then (r_seq (r_region ?_))); refine o_q _ rfl rfl rfl (v_ldW rfl Tryz.underlying66 rfl inf66 rfl rfl) ?_; refine o_makeMap (P := Tryz.prog) (k := 233) (okB B) rfl rfl rfl rfl (fun b69 => ?_); refine o_q _ rfl rfl rfl (v_bS rfl Tryz.underlying230 inf230 plt230 rfl rfl rfl (by repeat (first | exact trivial | refine ⟨rfl, ?_⟩)) (by rfl)) ?_; refine o_boxA rfl rfl rfl rfl rfl (fun b71 => ?_); refine q_as rfl rfl rfl rfl rfl ?_; refine o_nil (r_then (r_seq ?_)); refine r_seq ?_; refine Imp.box_to b71 [.slice bo B.banks.length bc, i64 B.wlo, i64 B.whi, .slice ro B.rain.length rc, i64 B.drain, .slice so B.signs.length sc, .map (some b69)] rfl ?_; refine r_region ?_; refine q_mv rfl rfl rfl rfl rfl ?_; refine o_q _ rfl rfl rfl (v_len rfl rfl Tryz.underlying64 rfl) ?_; refine q_mv rfl rfl rfl rfl rfl ?_; refine o_nil (r_then ?_); refine r_block ?_; refine r_loop (ι := Nat) (fun k => k ≤ B.signs.length ∧ ∀ j, j < k → SignOk B (B.signs.getD j default)) (fun k => [(1, .func (.func ki) #[] caps.toArray), (7, .slice (some ⟨b63, 0, none⟩) B.signs.length B.signs.length), (8, pt b71 0), (72, .slice (some ⟨b63, 0, none⟩) B.signs.length B.signs.length), (73, i64 B.signs.length), (74, i64 k)]) (fun k => bx b71 230 [.slice bo B.banks.length bc, i64 B.wlo, i64 B.whi, .slice ro B.rain.length rc, i64 B.drain, .slice so B.signs.length sc, .map (some b69)] :: memo Tryz.prog 233 (okB B) b69 :: ownL (.slice (some ⟨b63, 0, none⟩) B.signs.length B.signs.length) 142 3 encG B.signs :: M) (fun k => (rowD bo 4 encB B.banks :: rowD ro 2 encS B.rain :: rowD so 3 encG B.signs :: Rc) ++ Rf) (fun k => B.signs.length - k) 0 ?_ ?_ ?_
           ·
            exact r_here (by repeat (first | exact FSub.nil | refine FSub.cons rfl ?_)) SelMC.sel SubRC.sub
           ·
            exact ⟨Nat.zero_le _, fun j hj => absurd hj (by omega)⟩
           ·
            rintro k hI1; have hsk := hg.signs k; unfold SignOk at hsk; refine r_seq (r_region ?_); refine o_q _ rfl rfl rfl (v_lss rfl rfl rfl) ?_; refine o_nil (r_then (r_seq ?_)); refine r_condd rfl (fun hc75 => ?_) (fun hc75 => ?_)
            ·
             refine r_skip (r_then ?_); refine r_seq (r_block ?_); refine r_seq (r_region ?_); refine o_q _ rfl rfl rfl (v_indexAddrO (xs := B.signs) encG_len rfl Tryz.underlying64 inf142 rfl rfl rfl (by omega) rfl) ?_; refine o_q _ rfl rfl rfl (v_loadEO (xs := B.signs) (cap := B.signs.length) encG_len rfl Tryz.underlying142 rfl inf142 rfl rfl (by omega) rfl rfl rfl) ?_; refine o_alloc rfl inf142 rfl rfl rfl rfl rfl (fun b10 => ?_); refine o_st rfl inf142 rfl rfl rfl rfl rfl rfl rfl rfl ?_; refine o_nil (r_then ?_); refine Imp.box_to b10 [i64 (B.signs.getD k default).kind, i64 (B.signs.getD k default).bank, i64 (B.signs.getD k default).day] rfl ?_; refine r_region ?_; refine q_mv rfl rfl rfl rfl rfl ?_; refine o_q _ rfl rfl rfl (v_fieldAddr rfl Tryz.underlying142 inf3 rfl rfl rfl rfl) ?_; refine o_q _ rfl rfl rfl (v_ld1 rfl Tryz.underlying3 rfl rfl rfl) ?_; refine o_q _ rfl rfl rfl (v_true (OpQ.fnm (isDay_m B bo ro so bc rc sc b71 b69 _) rfl [] [] rfl rfl rfl SubRC.sub) (by omega)) ?_
             all_goals
              refine q_mv rfl rfl rfl rfl rfl ?_; refine o_g _ rfl rfl rfl rfl (v_fieldAddr rfl Tryz.underlying142 inf3 rfl rfl rfl rfl) ?_; refine o_g _ rfl rfl rfl rfl (v_ld1 rfl Tryz.underlying3 rfl rfl rfl) ?_; refine o_gtest rfl rfl rfl rfl (v_eql rfl rfl rfl) (fun h85 => ?_) (fun h85 => ?_)
              all_goals
               refine o_g _ rfl rfl rfl rfl (v_move rfl rfl) ?_
               first | refine o_gn rfl rfl rfl rfl ?_ | refine o_g _ rfl rfl rfl rfl (v_fieldAddr rfl Tryz.underlying142 inf3 rfl rfl rfl rfl) ?_
               first | refine o_gn rfl rfl rfl rfl ?_ | refine o_g _ rfl rfl rfl rfl (v_ld1 rfl Tryz.underlying3 rfl rfl rfl) ?_
               first | refine o_gn rfl rfl rfl rfl ?_ | refine o_g _ rfl rfl rfl rfl (v_true (OpQ.fn (within_v _ _ _) rfl rfl SubRC.sub) (by omega)) ?_
               all_goals
                first | refine o_gn rfl rfl rfl rfl ?_ | refine o_g _ rfl rfl rfl rfl (v_move rfl rfl) ?_
                first | refine o_gn rfl rfl rfl rfl ?_ | refine o_g _ rfl rfl rfl rfl (v_move rfl rfl) ?_
                first | refine o_gn rfl rfl rfl rfl ?_ | refine o_g _ rfl rfl rfl rfl (v_fieldAddr rfl Tryz.underlying142 inf3 rfl rfl rfl rfl) ?_
                first | refine o_gn rfl rfl rfl rfl ?_ | refine o_g _ rfl rfl rfl rfl (v_ld1 rfl Tryz.underlying3 rfl rfl rfl) ?_
                first | refine o_gn rfl rfl rfl rfl ?_ | refine o_g _ rfl rfl rfl rfl (v_true (OpQ.fnm (isBank_m B bo ro so bc rc sc b71 b69 _ (by omega)) rfl [] [] rfl rfl rfl SubRC.sub) (by omega)) ?_
                all_goals
                 first | refine o_gn rfl rfl rfl rfl ?_ | refine o_g _ rfl rfl rfl rfl (v_pick_t rfl rfl rfl) ?_
                 first | refine o_g _ rfl rfl rfl rfl (v_pick_t rfl rfl rfl) ?_ | refine o_g _ rfl rfl rfl rfl (v_pick_f rfl rfl rfl) ?_
                 refine o_q _ rfl rfl rfl (v_pick_t rfl rfl rfl) ?_; refine o_q _ rfl rfl rfl (OpQ.fn (ask_t _) rfl rfl SubRC.sub) ?_; try (first | exact r_retx SelMC.sel SubRC.sub | (exfalso; first | omega | (have hbk2 := hbk (by omega); omega) | (have hsk2 := hsk (by omega); omega) | (obtain ⟨j, hj, hp⟩ := h57; exact hp (hg.rain j hj))))
                 all_goals
                  refine o_nil ?_; refine r_in_normal ?_; refine r_then ?_; refine r_region ?_; refine o_q _ rfl rfl rfl (v_add rfl rfl rfl (by omega)) ?_; refine q_mv rfl rfl rfl rfl rfl ?_; refine o_nil (r_then ?_); refine r_next (k + 1) ?_ ?_ ?_
                  ·
                   exact r_here (by repeat (first | exact FSub.nil | refine FSub.cons rfl ?_)) SelMC.sel SubRC.sub
                  ·
                   exact ⟨by omega, all_step hI1.2 (by unfold SignOk; omega)⟩
                  ·
                   omega
            ·
             refine r_exit ?_; refine r_then_exit ?_; refine r_then_exit ?_; refine r_in_here ?_; refine r_then (r_seq (r_region ?_)); refine q_mv rfl rfl rfl rfl rfl ?_; refine q_mv rfl rfl rfl rfl rfl ?_; refine o_q _ rfl rfl rfl (OpQ.fnm (hI b71 b69) rfl [] caps rfl rfl rfl SubRC.sub) ?_; refine o_fnx (ask_f _) rfl rfl rfl SubRC.sub ?_; (with_reducible refine r_then_panic ?_); try (first | exact r_retx SelMC.sel SubRC.sub | (exfalso; first | omega | (have hbk2 := hbk (by omega); omega) | (have hsk2 := hsk (by omega); omega) | (obtain ⟨j, hj, hp⟩ := h57; exact hp (hg.rain j hj))))
             all_goals
              refine o_nil ?_; repeat (first | with_reducible refine r_then ?_ | with_reducible refine r_in_normal ?_ | with_reducible refine r_sc_normal ?_); refine r_seq (r_region ?_); refine q_mv rfl rfl rfl rfl rfl ?_; refine q_mv rfl rfl rfl rfl rfl ?_; refine o_q _ rfl rfl rfl (v_nilCheck rfl rfl) ?_
              first | refine o_q _ rfl rfl rfl (v_fieldAddr rfl Tryz.underlying230 inf66 rfl rfl rfl rfl) ?_ | refine o_q _ rfl rfl rfl (v_fieldAddrE rfl Tryz.underlying230 inf66 rfl rfl rfl rfl) ?_
              first | refine o_q _ rfl rfl rfl (v_fieldAddr rfl Tryz.underlying66 inf64 rfl rfl rfl rfl) ?_ | refine o_q _ rfl rfl rfl (v_fieldAddrE rfl Tryz.underlying66 inf64 rfl rfl rfl rfl) ?_
              refine o_st rfl inf64 rfl rfl rfl rfl rfl rfl rfl rfl ?_; refine o_nil ?_; repeat (first | with_reducible refine r_then ?_ | with_reducible refine r_in_normal ?_ | with_reducible refine r_sc_normal ?_); refine r_seq (r_region ?_); refine q_mv rfl rfl rfl rfl rfl ?_; refine q_as rfl rfl rfl rfl rfl ?_; refine o_nil ?_; repeat (first | with_reducible refine r_then ?_ | with_reducible refine r_in_normal ?_ | with_reducible refine r_sc_normal ?_); refine r_ret ?_; repeat (first | with_reducible refine r_then_ret ?_ | with_reducible refine r_in_ret ?_ | with_reducible refine r_sc_ret ?_)
              skip
set_option maxHeartbeats 4000000 in
theorem open_x1 (ki : FuncId) (caps : List Value) (Rc : List Fact) (hl1 : B.banks.length ≤ 40) (hl2 : B.rain.length ≤ 40) (hl3 : B.signs.length ≤ 40) (hng : ¬ GoodB B) : FnX Tryz.prog 78 [valB B bo ro so bc rc sc, .func (.func ki) #[] caps.toArray] (rowD bo 4 encB B.banks :: rowD ro 2 encS B.rain :: rowD so 3 encG B.signs :: Rc) (.iface 226 (i64 1)) := by
  refine FnX.intro Tryz.call78 Tryz.func78 rfl Tryz.ntmps78 rfl ?_
  intro W M Rf
  refine r_seq ?_
  refine r_region ?_
  refine o_boxA rfl rfl rfl rfl rfl (fun b2 => ?_)
  refine o_q _ rfl rfl rfl (v_assign rfl rfl) ?_
  refine o_nil ?_
  with_reducible refine r_then ?_
  refine r_seq ?_
  refine r_region ?_
  refine o_q _ rfl rfl rfl (v_fieldAddr rfl Tryz.underlying66 inf63 rfl rfl rfl rfl) ?_
  refine o_q _ rfl rfl rfl (v_ld1 rfl Tryz.underlying63 rfl rfl rfl) ?_
  refine o_q _ rfl rfl rfl (v_len rfl rfl Tryz.underlying63 rfl) ?_
  refine o_test rfl rfl rfl (OpQ.fn (within_v _ _ _) rfl rfl SubRC.sub) (fun h14 => ?_) (fun h14 => ?_)
  all_goals
    refine o_q _ rfl rfl rfl (v_move rfl rfl) ?_
    first | refine o_gn rfl rfl rfl rfl ?_ | refine o_g _ rfl rfl rfl rfl (v_fieldAddr rfl Tryz.underlying66 inf43 rfl rfl rfl rfl) ?_
    first | refine o_gn rfl rfl rfl rfl ?_ | refine o_g _ rfl rfl rfl rfl (v_ldN rfl Tryz.underlying43 rfl inf43 rfl rfl rfl) ?_
    first | refine o_gn rfl rfl rfl rfl ?_ | refine o_gtest rfl rfl rfl rfl (OpQ.fn (isSpan_v _ _ _ _) rfl rfl SubRC.sub) (fun h18 => ?_) (fun h18 => ?_)
    all_goals
      first | refine o_q _ rfl rfl rfl (v_pick_t rfl rfl rfl) ?_ | refine o_q _ rfl rfl rfl (v_pick_f rfl rfl rfl) ?_
      refine o_q _ rfl rfl rfl (v_move rfl rfl) ?_
      first | refine o_gn rfl rfl rfl rfl ?_ | refine o_g _ rfl rfl rfl rfl (v_fieldAddr rfl Tryz.underlying66 inf59 rfl rfl rfl rfl) ?_
      first | refine o_gn rfl rfl rfl rfl ?_ | refine o_g _ rfl rfl rfl rfl (v_ld1 rfl Tryz.underlying59 rfl rfl rfl) ?_
      first | refine o_gn rfl rfl rfl rfl ?_ | refine o_g _ rfl rfl rfl rfl (v_len rfl rfl Tryz.underlying59 rfl) ?_
      first | refine o_gn rfl rfl rfl rfl ?_ | refine o_gtest rfl rfl rfl rfl (OpQ.fn (within_v _ _ _) rfl rfl SubRC.sub) (fun h24 => ?_) (fun h24 => ?_)
      all_goals
        first | refine o_q _ rfl rfl rfl (v_pick_t rfl rfl rfl) ?_ | refine o_q _ rfl rfl rfl (v_pick_f rfl rfl rfl) ?_
        refine o_q _ rfl rfl rfl (v_move rfl rfl) ?_
        first | refine o_gn rfl rfl rfl rfl ?_ | refine o_g _ rfl rfl rfl rfl (v_fieldAddr rfl Tryz.underlying66 inf3 rfl rfl rfl rfl) ?_
        first | refine o_gn rfl rfl rfl rfl ?_ | refine o_g _ rfl rfl rfl rfl (v_ld1 rfl Tryz.underlying3 rfl rfl rfl) ?_
        first | refine o_gn rfl rfl rfl rfl ?_ | refine o_gtest rfl rfl rfl rfl (OpQ.fn (within_v _ _ _) rfl rfl SubRC.sub) (fun h29 => ?_) (fun h29 => ?_)
        all_goals
          first | refine o_q _ rfl rfl rfl (v_pick_t rfl rfl rfl) ?_ | refine o_q _ rfl rfl rfl (v_pick_f rfl rfl rfl) ?_
          refine o_q _ rfl rfl rfl (v_move rfl rfl) ?_
          first | refine o_gn rfl rfl rfl rfl ?_ | refine o_g _ rfl rfl rfl rfl (v_fieldAddr rfl Tryz.underlying66 inf64 rfl rfl rfl rfl) ?_
          first | refine o_gn rfl rfl rfl rfl ?_ | refine o_g _ rfl rfl rfl rfl (v_ld1 rfl Tryz.underlying64 rfl rfl rfl) ?_
          first | refine o_gn rfl rfl rfl rfl ?_ | refine o_g _ rfl rfl rfl rfl (v_len rfl rfl Tryz.underlying64 rfl) ?_
          first | refine o_gn rfl rfl rfl rfl ?_ | refine o_gtest rfl rfl rfl rfl (v_leq rfl rfl rfl) (fun h35 => ?_) (fun h35 => ?_)
          all_goals
            first | refine o_q _ rfl rfl rfl (v_pick_t rfl rfl rfl) ?_ | refine o_q _ rfl rfl rfl (v_pick_f rfl rfl rfl) ?_
            first | refine o_q _ rfl rfl rfl (OpQ.fn (ask_t _) rfl rfl SubRC.sub) ?_ | refine o_fnx (ask_f _) rfl rfl rfl SubRC.sub ?_
            repeat (first | with_reducible refine r_then_panic ?_)
            try (exact r_retx SelMC.sel SubRC.sub)
            all_goals
              refine o_nil ?_
              with_reducible refine r_then ?_
              refine r_seq ?_
              refine r_seq ?_
              refine r_region ?_
              refine o_q _ rfl rfl rfl (v_fieldAddr rfl Tryz.underlying66 inf63 rfl rfl rfl rfl) ?_
              refine o_q _ rfl rfl rfl (v_ld1 rfl Tryz.underlying63 rfl rfl rfl) ?_
              refine o_q _ rfl rfl rfl (v_len rfl rfl Tryz.underlying63 rfl) ?_
              refine o_q _ rfl rfl rfl (v_move rfl rfl) ?_
              refine o_nil ?_
              with_reducible refine r_then ?_
              refine r_block ?_
              refine r_loop (ι := Nat) (fun k => k ≤ B.banks.length ∧ ∀ j, j < k → BankOk (B.banks.getD j default)) (fun k => [(1, .func (.func ki) #[] caps.toArray), (2, pt b2 0), (39, .slice bo B.banks.length bc), (40, i64 B.banks.length), (41, i64 k)]) (fun k => bx b2 66 (cellsB B bo ro so bc rc sc) :: M) (fun k => (rowD bo 4 encB B.banks :: rowD ro 2 encS B.rain :: rowD so 3 encG B.signs :: Rc) ++ Rf) (fun k => B.banks.length - k) 0 ?_ ?_ ?_
              ·
                exact r_here (by repeat (first | exact FSub.nil | refine FSub.cons rfl ?_)) SelMC.sel SubRC.sub
              ·
                exact ⟨Nat.zero_le _, fun j hj => absurd hj (by omega)⟩
              ·
                rintro k hI0
                refine r_seq ?_
                refine r_region ?_
                refine o_q _ rfl rfl rfl (v_lss rfl rfl rfl) ?_
                refine o_nil ?_
                with_reducible refine r_then ?_
                refine r_seq ?_
                refine r_condd rfl (fun hc42 => ?_) (fun hc42 => ?_)
                ·
                  refine r_skip ?_
                  with_reducible refine r_then ?_
                  refine r_seq ?_
                  refine r_block ?_
                  refine r_seq ?_
                  refine r_region ?_
                  refine o_q _ rfl rfl rfl (v_indexAddrSn rfl Tryz.underlying63 inf75 rfl rfl rfl (by omega) rfl) ?_
                  refine o_q _ rfl rfl rfl (v_loadEN rfl Tryz.underlying75 rfl inf75 rfl (by omega) rfl rfl rfl) ?_
                  refine o_alloc rfl inf75 rfl rfl rfl rfl rfl (fun b6 => ?_)
                  refine o_st rfl inf75 rfl rfl rfl rfl rfl rfl rfl rfl ?_
                  refine o_nil ?_
                  with_reducible refine r_then ?_
                  refine Imp.box_to b6 [i64 (B.banks.getD k default).blo, i64 (B.banks.getD k default).bhi, i64 (B.banks.getD k default).clo, i64 (B.banks.getD k default).chi] rfl ?_
                  refine r_region ?_
                  refine o_q _ rfl rfl rfl (v_fieldAddr rfl Tryz.underlying75 inf43 rfl rfl rfl rfl) ?_
                  refine o_q _ rfl rfl rfl (v_ldN rfl Tryz.underlying43 rfl inf43 rfl rfl rfl) ?_
                  refine o_test rfl rfl rfl (OpQ.fn (isSpan_v _ _ _ _) rfl rfl SubRC.sub) (fun h47 => ?_) (fun h47 => ?_)
                  all_goals
                    refine o_q _ rfl rfl rfl (v_move rfl rfl) ?_
                    first | refine o_gn rfl rfl rfl rfl ?_ | refine o_g _ rfl rfl rfl rfl (v_fieldAddr rfl Tryz.underlying75 inf43 rfl rfl rfl rfl) ?_
                    first | refine o_gn rfl rfl rfl rfl ?_ | refine o_g _ rfl rfl rfl rfl (v_ldN rfl Tryz.underlying43 rfl inf43 rfl rfl rfl) ?_
                    first | refine o_gn rfl rfl rfl rfl ?_ | refine o_gtest rfl rfl rfl rfl (OpQ.fn (isSpan_v _ _ _ _) rfl rfl SubRC.sub) (fun h51 => ?_) (fun h51 => ?_)
                    all_goals
                      first | refine o_q _ rfl rfl rfl (v_pick_t rfl rfl rfl) ?_ | refine o_q _ rfl rfl rfl (v_pick_f rfl rfl rfl) ?_
                      first | refine o_q _ rfl rfl rfl (OpQ.fn (ask_t _) rfl rfl SubRC.sub) ?_ | refine o_fnx (ask_f _) rfl rfl rfl SubRC.sub ?_
                      repeat (first | with_reducible refine r_then_panic ?_ | with_reducible refine r_in_panic ?_)
                      try (exact r_retx SelMC.sel SubRC.sub)
                      all_goals
                        refine o_nil ?_
                        with_reducible refine r_in_normal ?_; refine r_then ?_
                        refine r_region ?_
                        refine o_q _ rfl rfl rfl (v_add rfl rfl rfl (by omega)) ?_
                        refine o_q _ rfl rfl rfl (v_move rfl rfl) ?_
                        refine o_nil ?_
                        with_reducible refine r_then ?_
                        refine r_next (k + 1) ?_ ?_ ?_
                        ·
                          exact r_here (by repeat (first | exact FSub.nil | refine FSub.cons rfl ?_)) SelMC.sel SubRC.sub
                        ·
                          exact ⟨by omega, all_step hI0.2 (by unfold BankOk; omega)⟩
                        ·
                          omega
                ·
                  refine r_exit ?_
                  with_reducible refine r_then_exit ?_; refine r_then_exit ?_; refine r_in_here ?_; refine r_then ?_
                  refine r_seq ?_
                  refine r_region ?_
                  refine o_q _ rfl rfl rfl (v_fieldAddr rfl Tryz.underlying66 inf59 rfl rfl rfl rfl) ?_
                  refine o_q _ rfl rfl rfl (v_ld1 rfl Tryz.underlying59 rfl rfl rfl) ?_
                  refine o_test rfl rfl rfl (OpQ.fn (spans_c (fun s => ¬ RainOk s) B.rain ro rc 134 [] [] (by omega) (fun j hj => open1_v _)) rfl rfl SubRC.sub) (fun h57 => ?_) (fun h57 => ?_)
                  all_goals
                    refine o_q _ rfl rfl rfl (v_not rfl rfl) ?_
                    first | refine o_q _ rfl rfl rfl (OpQ.fn (ask_t _) rfl rfl SubRC.sub) ?_ | refine o_fnx (ask_f _) rfl rfl rfl SubRC.sub ?_
                    repeat (first | with_reducible refine r_then_panic ?_)
                    try (exact r_retx SelMC.sel SubRC.sub)
                    all_goals
                      refine o_nil ?_
                      with_reducible refine r_then ?_
                      refine r_seq ?_
                      refine r_region ?_
                      refine o_q _ rfl rfl rfl (v_fieldAddr rfl Tryz.underlying66 inf64 rfl rfl rfl rfl) ?_
                      refine o_q _ rfl rfl rfl (v_ld1 rfl Tryz.underlying64 rfl rfl rfl) ?_
                      refine o_q _ rfl rfl rfl (v_len rfl rfl Tryz.underlying64 rfl) ?_
                      refine o_make (enc := encG) (sz := 3) (⟨0, 0, 0⟩ : Sign) rfl Tryz.underlying64 inf142 rfl rfl rfl rfl rfl rfl rfl rfl rfl (Nat.le_refl _) ⟨by omega, by decide⟩ (fun b63 => ?_)
                      refine o_q _ rfl rfl rfl (v_assign rfl rfl) ?_
                      refine o_nil ?_
                      with_reducible refine r_then ?_
                      refine r_seq ?_
                      refine r_region ?_
                      refine o_q _ rfl rfl rfl (v_move rfl rfl) ?_
                      refine o_q _ rfl rfl rfl (v_fieldAddr rfl Tryz.underlying66 inf64 rfl rfl rfl rfl) ?_
                      refine o_q _ rfl rfl rfl (v_ld1 rfl Tryz.underlying64 rfl rfl rfl) ?_
                      refine o_copy (enc := encG) (sz := 3) (xs := List.replicate B.signs.length (⟨0, 0, 0⟩ : Sign)) (ys := B.signs) rfl Tryz.underlying64 inf142 rfl rfl rfl rfl encG_len oneG rfl rfl rfl (by simp) ?_
                      refine o_nil ?_
                      with_reducible refine r_then ?_
                      refine r_seq ?_
                      refine r_region ?_
                      refine o_q _ rfl rfl rfl (v_ldW rfl Tryz.underlying66 rfl inf66 rfl rfl) ?_
                      refine o_makeMap (P := Tryz.prog) (k := 233) (okB B) rfl rfl rfl rfl (fun b69 => ?_)
                      refine o_q _ rfl rfl rfl (v_bS rfl Tryz.underlying230 inf230 plt230 rfl rfl rfl (by repeat (first | exact trivial | refine ⟨rfl, ?_⟩)) (by rfl)) ?_
                      refine o_boxA rfl rfl rfl rfl rfl (fun b71 => ?_)
                      refine o_q _ rfl rfl rfl (v_assign rfl rfl) ?_
                      refine o_nil ?_
                      with_reducible refine r_then ?_
                      refine r_seq ?_
                      refine r_seq ?_
                      refine Imp.box_to b71 [.slice bo B.banks.length bc, i64 B.wlo, i64 B.whi, .slice ro B.rain.length rc, i64 B.drain, .slice so B.signs.length sc, .map (some b69)] rfl ?_
                      refine r_region ?_
                      refine o_q _ rfl rfl rfl (v_move rfl rfl) ?_
                      refine o_q _ rfl rfl rfl (v_len rfl rfl Tryz.underlying64 rfl) ?_
                      refine o_q _ rfl rfl rfl (v_move rfl rfl) ?_
                      refine o_nil ?_
                      with_reducible refine r_then ?_
                      refine r_block ?_
                      refine r_loop (ι := Nat) (fun k => k ≤ B.signs.length ∧ ∀ j, j < k → SignOk B (B.signs.getD j default)) (fun k => [(1, .func (.func ki) #[] caps.toArray), (7, .slice (some ⟨b63, 0, none⟩) B.signs.length B.signs.length), (8, pt b71 0), (72, .slice (some ⟨b63, 0, none⟩) B.signs.length B.signs.length), (73, i64 B.signs.length), (74, i64 k)]) (fun k => bx b71 230 [.slice bo B.banks.length bc, i64 B.wlo, i64 B.whi, .slice ro B.rain.length rc, i64 B.drain, .slice so B.signs.length sc, .map (some b69)] :: memo Tryz.prog 233 (okB B) b69 :: ownL (.slice (some ⟨b63, 0, none⟩) B.signs.length B.signs.length) 142 3 encG B.signs :: M) (fun k => (rowD bo 4 encB B.banks :: rowD ro 2 encS B.rain :: rowD so 3 encG B.signs :: Rc) ++ Rf) (fun k => B.signs.length - k) 0 ?_ ?_ ?_
                      ·
                        exact r_here (by repeat (first | exact FSub.nil | refine FSub.cons rfl ?_)) SelMC.sel SubRC.sub
                      ·
                        exact ⟨Nat.zero_le _, fun j hj => absurd hj (by omega)⟩
                      ·
                        rintro k hI1
                        refine r_seq ?_
                        refine r_region ?_
                        refine o_q _ rfl rfl rfl (v_lss rfl rfl rfl) ?_
                        refine o_nil ?_
                        with_reducible refine r_then ?_
                        refine r_seq ?_
                        refine r_condd rfl (fun hc75 => ?_) (fun hc75 => ?_)
                        ·
                          refine r_skip ?_
                          with_reducible refine r_then ?_
                          refine r_seq ?_
                          refine r_block ?_
                          refine r_seq ?_
                          refine r_region ?_
                          refine o_q _ rfl rfl rfl (v_indexAddrO (xs := B.signs) encG_len rfl Tryz.underlying64 inf142 rfl rfl rfl (by omega) rfl) ?_
                          refine o_q _ rfl rfl rfl (v_loadEO (xs := B.signs) (cap := B.signs.length) encG_len rfl Tryz.underlying142 rfl inf142 rfl rfl (by omega) rfl rfl rfl) ?_
                          refine o_alloc rfl inf142 rfl rfl rfl rfl rfl (fun b10 => ?_)
                          refine o_st rfl inf142 rfl rfl rfl rfl rfl rfl rfl rfl ?_
                          refine o_nil ?_
                          with_reducible refine r_then ?_
                          refine Imp.box_to b10 [i64 (B.signs.getD k default).kind, i64 (B.signs.getD k default).bank, i64 (B.signs.getD k default).day] rfl ?_
                          refine r_region ?_
                          refine o_q _ rfl rfl rfl (v_move rfl rfl) ?_
                          refine o_q _ rfl rfl rfl (v_fieldAddr rfl Tryz.underlying142 inf3 rfl rfl rfl rfl) ?_
                          refine o_q _ rfl rfl rfl (v_ld1 rfl Tryz.underlying3 rfl rfl rfl) ?_
                          refine o_test rfl rfl rfl (OpQ.fnm (isDay_m B bo ro so bc rc sc b71 b69 _) rfl [] [] rfl rfl rfl SubRC.sub) (fun h81 => ?_) (fun h81 => ?_)
                          all_goals
                            refine o_q _ rfl rfl rfl (v_move rfl rfl) ?_
                            first | refine o_gn rfl rfl rfl rfl ?_ | refine o_g _ rfl rfl rfl rfl (v_fieldAddr rfl Tryz.underlying142 inf3 rfl rfl rfl rfl) ?_
                            first | refine o_gn rfl rfl rfl rfl ?_ | refine o_g _ rfl rfl rfl rfl (v_ld1 rfl Tryz.underlying3 rfl rfl rfl) ?_
                            first | refine o_gn rfl rfl rfl rfl ?_ | refine o_gtest rfl rfl rfl rfl (v_eql rfl rfl rfl) (fun h85 => ?_) (fun h85 => ?_)
                            all_goals
                              first | refine o_gn rfl rfl rfl rfl ?_ | refine o_g _ rfl rfl rfl rfl (v_move rfl rfl) ?_
                              first | refine o_gn rfl rfl rfl rfl ?_ | refine o_g _ rfl rfl rfl rfl (v_fieldAddr rfl Tryz.underlying142 inf3 rfl rfl rfl rfl) ?_
                              first | refine o_gn rfl rfl rfl rfl ?_ | refine o_g _ rfl rfl rfl rfl (v_ld1 rfl Tryz.underlying3 rfl rfl rfl) ?_
                              first | refine o_gn rfl rfl rfl rfl ?_ | refine o_gtest rfl rfl rfl rfl (OpQ.fn (within_v _ _ _) rfl rfl SubRC.sub) (fun h89 => ?_) (fun h89 => ?_)
                              all_goals
                                first | refine o_gn rfl rfl rfl rfl ?_ | refine o_g _ rfl rfl rfl rfl (v_move rfl rfl) ?_
                                first | refine o_gn rfl rfl rfl rfl ?_ | refine o_g _ rfl rfl rfl rfl (v_move rfl rfl) ?_
                                first | refine o_gn rfl rfl rfl rfl ?_ | refine o_g _ rfl rfl rfl rfl (v_fieldAddr rfl Tryz.underlying142 inf3 rfl rfl rfl rfl) ?_
                                first | refine o_gn rfl rfl rfl rfl ?_ | refine o_g _ rfl rfl rfl rfl (v_ld1 rfl Tryz.underlying3 rfl rfl rfl) ?_
                                first | refine o_gn rfl rfl rfl rfl ?_ | refine o_gtest rfl rfl rfl rfl (OpQ.fnm (isBank_m B bo ro so bc rc sc b71 b69 _ (by omega)) rfl [] [] rfl rfl rfl SubRC.sub) (fun h94 => ?_) (fun h94 => ?_)
                                all_goals
                                  first | refine o_gn rfl rfl rfl rfl ?_ | refine o_g _ rfl rfl rfl rfl (v_pick_t rfl rfl rfl) ?_ | refine o_g _ rfl rfl rfl rfl (v_pick_f rfl rfl rfl) ?_
                                  first | refine o_gn rfl rfl rfl rfl ?_ | refine o_g _ rfl rfl rfl rfl (v_pick_t rfl rfl rfl) ?_ | refine o_g _ rfl rfl rfl rfl (v_pick_f rfl rfl rfl) ?_
                                  first | refine o_q _ rfl rfl rfl (v_pick_t rfl rfl rfl) ?_ | refine o_q _ rfl rfl rfl (v_pick_f rfl rfl rfl) ?_
                                  first | refine o_q _ rfl rfl rfl (OpQ.fn (ask_t _) rfl rfl SubRC.sub) ?_ | refine o_fnx (ask_f _) rfl rfl rfl SubRC.sub ?_
                                  repeat (first | with_reducible refine r_then_panic ?_ | with_reducible refine r_in_panic ?_)
                                  try (exact r_retx SelMC.sel SubRC.sub)
                                  all_goals
                                    refine o_nil ?_
                                    with_reducible refine r_in_normal ?_; refine r_then ?_
                                    refine r_region ?_
                                    refine o_q _ rfl rfl rfl (v_add rfl rfl rfl (by omega)) ?_
                                    refine o_q _ rfl rfl rfl (v_move rfl rfl) ?_
                                    refine o_nil ?_
                                    with_reducible refine r_then ?_
                                    refine r_next (k + 1) ?_ ?_ ?_
                                    ·
                                      exact r_here (by repeat (first | exact FSub.nil | refine FSub.cons rfl ?_)) SelMC.sel SubRC.sub
                                    ·
                                      exact ⟨by omega, all_step hI1.2 (by unfold SignOk; omega)⟩
                                    ·
                                      omega
                        ·
                          refine r_exit ?_
                          with_reducible refine r_then_exit ?_; refine r_then_exit ?_; refine r_in_here ?_; refine r_then ?_
                          refine r_seq ?_
                          exfalso
                          obtain rfl : k = B.signs.length := by omega
                          refine hng ⟨by omega, by omega, by omega, by omega, by omega, fun j hj => ?_, fun j hj => ?_, fun j hj => hI1.2 j hj⟩
                          · exact hI0.2 j (by omega)
                          · exact Classical.byContradiction fun h => h57 ⟨j, hj, h⟩
end Go.Proofs.YtpndeonmmcaikaaGreat.BurstW

namespace Go.Proofs.YtpndeonmmcaikaaGreat.BurstW
open Go.G Burst8
set_option maxRecDepth 1000000
attribute [local irreducible] G.ParO G.Fin
theorem FnM.to {P : Program} {k : FuncId} {args : List Value} {m : Res} {R0 : List Fact} {u v : Value} (h : FnM P k args m R0 (fun x => x = u)) (e : u = v) : FnM P k args m R0 (fun x => x = v) := e ▸ h
attribute [local irreducible] fw fwR fwC emptyT tabOf knownT canB boundsL
variable (B : Bog) (bo ro so : Option Addr) (bc rc sc : Nat) (bb mb : Nat)
def chkB (B : Bog) (v : Bool) : Int := if GoodB B then (if v then (if canB B (allS B) 0 false = true then 0 else 10) else 2) else 1
abbrev tB (B : Bog) : Tab := knownT B (allS B) 0 false
theorem chkB_1 {B : Bog} {v : Bool} (h : ¬ GoodB B) : chkB B v = 1 := if_neg h
theorem chkB_2 {B : Bog} {v : Bool} (h : GoodB B) (hv : v = false) : chkB B v = 2 := by unfold chkB; rw [if_pos h, hv]; rfl
theorem chkB_10 {B : Bog} {v : Bool} (h : GoodB B) (hv : v = true) (hc : canB B (allS B) 0 false = false) : chkB B v = 10 := by unfold chkB; rw [if_pos h, hv, if_pos rfl, hc]; rfl
theorem chkB_0 {B : Bog} {v : Bool} (h : GoodB B) (hv : v = true) (hc : canB B (allS B) 0 false = true) : chkB B v = 0 := by unfold chkB; rw [if_pos h, hv, if_pos rfl, hc]; rfl
def ansB {α : Type} (B : Bog) (v : Bool) (z : α) (x : α) : α × Int := if chkB B v = 0 then (x, 0) else (z, chkB B v)
theorem ansB_0 {α : Type} {B : Bog} {v : Bool} {z x : α} (h : chkB B v = 0) : ansB B v z x = (x, 0) := if_pos h
theorem ansB_n {α : Type} {B : Bog} {v : Bool} {z x : α} {e : Int} (h : chkB B v = e) (he : e ≠ 0) : ansB B v z x = (z, e) := by unfold ansB; rw [h, if_neg he]
def ansE {α : Type} (B : Bog) (v : Bool) (z : α) (x : α) (ok : Prop) [Decidable ok] : α × Int := if chkB B v = 0 then (if ok then (x, 0) else (z, 4)) else (z, chkB B v)
theorem ansE_n {α : Type} {B : Bog} {v : Bool} {z x : α} {ok : Prop} [Decidable ok] {e : Int} (h : chkB B v = e) (he : e ≠ 0) : ansE B v z x ok = (z, e) := by unfold ansE; rw [h, if_neg he]
theorem ansE_0 {α : Type} {B : Bog} {v : Bool} {z x : α} {ok : Prop} [Decidable ok] (h : chkB B v = 0) (hk : ok) : ansE B v z x ok = (x, 0) := by unfold ansE; rw [if_pos h, if_pos hk]
theorem ansE_4 {α : Type} {B : Bog} {v : Bool} {z x : α} {ok : Prop} [Decidable ok] (h : chkB B v = 0) (hk : ¬ ok) : ansE B v z x ok = (z, 4) := by unfold ansE; rw [if_pos h, if_neg hk]
abbrev isD (B : Bog) (d : Int) : Bool := decide (0 ≤ d ∧ d ≤ (B.rain.length : Int))
abbrev isK (B : Bog) (k : Int) : Bool := decide (0 ≤ k ∧ k ≤ (B.banks.length : Int) - 1)
def spareB (B : Bog) (k : Int) : Int × Int := ansE B (isK B k) 0 (worstT (tB B) k.toNat B.rain.length) (0 ≤ worstT (tB B) k.toNat B.rain.length)
def firstB (B : Bog) (d : Int) : Int × Int := ansE B (isD B d) 0 ((firstT (tB B) B.banks.length d.toNat).1 : Int) ((firstT (tB B) B.banks.length d.toNat).2 < 0)
def marginB (B : Bog) (k d : Int) : Burst8.Span × Int := ansB B (decide ((0 ≤ k ∧ k ≤ (B.banks.length : Int) - 1) ∧ (0 ≤ d ∧ d ≤ (B.rain.length : Int)))) ⟨0, 0⟩ (marginT (tB B) k.toNat d.toNat)
set_option maxHeartbeats 4000000 in
theorem margin_x1 (k d : Int) (hl1 : B.banks.length ≤ 40) (hl2 : B.rain.length ≤ 40) (hl3 : B.signs.length ≤ 40) (hng : ¬ GoodB B) : FnV Tryz.prog 26 [valB B bo ro so bc rc sc, i64 k, i64 d] [rowD bo 4 encB B.banks, rowD ro 2 encS B.rain, rowD so 3 encG B.signs] (.tuple #[vS (marginB B k d).1, i64 (marginB B k d).2]) := by
 refine FnV.introD Tryz.call26 Tryz.func26 rfl Tryz.ntmps26 rfl ?_; intro W M Rf; refine r_seq (r_region ?_); refine o_boxA rfl rfl rfl rfl rfl (fun b3 => ?_); refine o_box1 rfl rfl rfl rfl rfl rfl (fun b4 => ?_); refine o_box1 rfl rfl rfl rfl rfl rfl (fun b5 => ?_); refine o_alloc rfl inf43 rfl rfl rfl rfl rfl (fun b6 => ?_); refine o_alloc rfl inf47 rfl rfl rfl rfl rfl (fun b7 => ?_); refine o_nil (r_then (r_seq (r_region ?_))); refine o_defer rfl rfl rfl rfl ?_; refine o_nil (r_then (r_seq ?_)); refine Imp.sealB b4 ?_; refine Imp.sealB b5 ?_; refine r_parX 6 mixed (by kernel_rfl) (by rfl) ?_; refine p_q _ rfl rfl rfl (fun _ _ => v_ldW rfl Tryz.underlying66 rfl inf66 rfl rfl) ?_; refine p_q _ rfl rfl rfl (fun _ _ => v_makeFunc rfl rfl rfl) ?_; refine p_deadX (open_x1 B bo ro so bc rc sc 90 [pt b4 0, pt b5 0] [boxF b4 3 [i64 k], boxF b5 3 [i64 d]] hl1 hl2 hl3 hng) rfl rfl rfl rfl rfl SubRC.sub ?_; refine p_acc (by simp only [List.nil_append, List.cons_append]; rfl) ?_; refine p_dead 2 rfl rfl rfl (fun _ h => h) (by kernel_rfl) rfl rfl rfl ?_; refine p_q _ rfl rfl rfl (fun _ _ => v_lf1 rfl Tryz.underlying3 rfl rfl rfl) ?_; refine p_q _ rfl rfl rfl (fun _ _ => v_lf1 rfl Tryz.underlying3 rfl rfl rfl) ?_; refine p_nilX (panOf (.iface 226 (i64 1))) (by simp only [List.nil_append, List.cons_append]; rfl) rfl (by kernel_rfl) rfl ?_ ?_
 ·
  (with_reducible refine r_then_panic ?_); exact d_panv answer_ans (Rd.two rfl (RdI.cellW Tryz.underlying43 rfl inf43 rfl rfl) (RdI.cell1 Tryz.underlying47 rfl rfl rfl)) (by rw [marginB, ansB_n (chkB_1 hng) (by decide)]; try rfl) SelMC.sel SubRC.sub
 ·
  refine f_q rfl ?_; refine f_q rfl ?_; exact f_dead
set_option maxHeartbeats 4000000 in
theorem margin_x2 (k d : Int) (hl1 : B.banks.length ≤ 40) (hl2 : B.rain.length ≤ 40) (hl3 : B.signs.length ≤ 40) (hg : GoodB B) (hv : decide ((0 ≤ k ∧ k ≤ (B.banks.length : Int) - 1) ∧ (0 ≤ d ∧ d ≤ (B.rain.length : Int))) = false) : FnV Tryz.prog 26 [valB B bo ro so bc rc sc, i64 k, i64 d] [rowD bo 4 encB B.banks, rowD ro 2 encS B.rain, rowD so 3 encG B.signs] (.tuple #[vS (marginB B k d).1, i64 (marginB B k d).2]) := by
 refine FnV.introD Tryz.call26 Tryz.func26 rfl Tryz.ntmps26 rfl ?_; intro W M Rf; refine r_seq (r_region ?_); refine o_boxA rfl rfl rfl rfl rfl (fun b3 => ?_); refine o_box1 rfl rfl rfl rfl rfl rfl (fun b4 => ?_); refine o_box1 rfl rfl rfl rfl rfl rfl (fun b5 => ?_); refine o_alloc rfl inf43 rfl rfl rfl rfl rfl (fun b6 => ?_); refine o_alloc rfl inf47 rfl rfl rfl rfl rfl (fun b7 => ?_); refine o_nil (r_then (r_seq (r_region ?_))); refine o_defer rfl rfl rfl rfl ?_; refine o_nil (r_then (r_seq ?_)); refine Imp.sealB b4 ?_; refine Imp.sealB b5 ?_; refine r_parX 6 mixed (by kernel_rfl) (by rfl) ?_; refine p_q _ rfl rfl rfl (fun _ _ => v_ldW rfl Tryz.underlying66 rfl inf66 rfl rfl) ?_; refine p_q _ rfl rfl rfl (fun _ _ => v_makeFunc rfl rfl rfl) ?_; refine p_deadX (open_x2 B bo ro so bc rc sc 90 [pt b4 0, pt b5 0] [boxF b4 3 [i64 k], boxF b5 3 [i64 d]] (fun bb mb => FnM.to (mar54_m B bo ro so bc rc sc bb mb k d b4 b5 (by omega)) (congrArg Value.bool hv)) hl1 hl2 hl3 hg) rfl rfl rfl rfl rfl SubRC.sub ?_; refine p_acc (by simp only [List.nil_append, List.cons_append]; rfl) ?_; refine p_dead 2 rfl rfl rfl (fun _ h => h) (by kernel_rfl) rfl rfl rfl ?_; refine p_q _ rfl rfl rfl (fun _ _ => v_lf1 rfl Tryz.underlying3 rfl rfl rfl) ?_; refine p_q _ rfl rfl rfl (fun _ _ => v_lf1 rfl Tryz.underlying3 rfl rfl rfl) ?_; refine p_nilX (panOf (.iface 226 (i64 2))) (by simp only [List.nil_append, List.cons_append]; rfl) rfl (by kernel_rfl) rfl ?_ ?_
 ·
  (with_reducible refine r_then_panic ?_); exact d_panv answer_ans (Rd.two rfl (RdI.cellW Tryz.underlying43 rfl inf43 rfl rfl) (RdI.cell1 Tryz.underlying47 rfl rfl rfl)) (by rw [marginB, ansB_n (chkB_2 hg hv) (by decide)]; try rfl) SelMC.sel SubRC.sub
 ·
  refine f_q rfl ?_; refine f_q rfl ?_; exact f_dead
set_option maxHeartbeats 4000000 in
theorem margin_x3 (k d : Int) (hl1 : B.banks.length ≤ 40) (hl2 : B.rain.length ≤ 40) (hl3 : B.signs.length ≤ 40) (hg : GoodB B) (hv : decide ((0 ≤ k ∧ k ≤ (B.banks.length : Int) - 1) ∧ (0 ≤ d ∧ d ≤ (B.rain.length : Int))) = true) (hc : canB B (allS B) 0 false = false) : FnV Tryz.prog 26 [valB B bo ro so bc rc sc, i64 k, i64 d] [rowD bo 4 encB B.banks, rowD ro 2 encS B.rain, rowD so 3 encG B.signs] (.tuple #[vS (marginB B k d).1, i64 (marginB B k d).2]) := by
 refine FnV.introD Tryz.call26 Tryz.func26 rfl Tryz.ntmps26 rfl ?_; intro W M Rf; refine r_seq (r_region ?_); refine o_boxA rfl rfl rfl rfl rfl (fun b3 => ?_); refine o_box1 rfl rfl rfl rfl rfl rfl (fun b4 => ?_); refine o_box1 rfl rfl rfl rfl rfl rfl (fun b5 => ?_); refine o_alloc rfl inf43 rfl rfl rfl rfl rfl (fun b6 => ?_); refine o_alloc rfl inf47 rfl rfl rfl rfl rfl (fun b7 => ?_); refine o_nil (r_then (r_seq (r_region ?_))); refine o_defer rfl rfl rfl rfl ?_; refine o_nil (r_then (r_seq ?_)); refine Imp.sealB b4 ?_; refine Imp.sealB b5 ?_; refine r_parX 6 mixed (by kernel_rfl) (by rfl) ?_; refine p_q _ rfl rfl rfl (fun _ _ => v_ldW rfl Tryz.underlying66 rfl inf66 rfl rfl) ?_; refine p_q _ rfl rfl rfl (fun _ _ => v_makeFunc rfl rfl rfl) ?_; refine p_openL 3 (open_ok B bo ro so bc rc sc 90 [pt b4 0, pt b5 0] [boxF b4 3 [i64 k], boxF b5 3 [i64 d]] (fun bb mb => FnM.to (mar54_m B bo ro so bc rc sc bb mb k d b4 b5 (by omega)) (congrArg Value.bool hv)) hl1 hl2 hl3 hg) rfl rfl rfl rfl rfl SubRC.sub ?_; refine p_acc (by simp only [List.nil_append, List.cons_append]; rfl) ?_; refine p_takeX 2 (told_cx B bo ro bc rc hg hc) rfl rfl rfl rfl (by kernel_rfl) rfl rfl rfl SubRC.sub ?_; refine p_q _ rfl rfl rfl (fun _ _ => v_lf1 rfl Tryz.underlying3 rfl rfl rfl) ?_; refine p_q _ rfl rfl rfl (fun _ _ => v_lf1 rfl Tryz.underlying3 rfl rfl rfl) ?_; refine p_nilX (panOf (.iface 226 (i64 10))) (by simp only [List.nil_append, List.cons_append]; rfl) rfl (by kernel_rfl) rfl ?_ ?_
 ·
  (with_reducible refine r_then_panic ?_); exact d_panv answer_ans (Rd.two rfl (RdI.cellW Tryz.underlying43 rfl inf43 rfl rfl) (RdI.cell1 Tryz.underlying47 rfl rfl rfl)) (by rw [marginB, ansB_n (chkB_10 hg hv hc) (by decide)]; try rfl) SelMC.sel SubRC.sub
 ·
  refine f_q rfl ?_; refine f_q rfl ?_; refine f_openL rfl (fun b10 => ?_); exact f_takeX
set_option maxHeartbeats 4000000 in
theorem margin_ok (k d : Int) (hl1 : B.banks.length ≤ 40) (hl2 : B.rain.length ≤ 40) (hl3 : B.signs.length ≤ 40) (hg : GoodB B) (hv : decide ((0 ≤ k ∧ k ≤ (B.banks.length : Int) - 1) ∧ (0 ≤ d ∧ d ≤ (B.rain.length : Int))) = true) (hc : canB B (allS B) 0 false = true) : FnV Tryz.prog 26 [valB B bo ro so bc rc sc, i64 k, i64 d] [rowD bo 4 encB B.banks, rowD ro 2 encS B.rain, rowD so 3 encG B.signs] (.tuple #[vS (marginB B k d).1, i64 (marginB B k d).2]) := by
 have hkd : (0 ≤ k ∧ k ≤ (B.banks.length : Int) - 1) ∧ (0 ≤ d ∧ d ≤ (B.rain.length : Int)) := of_decide_eq_true hv; have hnr := hg.nr; have hnb := hg.nb; refine FnV.introD Tryz.call26 Tryz.func26 rfl Tryz.ntmps26 rfl ?_; intro W M Rf; refine r_seq (r_region ?_); refine o_boxA rfl rfl rfl rfl rfl (fun b3 => ?_); refine o_box1 rfl rfl rfl rfl rfl rfl (fun b4 => ?_); refine o_box1 rfl rfl rfl rfl rfl rfl (fun b5 => ?_); refine o_alloc rfl inf43 rfl rfl rfl rfl rfl (fun b6 => ?_); refine o_alloc rfl inf47 rfl rfl rfl rfl rfl (fun b7 => ?_); refine o_nil (r_then (r_seq (r_region ?_))); refine o_defer rfl rfl rfl rfl ?_; refine o_nil (r_then (r_seq ?_)); refine Imp.sealB b4 ?_; refine Imp.sealB b5 ?_; refine r_par' 6 mixed (by kernel_rfl) (by rfl) ?_; refine p_q _ rfl rfl rfl (fun _ _ => v_ldW rfl Tryz.underlying66 rfl inf66 rfl rfl) ?_; refine p_q _ rfl rfl rfl (fun _ _ => v_makeFunc rfl rfl rfl) ?_; refine p_openL 3 (open_ok B bo ro so bc rc sc 90 [pt b4 0, pt b5 0] [boxF b4 3 [i64 k], boxF b5 3 [i64 d]] (fun bb mb => FnM.to (mar54_m B bo ro so bc rc sc bb mb k d b4 b5 (by omega)) (congrArg Value.bool hv)) hl1 hl2 hl3 hg) rfl rfl rfl rfl rfl SubRC.sub ?_; refine p_acc (by simp only [List.nil_append, List.cons_append]; rfl) ?_; refine p_take 2 (told_c B bo ro bc rc hg hc) rfl rfl rfl rfl (by kernel_rfl) rfl rfl rfl SubRC.sub ?_; refine p_q _ rfl rfl rfl (fun _ _ => v_cast (v := i64 ((k.toNat : Nat) : Int)) (v_lf1 rfl Tryz.underlying3 rfl rfl rfl) (congrArg (Value.int .i64) (by omega))) ?_; refine p_q _ rfl rfl rfl (fun _ _ => v_cast (v := i64 ((d.toNat : Nat) : Int)) (v_lf1 rfl Tryz.underlying3 rfl rfl rfl) (congrArg (Value.int .i64) (by omega))) ?_; refine p_nil2 (by simp only [List.nil_append, List.cons_append]; rfl) rfl ?_ (by kernel_rfl); refine f_q rfl ?_; refine f_q rfl ?_; refine f_openL rfl (fun b10 => ?_); refine f_take rfl ?_; refine f_q rfl ?_; refine f_q rfl ?_; refine f_nil ?_; refine o_q _ rfl rfl rfl (OpQ.fn (margin_v (tB B) (knownT_len _ _ _ _) (SmallT.known hg _ _ _) _ k.toNat d.toNat (by omega) (by omega)) rfl rfl SubRC.sub) ?_; refine o_st rfl inf43 rfl rfl rfl rfl rfl rfl rfl rfl ?_; refine o_st rfl inf47 rfl rfl rfl rfl rfl rfl rfl rfl ?_; refine o_nil (r_then ?_); refine r_ret ?_; exact d_retv answer_ans (Rd.two rfl (RdI.cellW Tryz.underlying43 rfl inf43 rfl rfl) (RdI.cell1 Tryz.underlying47 rfl rfl rfl)) (by rw [marginB, ansB_0 (chkB_0 hg hv hc)]; try rfl) SelMC.sel SubRC.sub
theorem Margin_v (k d : Int) (hl1 : B.banks.length ≤ 40) (hl2 : B.rain.length ≤ 40) (hl3 : B.signs.length ≤ 40) : FnV Tryz.prog 26 [valB B bo ro so bc rc sc, i64 k, i64 d] [rowD bo 4 encB B.banks, rowD ro 2 encS B.rain, rowD so 3 encG B.signs] (.tuple #[vS (marginB B k d).1, i64 (marginB B k d).2]) := by
  by_cases hg : GoodB B
  · cases hv : decide ((0 ≤ k ∧ k ≤ (B.banks.length : Int) - 1) ∧ (0 ≤ d ∧ d ≤ (B.rain.length : Int)))
    · exact margin_x2 B bo ro so bc rc sc k d hl1 hl2 hl3 hg hv
    · cases hc : canB B (allS B) 0 false
      · exact margin_x3 B bo ro so bc rc sc k d hl1 hl2 hl3 hg hv hc
      · exact margin_ok B bo ro so bc rc sc k d hl1 hl2 hl3 hg hv hc
  · exact margin_x1 B bo ro so bc rc sc k d hl1 hl2 hl3 hg
set_option maxHeartbeats 4000000 in
theorem spare_x1 (k : Int) (hl1 : B.banks.length ≤ 40) (hl2 : B.rain.length ≤ 40) (hl3 : B.signs.length ≤ 40) (hng : ¬ GoodB B) : FnV Tryz.prog 22 [valB B bo ro so bc rc sc, i64 k] [rowD bo 4 encB B.banks, rowD ro 2 encS B.rain, rowD so 3 encG B.signs] (.tuple #[i64 (spareB B k).1, i64 (spareB B k).2]) := by
 refine FnV.introD Tryz.call22 Tryz.func22 rfl Tryz.ntmps22 rfl ?_; intro W M Rf; refine r_seq (r_region ?_); refine o_boxA rfl rfl rfl rfl rfl (fun b2 => ?_); refine o_box1 rfl rfl rfl rfl rfl rfl (fun b3 => ?_); refine q_as rfl rfl rfl rfl rfl ?_; refine o_alloc rfl inf47 rfl rfl rfl rfl rfl (fun b5 => ?_); refine o_nil (r_then (r_seq (r_region ?_))); refine o_defer rfl rfl rfl rfl ?_; refine o_nil (r_then (r_seq ?_)); refine Imp.sealB b3 ?_; refine r_parX 8 mixed (by kernel_rfl) (by rfl) ?_; refine p_q _ rfl rfl rfl (fun _ _ => v_ldW rfl Tryz.underlying66 rfl inf66 rfl rfl) ?_; refine p_q _ rfl rfl rfl (fun _ _ => v_makeFunc rfl rfl rfl) ?_; refine p_deadX (open_x1 B bo ro so bc rc sc 79 [pt b3 0] [boxF b3 3 [i64 k]] hl1 hl2 hl3 hng) rfl rfl rfl rfl rfl SubRC.sub ?_; refine p_acc (by simp only [List.nil_append, List.cons_append]; rfl) ?_; refine p_dead 2 rfl rfl rfl (fun _ h => h) (by kernel_rfl) rfl rfl rfl ?_; refine p_q _ rfl rfl rfl (fun _ _ => v_lf1 rfl Tryz.underlying3 rfl rfl rfl) ?_; refine p_q _ rfl rfl rfl (fun _ _ => v_fieldAddr rfl Tryz.underlying66 inf59 rfl rfl rfl rfl) ?_; refine p_q _ rfl rfl rfl (fun _ _ => v_ld1 rfl Tryz.underlying59 rfl rfl rfl) ?_; refine p_q _ rfl rfl rfl (fun _ _ => v_len rfl rfl Tryz.underlying59 rfl) ?_; refine p_nilX (panOf (.iface 226 (i64 1))) (by simp only [List.nil_append, List.cons_append]; rfl) rfl (by kernel_rfl) rfl ?_ ?_
 ·
  (with_reducible refine r_then_panic ?_); exact d_panv answer_ans (Rd.two rfl (RdI.tmp rfl) (RdI.cell1 Tryz.underlying47 rfl rfl rfl)) (by rw [spareB, ansE_n (chkB_1 hng) (by decide)]; try rfl) SelMC.sel SubRC.sub
 ·
  refine f_q rfl ?_; refine f_q rfl ?_; exact f_dead
set_option maxHeartbeats 4000000 in
theorem spare_x2 (k : Int) (hl1 : B.banks.length ≤ 40) (hl2 : B.rain.length ≤ 40) (hl3 : B.signs.length ≤ 40) (hg : GoodB B) (hv : isK B k = false) : FnV Tryz.prog 22 [valB B bo ro so bc rc sc, i64 k] [rowD bo 4 encB B.banks, rowD ro 2 encS B.rain, rowD so 3 encG B.signs] (.tuple #[i64 (spareB B k).1, i64 (spareB B k).2]) := by
 refine FnV.introD Tryz.call22 Tryz.func22 rfl Tryz.ntmps22 rfl ?_; intro W M Rf; refine r_seq (r_region ?_); refine o_boxA rfl rfl rfl rfl rfl (fun b2 => ?_); refine o_box1 rfl rfl rfl rfl rfl rfl (fun b3 => ?_); refine q_as rfl rfl rfl rfl rfl ?_; refine o_alloc rfl inf47 rfl rfl rfl rfl rfl (fun b5 => ?_); refine o_nil (r_then (r_seq (r_region ?_))); refine o_defer rfl rfl rfl rfl ?_; refine o_nil (r_then (r_seq ?_)); refine Imp.sealB b3 ?_; refine r_parX 8 mixed (by kernel_rfl) (by rfl) ?_; refine p_q _ rfl rfl rfl (fun _ _ => v_ldW rfl Tryz.underlying66 rfl inf66 rfl rfl) ?_; refine p_q _ rfl rfl rfl (fun _ _ => v_makeFunc rfl rfl rfl) ?_; refine p_deadX (open_x2 B bo ro so bc rc sc 79 [pt b3 0] [boxF b3 3 [i64 k]] (fun bb mb => FnM.to (bank61_m B bo ro so bc rc sc bb mb k b3 (by omega)) (congrArg Value.bool hv)) hl1 hl2 hl3 hg) rfl rfl rfl rfl rfl SubRC.sub ?_; refine p_acc (by simp only [List.nil_append, List.cons_append]; rfl) ?_; refine p_dead 2 rfl rfl rfl (fun _ h => h) (by kernel_rfl) rfl rfl rfl ?_; refine p_q _ rfl rfl rfl (fun _ _ => v_lf1 rfl Tryz.underlying3 rfl rfl rfl) ?_; refine p_q _ rfl rfl rfl (fun _ _ => v_fieldAddr rfl Tryz.underlying66 inf59 rfl rfl rfl rfl) ?_; refine p_q _ rfl rfl rfl (fun _ _ => v_ld1 rfl Tryz.underlying59 rfl rfl rfl) ?_; refine p_q _ rfl rfl rfl (fun _ _ => v_len rfl rfl Tryz.underlying59 rfl) ?_; refine p_nilX (panOf (.iface 226 (i64 2))) (by simp only [List.nil_append, List.cons_append]; rfl) rfl (by kernel_rfl) rfl ?_ ?_
 ·
  (with_reducible refine r_then_panic ?_); exact d_panv answer_ans (Rd.two rfl (RdI.tmp rfl) (RdI.cell1 Tryz.underlying47 rfl rfl rfl)) (by rw [spareB, ansE_n (chkB_2 hg hv) (by decide)]; try rfl) SelMC.sel SubRC.sub
 ·
  refine f_q rfl ?_; refine f_q rfl ?_; exact f_dead
set_option maxHeartbeats 4000000 in
theorem spare_x3 (k : Int) (hl1 : B.banks.length ≤ 40) (hl2 : B.rain.length ≤ 40) (hl3 : B.signs.length ≤ 40) (hg : GoodB B) (hv : isK B k = true) (hc : canB B (allS B) 0 false = false) : FnV Tryz.prog 22 [valB B bo ro so bc rc sc, i64 k] [rowD bo 4 encB B.banks, rowD ro 2 encS B.rain, rowD so 3 encG B.signs] (.tuple #[i64 (spareB B k).1, i64 (spareB B k).2]) := by
 refine FnV.introD Tryz.call22 Tryz.func22 rfl Tryz.ntmps22 rfl ?_; intro W M Rf; refine r_seq (r_region ?_); refine o_boxA rfl rfl rfl rfl rfl (fun b2 => ?_); refine o_box1 rfl rfl rfl rfl rfl rfl (fun b3 => ?_); refine q_as rfl rfl rfl rfl rfl ?_; refine o_alloc rfl inf47 rfl rfl rfl rfl rfl (fun b5 => ?_); refine o_nil (r_then (r_seq (r_region ?_))); refine o_defer rfl rfl rfl rfl ?_; refine o_nil (r_then (r_seq ?_)); refine Imp.sealB b3 ?_; refine r_parX 8 mixed (by kernel_rfl) (by rfl) ?_; refine p_q _ rfl rfl rfl (fun _ _ => v_ldW rfl Tryz.underlying66 rfl inf66 rfl rfl) ?_; refine p_q _ rfl rfl rfl (fun _ _ => v_makeFunc rfl rfl rfl) ?_; refine p_openL 3 (open_ok B bo ro so bc rc sc 79 [pt b3 0] [boxF b3 3 [i64 k]] (fun bb mb => FnM.to (bank61_m B bo ro so bc rc sc bb mb k b3 (by omega)) (congrArg Value.bool hv)) hl1 hl2 hl3 hg) rfl rfl rfl rfl rfl SubRC.sub ?_; refine p_acc (by simp only [List.nil_append, List.cons_append]; rfl) ?_; refine p_takeX 2 (told_cx B bo ro bc rc hg hc) rfl rfl rfl rfl (by kernel_rfl) rfl rfl rfl SubRC.sub ?_; refine p_q _ rfl rfl rfl (fun _ _ => v_lf1 rfl Tryz.underlying3 rfl rfl rfl) ?_; refine p_q _ rfl rfl rfl (fun _ _ => v_fieldAddr rfl Tryz.underlying66 inf59 rfl rfl rfl rfl) ?_; refine p_q _ rfl rfl rfl (fun _ _ => v_ld1 rfl Tryz.underlying59 rfl rfl rfl) ?_; refine p_q _ rfl rfl rfl (fun _ _ => v_len rfl rfl Tryz.underlying59 rfl) ?_; refine p_nilX (panOf (.iface 226 (i64 10))) (by simp only [List.nil_append, List.cons_append]; rfl) rfl (by kernel_rfl) rfl ?_ ?_
 ·
  (with_reducible refine r_then_panic ?_); exact d_panv answer_ans (Rd.two rfl (RdI.tmp rfl) (RdI.cell1 Tryz.underlying47 rfl rfl rfl)) (by rw [spareB, ansE_n (chkB_10 hg hv hc) (by decide)]; try rfl) SelMC.sel SubRC.sub
 ·
  refine f_q rfl ?_; refine f_q rfl ?_; refine f_openL rfl (fun b9 => ?_); exact f_takeX
set_option maxHeartbeats 4000000 in
theorem spare_ok (k : Int) (hl1 : B.banks.length ≤ 40) (hl2 : B.rain.length ≤ 40) (hl3 : B.signs.length ≤ 40) (hg : GoodB B) (hv : isK B k = true) (hc : canB B (allS B) 0 false = true) : FnV Tryz.prog 22 [valB B bo ro so bc rc sc, i64 k] [rowD bo 4 encB B.banks, rowD ro 2 encS B.rain, rowD so 3 encG B.signs] (.tuple #[i64 (spareB B k).1, i64 (spareB B k).2]) := by
 have hk0 : 0 ≤ k ∧ k ≤ (B.banks.length : Int) - 1 := of_decide_eq_true hv; have hnr := hg.nr; have hnb := hg.nb; refine FnV.introD Tryz.call22 Tryz.func22 rfl Tryz.ntmps22 rfl ?_; intro W M Rf; refine r_seq (r_region ?_); refine o_boxA rfl rfl rfl rfl rfl (fun b2 => ?_); refine o_box1 rfl rfl rfl rfl rfl rfl (fun b3 => ?_); refine q_as rfl rfl rfl rfl rfl ?_; refine o_alloc rfl inf47 rfl rfl rfl rfl rfl (fun b5 => ?_); refine o_nil (r_then (r_seq (r_region ?_))); refine o_defer rfl rfl rfl rfl ?_; refine o_nil (r_then (r_seq ?_)); refine Imp.sealB b3 ?_; refine r_par' 8 mixed (by kernel_rfl) (by rfl) ?_; refine p_q _ rfl rfl rfl (fun _ _ => v_ldW rfl Tryz.underlying66 rfl inf66 rfl rfl) ?_; refine p_q _ rfl rfl rfl (fun _ _ => v_makeFunc rfl rfl rfl) ?_; refine p_openL 3 (open_ok B bo ro so bc rc sc 79 [pt b3 0] [boxF b3 3 [i64 k]] (fun bb mb => FnM.to (bank61_m B bo ro so bc rc sc bb mb k b3 (by omega)) (congrArg Value.bool hv)) hl1 hl2 hl3 hg) rfl rfl rfl rfl rfl SubRC.sub ?_; refine p_acc (by simp only [List.nil_append, List.cons_append]; rfl) ?_; refine p_take 2 (told_c B bo ro bc rc hg hc) rfl rfl rfl rfl (by kernel_rfl) rfl rfl rfl SubRC.sub ?_; refine p_q _ rfl rfl rfl (fun _ _ => v_cast (v := i64 ((k.toNat : Nat) : Int)) (v_lf1 rfl Tryz.underlying3 rfl rfl rfl) (congrArg (Value.int .i64) (by omega))) ?_; refine p_q _ rfl rfl rfl (fun _ _ => v_fieldAddr rfl Tryz.underlying66 inf59 rfl rfl rfl rfl) ?_; refine p_q _ rfl rfl rfl (fun _ _ => v_ld1 rfl Tryz.underlying59 rfl rfl rfl) ?_; refine p_q _ rfl rfl rfl (fun _ _ => v_len rfl rfl Tryz.underlying59 rfl) ?_; refine p_nil2 (by simp only [List.nil_append, List.cons_append]; rfl) rfl ?_ (by kernel_rfl); refine f_q rfl ?_; refine f_q rfl ?_; refine f_openL rfl (fun b9 => ?_); refine f_take rfl ?_; (iterate 4 refine f_q rfl ?_); refine f_nil ?_; refine o_q _ rfl rfl rfl (OpQ.fn (worst_v (tB B) (knownT_len _ _ _ _) (SmallT.known hg _ _ _) _ k.toNat B.rain.length (by omega) (by omega)) rfl rfl SubRC.sub) ?_; refine q_as rfl rfl rfl rfl rfl ?_; refine o_nil (r_then (r_seq (r_region ?_))); refine q_mv rfl rfl rfl rfl rfl ?_; refine o_test rfl rfl rfl (v_geq rfl rfl rfl) (fun h17 => ?_) (fun h17 => ?_)
 all_goals
  first | refine o_q _ rfl rfl rfl (OpQ.fn (ask_t _) rfl rfl SubRC.sub) ?_ | refine o_fnx (ask_f _) rfl rfl rfl SubRC.sub ?_
  repeat (first | with_reducible refine r_then_panic ?_); try (exact d_panv answer_ans (Rd.two rfl (RdI.tmp rfl) (RdI.cell1 Tryz.underlying47 rfl rfl rfl)) (by rw [spareB, ansE_4 (chkB_0 hg hv hc) (by assumption)]; try rfl) SelMC.sel SubRC.sub)
  all_goals
   refine o_nil (r_then (r_seq (r_region ?_))); refine q_mv rfl rfl rfl rfl rfl ?_; refine q_as rfl rfl rfl rfl rfl ?_; refine o_st rfl inf47 rfl rfl rfl rfl rfl rfl rfl rfl ?_; refine o_nil (r_then ?_); refine r_ret ?_; exact d_retv answer_ans (Rd.two rfl (RdI.tmp rfl) (RdI.cell1 Tryz.underlying47 rfl rfl rfl)) (by rw [spareB, ansE_0 (chkB_0 hg hv hc) (by assumption)]; try rfl) SelMC.sel SubRC.sub
theorem spare_v (k : Int) (hl1 : B.banks.length ≤ 40) (hl2 : B.rain.length ≤ 40) (hl3 : B.signs.length ≤ 40) : FnV Tryz.prog 22 [valB B bo ro so bc rc sc, i64 k] [rowD bo 4 encB B.banks, rowD ro 2 encS B.rain, rowD so 3 encG B.signs] (.tuple #[i64 (spareB B k).1, i64 (spareB B k).2]) := by
  by_cases hg : GoodB B
  · cases hv : isK B k
    · exact spare_x2 B bo ro so bc rc sc k hl1 hl2 hl3 hg hv
    · cases hc : canB B (allS B) 0 false
      · exact spare_x3 B bo ro so bc rc sc k hl1 hl2 hl3 hg hv hc
      · exact spare_ok B bo ro so bc rc sc k hl1 hl2 hl3 hg hv hc
  · exact spare_x1 B bo ro so bc rc sc k hl1 hl2 hl3 hg
set_option maxHeartbeats 4000000 in
theorem first_x1 (d : Int) (hl1 : B.banks.length ≤ 40) (hl2 : B.rain.length ≤ 40) (hl3 : B.signs.length ≤ 40) (hng : ¬ GoodB B) : FnV Tryz.prog 25 [valB B bo ro so bc rc sc, i64 d] [rowD bo 4 encB B.banks, rowD ro 2 encS B.rain, rowD so 3 encG B.signs] (.tuple #[i64 (firstB B d).1, i64 (firstB B d).2]) := by
 refine FnV.introD Tryz.call25 Tryz.func25 rfl Tryz.ntmps25 rfl ?_; intro W M Rf; refine r_seq (r_region ?_); refine o_boxA rfl rfl rfl rfl rfl (fun b2 => ?_); refine o_box1 rfl rfl rfl rfl rfl rfl (fun b3 => ?_); refine q_as rfl rfl rfl rfl rfl ?_; refine o_alloc rfl inf47 rfl rfl rfl rfl rfl (fun b5 => ?_); refine o_nil (r_then (r_seq (r_region ?_))); refine o_defer rfl rfl rfl rfl ?_; refine o_nil (r_then (r_seq ?_)); refine Imp.sealB b3 ?_; refine r_parX 13 mixed (by kernel_rfl) (by rfl) ?_; refine p_q _ rfl rfl rfl (fun _ _ => v_ldW rfl Tryz.underlying66 rfl inf66 rfl rfl) ?_; refine p_q _ rfl rfl rfl (fun _ _ => v_makeFunc rfl rfl rfl) ?_; refine p_deadX (open_x1 B bo ro so bc rc sc 89 [pt b3 0] [boxF b3 3 [i64 d]] hl1 hl2 hl3 hng) rfl rfl rfl rfl rfl SubRC.sub ?_; refine p_acc (by simp only [List.nil_append, List.cons_append]; rfl) ?_; refine p_dead 2 rfl rfl rfl (fun _ h => h) (by kernel_rfl) rfl rfl rfl ?_; refine p_q _ rfl rfl rfl (fun _ _ => v_fieldAddr rfl Tryz.underlying66 inf63 rfl rfl rfl rfl) ?_; refine p_q _ rfl rfl rfl (fun _ _ => v_ld1 rfl Tryz.underlying63 rfl rfl rfl) ?_; refine p_q _ rfl rfl rfl (fun _ _ => v_len rfl rfl Tryz.underlying63 rfl) ?_; refine p_q _ rfl rfl rfl (fun _ _ => v_lf1 rfl Tryz.underlying3 rfl rfl rfl) ?_; refine p_acc (by simp only [List.nil_append, List.cons_append]; rfl) ?_; refine p_dead 3 rfl rfl rfl (fun _ h => h) (by kernel_rfl) rfl rfl rfl ?_; refine p_acc (by simp only [List.nil_append, List.cons_append]; rfl) ?_; refine p_dead 8 rfl rfl rfl (fun _ h => h) (by kernel_rfl) rfl rfl rfl ?_; refine p_acc (by simp only [List.nil_append, List.cons_append]; rfl) ?_; refine p_dead 9 rfl rfl rfl (fun _ h => h) (by kernel_rfl) rfl rfl rfl ?_; refine p_acc (by simp only [List.nil_append, List.cons_append]; rfl) ?_; refine p_dead 9 rfl rfl rfl (fun _ h => h) (by kernel_rfl) rfl rfl rfl ?_; refine p_acc (by simp only [List.nil_append, List.cons_append]; rfl) ?_; refine p_dead 10 rfl rfl rfl (fun _ h => h) (by kernel_rfl) rfl rfl rfl ?_; refine p_nilX (panOf (.iface 226 (i64 1))) (by simp only [List.nil_append, List.cons_append]; rfl) rfl (by kernel_rfl) rfl ?_ ?_
 ·
  (with_reducible refine r_then_panic ?_); exact d_panv answer_ans (Rd.two rfl (RdI.tmp rfl) (RdI.cell1 Tryz.underlying47 rfl rfl rfl)) (by rw [firstB, ansE_n (chkB_1 hng) (by decide)]; try rfl) SelMC.sel SubRC.sub
 ·
  refine f_q rfl ?_; refine f_q rfl ?_; exact f_dead
set_option maxHeartbeats 4000000 in
theorem first_x2 (d : Int) (hl1 : B.banks.length ≤ 40) (hl2 : B.rain.length ≤ 40) (hl3 : B.signs.length ≤ 40) (hg : GoodB B) (hv : isD B d = false) : FnV Tryz.prog 25 [valB B bo ro so bc rc sc, i64 d] [rowD bo 4 encB B.banks, rowD ro 2 encS B.rain, rowD so 3 encG B.signs] (.tuple #[i64 (firstB B d).1, i64 (firstB B d).2]) := by
 refine FnV.introD Tryz.call25 Tryz.func25 rfl Tryz.ntmps25 rfl ?_; intro W M Rf; refine r_seq (r_region ?_); refine o_boxA rfl rfl rfl rfl rfl (fun b2 => ?_); refine o_box1 rfl rfl rfl rfl rfl rfl (fun b3 => ?_); refine q_as rfl rfl rfl rfl rfl ?_; refine o_alloc rfl inf47 rfl rfl rfl rfl rfl (fun b5 => ?_); refine o_nil (r_then (r_seq (r_region ?_))); refine o_defer rfl rfl rfl rfl ?_; refine o_nil (r_then (r_seq ?_)); refine Imp.sealB b3 ?_; refine r_parX 13 mixed (by kernel_rfl) (by rfl) ?_; refine p_q _ rfl rfl rfl (fun _ _ => v_ldW rfl Tryz.underlying66 rfl inf66 rfl rfl) ?_; refine p_q _ rfl rfl rfl (fun _ _ => v_makeFunc rfl rfl rfl) ?_; refine p_deadX (open_x2 B bo ro so bc rc sc 89 [pt b3 0] [boxF b3 3 [i64 d]] (fun bb mb => FnM.to (day72_m B bo ro so bc rc sc bb mb d b3) (congrArg Value.bool hv)) hl1 hl2 hl3 hg) rfl rfl rfl rfl rfl SubRC.sub ?_; refine p_acc (by simp only [List.nil_append, List.cons_append]; rfl) ?_; refine p_dead 2 rfl rfl rfl (fun _ h => h) (by kernel_rfl) rfl rfl rfl ?_; refine p_q _ rfl rfl rfl (fun _ _ => v_fieldAddr rfl Tryz.underlying66 inf63 rfl rfl rfl rfl) ?_; refine p_q _ rfl rfl rfl (fun _ _ => v_ld1 rfl Tryz.underlying63 rfl rfl rfl) ?_; refine p_q _ rfl rfl rfl (fun _ _ => v_len rfl rfl Tryz.underlying63 rfl) ?_; refine p_q _ rfl rfl rfl (fun _ _ => v_lf1 rfl Tryz.underlying3 rfl rfl rfl) ?_; refine p_acc (by simp only [List.nil_append, List.cons_append]; rfl) ?_; refine p_dead 3 rfl rfl rfl (fun _ h => h) (by kernel_rfl) rfl rfl rfl ?_; refine p_acc (by simp only [List.nil_append, List.cons_append]; rfl) ?_; refine p_dead 8 rfl rfl rfl (fun _ h => h) (by kernel_rfl) rfl rfl rfl ?_; refine p_acc (by simp only [List.nil_append, List.cons_append]; rfl) ?_; refine p_dead 9 rfl rfl rfl (fun _ h => h) (by kernel_rfl) rfl rfl rfl ?_; refine p_acc (by simp only [List.nil_append, List.cons_append]; rfl) ?_; refine p_dead 9 rfl rfl rfl (fun _ h => h) (by kernel_rfl) rfl rfl rfl ?_; refine p_acc (by simp only [List.nil_append, List.cons_append]; rfl) ?_; refine p_dead 10 rfl rfl rfl (fun _ h => h) (by kernel_rfl) rfl rfl rfl ?_; refine p_nilX (panOf (.iface 226 (i64 2))) (by simp only [List.nil_append, List.cons_append]; rfl) rfl (by kernel_rfl) rfl ?_ ?_
 ·
  (with_reducible refine r_then_panic ?_); exact d_panv answer_ans (Rd.two rfl (RdI.tmp rfl) (RdI.cell1 Tryz.underlying47 rfl rfl rfl)) (by rw [firstB, ansE_n (chkB_2 hg hv) (by decide)]; try rfl) SelMC.sel SubRC.sub
 ·
  refine f_q rfl ?_; refine f_q rfl ?_; exact f_dead
set_option maxHeartbeats 4000000 in
theorem first_x3 (d : Int) (hl1 : B.banks.length ≤ 40) (hl2 : B.rain.length ≤ 40) (hl3 : B.signs.length ≤ 40) (hg : GoodB B) (hv : isD B d = true) (hc : canB B (allS B) 0 false = false) : FnV Tryz.prog 25 [valB B bo ro so bc rc sc, i64 d] [rowD bo 4 encB B.banks, rowD ro 2 encS B.rain, rowD so 3 encG B.signs] (.tuple #[i64 (firstB B d).1, i64 (firstB B d).2]) := by
 refine FnV.introD Tryz.call25 Tryz.func25 rfl Tryz.ntmps25 rfl ?_; intro W M Rf; refine r_seq (r_region ?_); refine o_boxA rfl rfl rfl rfl rfl (fun b2 => ?_); refine o_box1 rfl rfl rfl rfl rfl rfl (fun b3 => ?_); refine q_as rfl rfl rfl rfl rfl ?_; refine o_alloc rfl inf47 rfl rfl rfl rfl rfl (fun b5 => ?_); refine o_nil (r_then (r_seq (r_region ?_))); refine o_defer rfl rfl rfl rfl ?_; refine o_nil (r_then (r_seq ?_)); refine Imp.sealB b3 ?_; refine r_parX 13 mixed (by kernel_rfl) (by rfl) ?_; refine p_q _ rfl rfl rfl (fun _ _ => v_ldW rfl Tryz.underlying66 rfl inf66 rfl rfl) ?_; refine p_q _ rfl rfl rfl (fun _ _ => v_makeFunc rfl rfl rfl) ?_; refine p_openL 3 (open_ok B bo ro so bc rc sc 89 [pt b3 0] [boxF b3 3 [i64 d]] (fun bb mb => FnM.to (day72_m B bo ro so bc rc sc bb mb d b3) (congrArg Value.bool hv)) hl1 hl2 hl3 hg) rfl rfl rfl rfl rfl SubRC.sub ?_; refine p_acc (by simp only [List.nil_append, List.cons_append]; rfl) ?_; refine p_takeX 2 (told_cx B bo ro bc rc hg hc) rfl rfl rfl rfl (by kernel_rfl) rfl rfl rfl SubRC.sub ?_; refine p_q _ rfl rfl rfl (fun _ _ => v_fieldAddr rfl Tryz.underlying66 inf63 rfl rfl rfl rfl) ?_; refine p_q _ rfl rfl rfl (fun _ _ => v_ld1 rfl Tryz.underlying63 rfl rfl rfl) ?_; refine p_q _ rfl rfl rfl (fun _ _ => v_len rfl rfl Tryz.underlying63 rfl) ?_; refine p_q _ rfl rfl rfl (fun _ _ => v_lf1 rfl Tryz.underlying3 rfl rfl rfl) ?_; refine p_acc (by simp only [List.nil_append, List.cons_append]; rfl) ?_; refine p_dead 3 rfl rfl rfl (fun _ h => h) (by kernel_rfl) rfl rfl rfl ?_; refine p_acc (by simp only [List.nil_append, List.cons_append]; rfl) ?_; refine p_dead 8 rfl rfl rfl (fun _ h => h) (by kernel_rfl) rfl rfl rfl ?_; refine p_acc (by simp only [List.nil_append, List.cons_append]; rfl) ?_; refine p_dead 9 rfl rfl rfl (fun _ h => h) (by kernel_rfl) rfl rfl rfl ?_; refine p_acc (by simp only [List.nil_append, List.cons_append]; rfl) ?_; refine p_dead 9 rfl rfl rfl (fun _ h => h) (by kernel_rfl) rfl rfl rfl ?_; refine p_acc (by simp only [List.nil_append, List.cons_append]; rfl) ?_; refine p_dead 10 rfl rfl rfl (fun _ h => h) (by kernel_rfl) rfl rfl rfl ?_; refine p_nilX (panOf (.iface 226 (i64 10))) (by simp only [List.nil_append, List.cons_append]; rfl) rfl (by kernel_rfl) rfl ?_ ?_
 ·
  (with_reducible refine r_then_panic ?_); exact d_panv answer_ans (Rd.two rfl (RdI.tmp rfl) (RdI.cell1 Tryz.underlying47 rfl rfl rfl)) (by rw [firstB, ansE_n (chkB_10 hg hv hc) (by decide)]; try rfl) SelMC.sel SubRC.sub
 ·
  refine f_q rfl ?_; refine f_q rfl ?_; refine f_openL rfl (fun b11 => ?_); exact f_takeX
set_option maxHeartbeats 4000000 in
theorem first_ok (d : Int) (hl1 : B.banks.length ≤ 40) (hl2 : B.rain.length ≤ 40) (hl3 : B.signs.length ≤ 40) (hg : GoodB B) (hv : isD B d = true) (hc : canB B (allS B) 0 false = true) : FnV Tryz.prog 25 [valB B bo ro so bc rc sc, i64 d] [rowD bo 4 encB B.banks, rowD ro 2 encS B.rain, rowD so 3 encG B.signs] (.tuple #[i64 (firstB B d).1, i64 (firstB B d).2]) := by
 have hd0 : 0 ≤ d ∧ d ≤ (B.rain.length : Int) := of_decide_eq_true hv; have hnr := hg.nr; have hnb := hg.nb; refine FnV.introD Tryz.call25 Tryz.func25 rfl Tryz.ntmps25 rfl ?_; intro W M Rf; refine r_seq (r_region ?_); refine o_boxA rfl rfl rfl rfl rfl (fun b2 => ?_); refine o_box1 rfl rfl rfl rfl rfl rfl (fun b3 => ?_); refine q_as rfl rfl rfl rfl rfl ?_; refine o_alloc rfl inf47 rfl rfl rfl rfl rfl (fun b5 => ?_); refine o_nil (r_then (r_seq (r_region ?_))); refine o_defer rfl rfl rfl rfl ?_; refine o_nil (r_then (r_seq ?_)); refine Imp.sealB b3 ?_; refine r_par' 13 mixed (by kernel_rfl) (by rfl) ?_; refine p_q _ rfl rfl rfl (fun _ _ => v_ldW rfl Tryz.underlying66 rfl inf66 rfl rfl) ?_; refine p_q _ rfl rfl rfl (fun _ _ => v_makeFunc rfl rfl rfl) ?_; refine p_openL 3 (open_ok B bo ro so bc rc sc 89 [pt b3 0] [boxF b3 3 [i64 d]] (fun bb mb => FnM.to (day72_m B bo ro so bc rc sc bb mb d b3) (congrArg Value.bool hv)) hl1 hl2 hl3 hg) rfl rfl rfl rfl rfl SubRC.sub ?_; refine p_acc (by simp only [List.nil_append, List.cons_append]; rfl) ?_; refine p_take 2 (told_c B bo ro bc rc hg hc) rfl rfl rfl rfl (by kernel_rfl) rfl rfl rfl SubRC.sub ?_; refine p_q _ rfl rfl rfl (fun _ _ => v_fieldAddr rfl Tryz.underlying66 inf63 rfl rfl rfl rfl) ?_; refine p_q _ rfl rfl rfl (fun _ _ => v_ld1 rfl Tryz.underlying63 rfl rfl rfl) ?_; refine p_q _ rfl rfl rfl (fun _ _ => v_len rfl rfl Tryz.underlying63 rfl) ?_; refine p_q _ rfl rfl rfl (fun _ _ => v_cast (v := i64 ((d.toNat : Nat) : Int)) (v_lf1 rfl Tryz.underlying3 rfl rfl rfl) (congrArg (Value.int .i64) (by omega))) ?_; refine p_q _ rfl rfl rfl (fun _ _ => OpQ.fn (first_v (tB B) (knownT_len _ _ _ _) (SmallT.known hg _ _ _) _ B.banks.length d.toNat (by omega) (by omega)) rfl rfl SubRC.sub) ?_; refine p_q _ rfl rfl rfl (fun _ _ => v_move rfl rfl) ?_; refine p_q _ rfl rfl rfl (fun _ _ => v_extract rfl rfl rfl) ?_; refine p_q _ rfl rfl rfl (fun _ _ => v_extract rfl rfl rfl) ?_; refine p_q _ rfl rfl rfl (fun _ _ => v_assign rfl rfl) ?_; refine p_nil2 (by simp only [List.nil_append, List.cons_append]; rfl) rfl ?_ (by kernel_rfl); refine f_q rfl ?_; refine f_q rfl ?_; refine f_openL rfl (fun b11 => ?_); refine f_take rfl ?_; (iterate 9 refine f_q rfl ?_); refine f_nil ?_; refine q_as rfl rfl rfl rfl rfl ?_; refine o_nil (r_then (r_seq (r_region ?_))); refine q_mv rfl rfl rfl rfl rfl ?_; refine o_test rfl rfl rfl (v_lss rfl rfl rfl) (fun h21 => ?_) (fun h21 => ?_)
 all_goals
  first | refine o_q _ rfl rfl rfl (OpQ.fn (ask_t _) rfl rfl SubRC.sub) ?_ | refine o_fnx (ask_f _) rfl rfl rfl SubRC.sub ?_
  repeat (first | with_reducible refine r_then_panic ?_); try (exact d_panv answer_ans (Rd.two rfl (RdI.tmp rfl) (RdI.cell1 Tryz.underlying47 rfl rfl rfl)) (by rw [firstB, ansE_4 (chkB_0 hg hv hc) (by assumption)]; try rfl) SelMC.sel SubRC.sub)
  all_goals
   refine o_nil (r_then (r_seq (r_region ?_))); refine q_mv rfl rfl rfl rfl rfl ?_; refine q_as rfl rfl rfl rfl rfl ?_; refine o_st rfl inf47 rfl rfl rfl rfl rfl rfl rfl rfl ?_; refine o_nil (r_then ?_); refine r_ret ?_; exact d_retv answer_ans (Rd.two rfl (RdI.tmp rfl) (RdI.cell1 Tryz.underlying47 rfl rfl rfl)) (by rw [firstB, ansE_0 (chkB_0 hg hv hc) (by assumption)]; try rfl) SelMC.sel SubRC.sub
theorem First_v (d : Int) (hl1 : B.banks.length ≤ 40) (hl2 : B.rain.length ≤ 40) (hl3 : B.signs.length ≤ 40) : FnV Tryz.prog 25 [valB B bo ro so bc rc sc, i64 d] [rowD bo 4 encB B.banks, rowD ro 2 encS B.rain, rowD so 3 encG B.signs] (.tuple #[i64 (firstB B d).1, i64 (firstB B d).2]) := by
  by_cases hg : GoodB B
  · cases hv : isD B d
    · exact first_x2 B bo ro so bc rc sc d hl1 hl2 hl3 hg hv
    · cases hc : canB B (allS B) 0 false
      · exact first_x3 B bo ro so bc rc sc d hl1 hl2 hl3 hg hv hc
      · exact first_ok B bo ro so bc rc sc d hl1 hl2 hl3 hg hv hc
  · exact first_x1 B bo ro so bc rc sc d hl1 hl2 hl3 hg
end Go.Proofs.YtpndeonmmcaikaaGreat.BurstW

namespace Go.Proofs.YtpndeonmmcaikaaGreat.BurstW
open Go.G Burst8
set_option maxRecDepth 1000000
attribute [local irreducible] G.ParO G.Fin
theorem o_openS {P : Program} {W : World} {n : Nat} {D : List Deferred} {L : Tm} {M : List Res} {R : List Fact} {Q : Exit → Act → World → Prop} {o : Oper} {ops : Array Oper} {rest : List Oper} {k : FuncId} {args : List Value} {R0 : List Fact} {res : Nat → Res} {xs : List Operand} {ts : Array TypeId} {d : Nat}
    (h : FnS P k args [] R0 (fun e M' R' => ∃ b, e = .returned (pt b 0) ∧ M' = [res b] ∧ R' = [])) (ho : o.op = .call { callee := .value (.func k), args := xs.toArray, argTypes := ts })
    (hx : evs L xs = some args) (hg : o.guard = none) (hdst : o.dst = some d) (hd : Nat.blt d n = true) (hs : SubR R R0)
    (hret : ∀ b, Imp W n D ((d, pt b 0) :: L) (res b :: M) R (wpList P ops Q rest)) : Imp W n D L M R (wpList P ops Q (o :: rest)) := by
  refine o_call h ho [] [] rfl hx (by simp) hg (by simp [okD, hdst, hd]) (Mf := M) SelM.refl hs ?_ ?_ ?_
  · rintro v M' R' ⟨b, he, rfl, rfl⟩
    cases he
    rw [hdst]
    exact hret b
  · rintro c M' R' ⟨b, he, _⟩; cases he
  · rintro M' R' ⟨b, he, _⟩; cases he
theorem o_fnxM {P : Program} {W : World} {n : Nat} {D : List Deferred} {L : Tm} {M M1 : List Res} {R : List Fact} {Q : Exit → Act → World → Prop} {o : Oper} {ops : Array Oper} {rest : List Oper} {k : FuncId} {args : List Value} {R0 : List Fact} {m : Res} {pv : Value} {xs : List Operand} {ts : Array TypeId}
    (h : FnS P k args [m] R0 (fun e M' R' => e = .panicked (panOf pv) ∧ M' = [m] ∧ R' = [])) (ho : o.op = .call { callee := .value (.func k), args := xs.toArray, argTypes := ts })
    (hx : evs L xs = some args) (hg : o.guard = none) (hs : SubR R R0) [hM : DelC M m M1]
    (hpan : Imp W n D L M R (Q (.panic (panOf pv)))) : Imp W n D L M R (wpList P ops Q (o :: rest)) := by
  intro a w h1 h2 h3
  refine wpList_plain hg fun K hK => ?_
  unfold Oper.wp
  rw [exec_call [] [] ho rfl (h1.evs hx) h.enter]
  simp only [List.nil_append, List.append_nil]
  refine (h.calls W M1 R w ((h3.perm hM.del.perm).both hs)).mono ?_
  rintro e w' ⟨M2, R2, ⟨rfl, rfl, rfl⟩, hw'⟩
  have h4 : St W (m :: M1) R w' := hw'.weak (fun _ hφ => List.mem_append_right _ (List.mem_append_right _ hφ))
  exact hpan a w' h1 h2 (h4.perm hM.del.perm.symm)
def mvTo (p : Nat → Bool) : Nat → Nat
  | 0 => 0
  | k + 1 => mvTo p k ||| (if p k then 2 ^ k else 0)
theorem mvTo_lt (p : Nat → Bool) : ∀ k, mvTo p k < 2 ^ k
  | 0 => by show 0 < 1; decide
  | k + 1 => by
    have h := mvTo_lt p k
    have h2 : mvTo p k < 2 ^ (k + 1) := Nat.lt_of_lt_of_le h (Nat.pow_le_pow_right (by decide) (by omega))
    unfold mvTo
    refine Nat.or_lt_two_pow h2 ?_
    split
    · exact Nat.pow_lt_pow_right (by decide) (by omega)
    · exact Nat.two_pow_pos _
theorem mvTo_y {p : Nat → Bool} {k : Nat} (h : p k = true) : mvTo p (k + 1) = mvTo p k ||| 2 ^ k := by rw [mvTo, h]; rfl
theorem mvTo_n {p : Nat → Bool} {k : Nat} (h : ¬ p k = true) : mvTo p (k + 1) = mvTo p k := by rw [mvTo, if_neg h, Nat.or_zero]
def sureB (B : Bog) (d : Nat) : Nat → Bool := fun k => decide ((marginT (tB B) k d).hi < 0)
def someB (B : Bog) (d : Nat) : Nat → Bool := fun k => decide ((marginT (tB B) k d).lo < 0)
def movesB (B : Bog) (d : Int) : (Nat × Nat) × Int := ansB B (isD B d) (0, 0) (mvTo (sureB B d.toNat) B.banks.length, mvTo (someB B d.toNat) B.banks.length)
def lastTo (p : Nat → Bool) : Nat → Int
  | 0 => -1
  | k + 1 => if p k then (k : Int) else lastTo p k
theorem lastTo_y {p : Nat → Bool} {k : Nat} (h : p k = true) : lastTo p (k + 1) = (k : Int) := if_pos h
theorem lastTo_n {p : Nat → Bool} {k : Nat} (h : ¬ p k = true) : lastTo p (k + 1) = lastTo p k := if_neg h
def safeB (B : Bog) : Nat → Bool := fun d => decide (0 ≤ (firstT (tB B) B.banks.length d).2)
def lastB (B : Bog) : Int := lastTo (safeB B) (B.rain.length + 1)
def untilB (B : Bog) : Int × Int := ansE B true 0 (lastB B) (0 ≤ lastB B)
attribute [local irreducible] fw fwR fwC emptyT tabOf knownT canB boundsL
variable (B : Bog) (bo ro so : Option Addr) (bc rc sc : Nat) (bb mb : Nat)
set_option maxHeartbeats 4000000 in
theorem moves_x1 (d : Int) (hl1 : B.banks.length ≤ 40) (hl2 : B.rain.length ≤ 40) (hl3 : B.signs.length ≤ 40) (hng : ¬ GoodB B) : FnV Tryz.prog 24 [valB B bo ro so bc rc sc, i64 d] [rowD bo 4 encB B.banks, rowD ro 2 encS B.rain, rowD so 3 encG B.signs] (.tuple #[i64 (movesB B d).1.1, i64 (movesB B d).1.2, i64 (movesB B d).2]) := by
 refine FnV.introD Tryz.call24 Tryz.func24 rfl Tryz.ntmps24 rfl ?_; intro W M Rf; refine r_seq (r_region ?_); refine o_boxA rfl rfl rfl rfl rfl (fun b2 => ?_); refine o_box1 rfl rfl rfl rfl rfl rfl (fun b3 => ?_); refine q_as rfl rfl rfl rfl rfl ?_; refine q_as rfl rfl rfl rfl rfl ?_; refine o_alloc rfl inf47 rfl rfl rfl rfl rfl (fun b6 => ?_); refine o_nil (r_then (r_seq (r_region ?_))); refine o_defer rfl rfl rfl rfl ?_; refine o_nil (r_then (r_seq ?_)); refine Imp.sealB b3 ?_; refine r_region ?_; refine o_q _ rfl rfl rfl (v_ldW rfl Tryz.underlying66 rfl inf66 rfl rfl) ?_; refine o_q _ rfl rfl rfl (v_makeFunc rfl rfl rfl) ?_; refine o_fnx (open_x1 B bo ro so bc rc sc 86 [pt b3 0] [boxF b3 3 [i64 d]] hl1 hl2 hl3 hng) rfl rfl rfl SubRC.sub ?_; (with_reducible refine r_then_panic ?_); exact d_panv answer_ans (Rd.three rfl (RdI.tmp rfl) (RdI.tmp rfl) (RdI.cell1 Tryz.underlying47 rfl rfl rfl)) (by rw [movesB, ansB_n (chkB_1 hng) (by decide)]; try rfl) SelMC.sel SubRC.sub
set_option maxHeartbeats 4000000 in
theorem moves_x2 (d : Int) (hl1 : B.banks.length ≤ 40) (hl2 : B.rain.length ≤ 40) (hl3 : B.signs.length ≤ 40) (hg : GoodB B) (hv : isD B d = false) : FnV Tryz.prog 24 [valB B bo ro so bc rc sc, i64 d] [rowD bo 4 encB B.banks, rowD ro 2 encS B.rain, rowD so 3 encG B.signs] (.tuple #[i64 (movesB B d).1.1, i64 (movesB B d).1.2, i64 (movesB B d).2]) := by
 refine FnV.introD Tryz.call24 Tryz.func24 rfl Tryz.ntmps24 rfl ?_; intro W M Rf; refine r_seq (r_region ?_); refine o_boxA rfl rfl rfl rfl rfl (fun b2 => ?_); refine o_box1 rfl rfl rfl rfl rfl rfl (fun b3 => ?_); refine q_as rfl rfl rfl rfl rfl ?_; refine q_as rfl rfl rfl rfl rfl ?_; refine o_alloc rfl inf47 rfl rfl rfl rfl rfl (fun b6 => ?_); refine o_nil (r_then (r_seq (r_region ?_))); refine o_defer rfl rfl rfl rfl ?_; refine o_nil (r_then (r_seq ?_)); refine Imp.sealB b3 ?_; refine r_region ?_; refine o_q _ rfl rfl rfl (v_ldW rfl Tryz.underlying66 rfl inf66 rfl rfl) ?_; refine o_q _ rfl rfl rfl (v_makeFunc rfl rfl rfl) ?_; refine o_fnx (open_x2 B bo ro so bc rc sc 86 [pt b3 0] [boxF b3 3 [i64 d]] (fun bb mb => FnM.to (day59_m B bo ro so bc rc sc bb mb d b3) (congrArg Value.bool hv)) hl1 hl2 hl3 hg) rfl rfl rfl SubRC.sub ?_; (with_reducible refine r_then_panic ?_); exact d_panv answer_ans (Rd.three rfl (RdI.tmp rfl) (RdI.tmp rfl) (RdI.cell1 Tryz.underlying47 rfl rfl rfl)) (by rw [movesB, ansB_n (chkB_2 hg hv) (by decide)]; try rfl) SelMC.sel SubRC.sub
set_option maxHeartbeats 4000000 in
theorem moves_x3 (d : Int) (hl1 : B.banks.length ≤ 40) (hl2 : B.rain.length ≤ 40) (hl3 : B.signs.length ≤ 40) (hg : GoodB B) (hv : isD B d = true) (hc : canB B (allS B) 0 false = false) : FnV Tryz.prog 24 [valB B bo ro so bc rc sc, i64 d] [rowD bo 4 encB B.banks, rowD ro 2 encS B.rain, rowD so 3 encG B.signs] (.tuple #[i64 (movesB B d).1.1, i64 (movesB B d).1.2, i64 (movesB B d).2]) := by
 refine FnV.introD Tryz.call24 Tryz.func24 rfl Tryz.ntmps24 rfl ?_; intro W M Rf; refine r_seq (r_region ?_); refine o_boxA rfl rfl rfl rfl rfl (fun b2 => ?_); refine o_box1 rfl rfl rfl rfl rfl rfl (fun b3 => ?_); refine q_as rfl rfl rfl rfl rfl ?_; refine q_as rfl rfl rfl rfl rfl ?_; refine o_alloc rfl inf47 rfl rfl rfl rfl rfl (fun b6 => ?_); refine o_nil (r_then (r_seq (r_region ?_))); refine o_defer rfl rfl rfl rfl ?_; refine o_nil (r_then (r_seq ?_)); refine Imp.sealB b3 ?_; refine r_region ?_; refine o_q _ rfl rfl rfl (v_ldW rfl Tryz.underlying66 rfl inf66 rfl rfl) ?_; refine o_q _ rfl rfl rfl (v_makeFunc rfl rfl rfl) ?_; refine o_openS (res := openR B bo ro bc rc) (open_ok B bo ro so bc rc sc 86 [pt b3 0] [boxF b3 3 [i64 d]] (fun bb mb => FnM.to (day59_m B bo ro so bc rc sc bb mb d b3) (congrArg Value.bool hv)) hl1 hl2 hl3 hg) rfl rfl rfl rfl rfl SubRC.sub (fun b14 => ?_); refine opened (B := B) (bo := bo) (ro := ro) (bc := bc) (rc := rc) (bb := b14) (fun mb1 so1 sc1 => ?_); refine o_fnxM (told_x B bo ro so1 bc rc sc1 b14 mb1 hg hc) rfl rfl rfl SubRC.sub ?_; (with_reducible refine r_then_panic ?_); exact d_panv answer_ans (Rd.three rfl (RdI.tmp rfl) (RdI.tmp rfl) (RdI.cell1 Tryz.underlying47 rfl rfl rfl)) (by rw [movesB, ansB_n (chkB_10 hg hv hc) (by decide)]; try rfl) SelMC.sel SubRC.sub
set_option maxHeartbeats 4000000 in
theorem moves_ok (d : Int) (hl1 : B.banks.length ≤ 40) (hl2 : B.rain.length ≤ 40) (hl3 : B.signs.length ≤ 40) (hg : GoodB B) (hv : isD B d = true) (hc : canB B (allS B) 0 false = true) : FnV Tryz.prog 24 [valB B bo ro so bc rc sc, i64 d] [rowD bo 4 encB B.banks, rowD ro 2 encS B.rain, rowD so 3 encG B.signs] (.tuple #[i64 (movesB B d).1.1, i64 (movesB B d).1.2, i64 (movesB B d).2]) := by
 have hd0 : 0 ≤ d ∧ d ≤ (B.rain.length : Int) := of_decide_eq_true hv; have hnr := hg.nr; have hnb := hg.nb; refine FnV.introD Tryz.call24 Tryz.func24 rfl Tryz.ntmps24 rfl ?_; intro W M Rf; refine r_seq (r_region ?_); refine o_boxA rfl rfl rfl rfl rfl (fun b2 => ?_); refine o_box1 rfl rfl rfl rfl rfl rfl (fun b3 => ?_); refine q_as rfl rfl rfl rfl rfl ?_; refine q_as rfl rfl rfl rfl rfl ?_; refine o_alloc rfl inf47 rfl rfl rfl rfl rfl (fun b6 => ?_); refine o_nil (r_then (r_seq (r_region ?_))); refine o_defer rfl rfl rfl rfl ?_; refine o_nil (r_then (r_seq ?_)); refine Imp.sealB b3 ?_; refine r_region ?_; refine o_q _ rfl rfl rfl (v_ldW rfl Tryz.underlying66 rfl inf66 rfl rfl) ?_; refine o_q _ rfl rfl rfl (v_makeFunc rfl rfl rfl) ?_; refine o_openS (res := openR B bo ro bc rc) (open_ok B bo ro so bc rc sc 86 [pt b3 0] [boxF b3 3 [i64 d]] (fun bb mb => FnM.to (day59_m B bo ro so bc rc sc bb mb d b3) (congrArg Value.bool hv)) hl1 hl2 hl3 hg) rfl rfl rfl rfl rfl SubRC.sub (fun b14 => ?_); refine opened (B := B) (bo := bo) (ro := ro) (bc := bc) (rc := rc) (bb := b14) (fun mb1 so1 sc1 => ?_); refine o_q _ rfl rfl rfl (OpQ.fnm (told_m B bo ro so1 bc rc sc1 b14 mb1 hg hc) rfl [] [] rfl rfl rfl SubRC.sub) ?_; refine o_alloc (zs := zeroK) rfl inf156 rfl (by kernel_rfl) rfl rfl rfl (fun b7 => ?_); refine o_st (us := kC (tB B) (canB B (allS B) 0 false)) rfl inf156 rfl rfl rfl rfl rfl (kC_len (knownT_len _ _ _ _) _) (kC_one _ _) (Nat.ble_eq_true_of_le (by rw [kC_len (knownT_len _ _ _ _), zeroK_len]; decide)) ?_; refine o_nil (r_then (r_seq ?_)); refine Imp.box_to b7 (kC (tB B) (canB B (allS B) 0 false)) (splice_all (by rw [kC_len (knownT_len _ _ _ _), zeroK_len])) ?_; refine r_region ?_; refine q_as rfl rfl rfl rfl rfl ?_; refine q_as rfl rfl rfl rfl rfl ?_; refine o_nil (r_then (r_seq ?_)); refine r_seq (r_region ?_); refine o_q _ rfl rfl rfl (v_fieldAddr rfl Tryz.underlying66 inf63 rfl rfl rfl rfl) ?_; refine o_q _ rfl rfl rfl (v_ld1 rfl Tryz.underlying63 rfl rfl rfl) ?_; refine o_q _ rfl rfl rfl (v_len rfl rfl Tryz.underlying63 rfl) ?_; refine q_mv rfl rfl rfl rfl rfl ?_; refine o_nil (r_then ?_); refine r_block ?_
 refine r_loop (ι := Nat) (fun k => k ≤ B.banks.length) (fun k => [(3, pt b3 0), (4, i64 0), (5, i64 0), (6, pt b6 0), (7, pt b7 0), (8, i64 (mvTo (sureB B d.toNat) k)), (9, i64 (mvTo (someB B d.toNat) k)), (18, i64 B.banks.length), (19, i64 k)]) (fun k => bx b7 156 (kC (tB B) (canB B (allS B) 0 false)) :: memo Tryz.prog 233 (okB B) mb1 :: bx b6 47 [i64 0] :: bx b2 66 (cellsB B bo ro so bc rc sc) :: M) (fun k => rowD so1 3 encG B.signs :: boxF b14 230 [.slice bo B.banks.length bc, i64 B.wlo, i64 B.whi, .slice ro B.rain.length rc, i64 B.drain, .slice so1 B.signs.length sc1, .map (some mb1)] :: boxF b3 3 [i64 d] :: ([rowD bo 4 encB B.banks, rowD ro 2 encS B.rain, rowD so 3 encG B.signs] ++ Rf)) (fun k => B.banks.length - k) 0 ?_ ?_ ?_
 ·
  refine Imp.box_to b6 [i64 0] rfl ?_; exact r_here (by repeat (first | exact FSub.nil | refine FSub.cons rfl ?_)) SelMC.sel SubRC.sub
 ·
  omega
 ·
  rintro k hI0; have hm1 : mvTo (sureB B d.toNat) k < 2 ^ 62 := Nat.lt_of_lt_of_le (mvTo_lt _ _) (Nat.pow_le_pow_right (by decide) (by omega)); have hm2 : mvTo (someB B d.toNat) k < 2 ^ 62 := Nat.lt_of_lt_of_le (mvTo_lt _ _) (Nat.pow_le_pow_right (by decide) (by omega)); have hm3 : 2 ^ k < 2 ^ 62 := Nat.pow_lt_pow_right (by decide) (by omega); refine r_seq (r_region ?_); refine o_q _ rfl rfl rfl (v_lss rfl rfl rfl) ?_; refine o_nil (r_then (r_seq ?_)); refine r_condd rfl (fun hc20 => ?_) (fun hc20 => ?_)
  ·
   refine r_skip (r_then ?_); refine r_seq (r_block ?_); refine r_seq (r_region ?_); refine q_mv rfl rfl rfl rfl rfl ?_; refine q_as rfl rfl rfl rfl rfl ?_; refine o_nil (r_then (r_seq (r_region ?_))); refine o_q _ rfl rfl rfl (v_ldW rfl Tryz.underlying156 rfl inf156 rfl (kC_len (knownT_len _ _ _ _) _)) ?_; refine q_mv rfl rfl rfl rfl rfl ?_; refine o_q _ rfl rfl rfl (v_cast (v := i64 ((d.toNat : Nat) : Int)) (v_lf1 rfl Tryz.underlying3 rfl rfl rfl) (congrArg (Value.int .i64) (by omega))) ?_; refine o_q _ rfl rfl rfl (OpQ.fn (margin_v (tB B) (knownT_len _ _ _ _) (SmallT.known hg _ _ _) _ k d.toNat (by omega) (by omega)) rfl rfl SubRC.sub) ?_; refine o_alloc rfl inf43 rfl rfl rfl rfl rfl (fun b11 => ?_); refine o_st rfl inf43 rfl rfl rfl rfl rfl rfl rfl rfl ?_; refine o_nil (r_then (r_seq ?_)); refine r_seq (r_region ?_); refine o_q _ rfl rfl rfl (v_fieldAddr rfl Tryz.underlying43 inf3 rfl rfl rfl rfl) ?_; refine o_q _ rfl rfl rfl (v_ld1 rfl Tryz.underlying3 rfl rfl rfl) ?_; refine o_q _ rfl rfl rfl (v_lss rfl rfl rfl) ?_; refine o_nil (r_then ?_); refine r_condd rfl (fun hc28 => ?_) (fun hc28 => ?_)
   ·
    refine r_region ?_; refine q_mv rfl rfl rfl rfl rfl ?_; refine q_mv rfl rfl rfl rfl rfl ?_; refine o_q _ rfl rfl rfl (v_shl1 rfl rfl rfl (by omega) rfl) ?_; refine o_q _ rfl rfl rfl (v_orn rfl rfl rfl hm1 hm3) ?_; refine q_as rfl rfl rfl rfl rfl ?_; refine o_nil (r_then (r_seq (r_region ?_))); refine o_q _ rfl rfl rfl (v_fieldAddr rfl Tryz.underlying43 inf3 rfl rfl rfl rfl) ?_; refine o_q _ rfl rfl rfl (v_ld1 rfl Tryz.underlying3 rfl rfl rfl) ?_; refine o_q _ rfl rfl rfl (v_lss rfl rfl rfl) ?_; refine o_nil (r_then ?_); refine r_condd rfl (fun hc35 => ?_) (fun hc35 => ?_)
    ·
     refine r_region ?_; refine q_mv rfl rfl rfl rfl rfl ?_; refine q_mv rfl rfl rfl rfl rfl ?_; refine o_q _ rfl rfl rfl (v_shl1 rfl rfl rfl (by omega) rfl) ?_; refine o_q _ rfl rfl rfl (v_orn rfl rfl rfl hm2 hm3) ?_; refine q_as rfl rfl rfl rfl rfl ?_; refine o_nil ?_; refine r_in_normal ?_; refine r_then ?_; refine r_region ?_; refine o_q _ rfl rfl rfl (v_add rfl rfl rfl (by omega)) ?_; refine q_mv rfl rfl rfl rfl rfl ?_; refine o_nil (r_then ?_); refine r_next (k + 1) ?_ ?_ ?_
     ·
      exact r_here (by repeat (first | exact FSub.nil | refine FSub.cons rfl ?_ | refine FSub.cons2 rfl (congrArg (fun x : Nat => i64 (x : Int)) (by first | exact (mvTo_y (decide_eq_true (by assumption))).symm | exact (mvTo_n (fun x => absurd (of_decide_eq_true x) (by assumption))).symm)) ?_)) SelMC.sel SubRC.sub
     ·
      omega
     ·
      omega
    ·
     refine r_skip ?_; refine r_in_normal ?_; refine r_then ?_; refine r_region ?_; refine o_q _ rfl rfl rfl (v_add rfl rfl rfl (by omega)) ?_; refine q_mv rfl rfl rfl rfl rfl ?_; refine o_nil (r_then ?_); refine r_next (k + 1) ?_ ?_ ?_
     ·
      exact r_here (by repeat (first | exact FSub.nil | refine FSub.cons rfl ?_ | refine FSub.cons2 rfl (congrArg (fun x : Nat => i64 (x : Int)) (by first | exact (mvTo_y (decide_eq_true (by assumption))).symm | exact (mvTo_n (fun x => absurd (of_decide_eq_true x) (by assumption))).symm)) ?_)) SelMC.sel SubRC.sub
     ·
      omega
     ·
      omega
   ·
    refine r_skip (r_then (r_seq (r_region ?_))); refine o_q _ rfl rfl rfl (v_fieldAddr rfl Tryz.underlying43 inf3 rfl rfl rfl rfl) ?_; refine o_q _ rfl rfl rfl (v_ld1 rfl Tryz.underlying3 rfl rfl rfl) ?_; refine o_q _ rfl rfl rfl (v_lss rfl rfl rfl) ?_; refine o_nil (r_then ?_); refine r_condd rfl (fun hc35 => ?_) (fun hc35 => ?_)
    ·
     refine r_region ?_; refine q_mv rfl rfl rfl rfl rfl ?_; refine q_mv rfl rfl rfl rfl rfl ?_; refine o_q _ rfl rfl rfl (v_shl1 rfl rfl rfl (by omega) rfl) ?_; refine o_q _ rfl rfl rfl (v_orn rfl rfl rfl hm2 hm3) ?_; refine q_as rfl rfl rfl rfl rfl ?_; refine o_nil ?_; refine r_in_normal ?_; refine r_then ?_; refine r_region ?_; refine o_q _ rfl rfl rfl (v_add rfl rfl rfl (by omega)) ?_; refine q_mv rfl rfl rfl rfl rfl ?_; refine o_nil (r_then ?_); refine r_next (k + 1) ?_ ?_ ?_
     ·
      exact r_here (by repeat (first | exact FSub.nil | refine FSub.cons rfl ?_ | refine FSub.cons2 rfl (congrArg (fun x : Nat => i64 (x : Int)) (by first | exact (mvTo_y (decide_eq_true (by assumption))).symm | exact (mvTo_n (fun x => absurd (of_decide_eq_true x) (by assumption))).symm)) ?_)) SelMC.sel SubRC.sub
     ·
      omega
     ·
      omega
    ·
     refine r_skip ?_; refine r_in_normal ?_; refine r_then ?_; refine r_region ?_; refine o_q _ rfl rfl rfl (v_add rfl rfl rfl (by omega)) ?_; refine q_mv rfl rfl rfl rfl rfl ?_; refine o_nil (r_then ?_); refine r_next (k + 1) ?_ ?_ ?_
     ·
      exact r_here (by repeat (first | exact FSub.nil | refine FSub.cons rfl ?_ | refine FSub.cons2 rfl (congrArg (fun x : Nat => i64 (x : Int)) (by first | exact (mvTo_y (decide_eq_true (by assumption))).symm | exact (mvTo_n (fun x => absurd (of_decide_eq_true x) (by assumption))).symm)) ?_)) SelMC.sel SubRC.sub
     ·
      omega
     ·
      omega
  ·
   refine r_exit ?_; refine r_then_exit ?_; refine r_then_exit ?_; refine r_in_here ?_; refine r_then (r_seq (r_region ?_)); refine q_mv rfl rfl rfl rfl rfl ?_; refine q_mv rfl rfl rfl rfl rfl ?_; refine q_as rfl rfl rfl rfl rfl ?_; refine q_as rfl rfl rfl rfl rfl ?_; refine o_st rfl inf47 rfl rfl rfl rfl rfl rfl rfl rfl ?_; refine o_nil (r_then ?_); refine r_ret ?_; obtain rfl : k = B.banks.length := by omega
   exact d_retv answer_ans (Rd.three rfl (RdI.tmp rfl) (RdI.tmp rfl) (RdI.cell1 Tryz.underlying47 rfl rfl rfl)) (by rw [movesB, ansB_0 (chkB_0 hg hv hc)]; try rfl) SelMC.sel SubRC.sub
theorem moves_v (d : Int) (hl1 : B.banks.length ≤ 40) (hl2 : B.rain.length ≤ 40) (hl3 : B.signs.length ≤ 40) : FnV Tryz.prog 24 [valB B bo ro so bc rc sc, i64 d] [rowD bo 4 encB B.banks, rowD ro 2 encS B.rain, rowD so 3 encG B.signs] (.tuple #[i64 (movesB B d).1.1, i64 (movesB B d).1.2, i64 (movesB B d).2]) := by
  by_cases hg : GoodB B
  · cases hv : isD B d
    · exact moves_x2 B bo ro so bc rc sc d hl1 hl2 hl3 hg hv
    · cases hc : canB B (allS B) 0 false
      · exact moves_x3 B bo ro so bc rc sc d hl1 hl2 hl3 hg hv hc
      · exact moves_ok B bo ro so bc rc sc d hl1 hl2 hl3 hg hv hc
  · exact moves_x1 B bo ro so bc rc sc d hl1 hl2 hl3 hg
set_option maxHeartbeats 4000000 in
theorem until_x1  (hl1 : B.banks.length ≤ 40) (hl2 : B.rain.length ≤ 40) (hl3 : B.signs.length ≤ 40) (hng : ¬ GoodB B) : FnV Tryz.prog 23 [valB B bo ro so bc rc sc] [rowD bo 4 encB B.banks, rowD ro 2 encS B.rain, rowD so 3 encG B.signs] (.tuple #[i64 (untilB B).1, i64 (untilB B).2]) := by
 refine FnV.introD Tryz.call23 Tryz.func23 rfl Tryz.ntmps23 rfl ?_; intro W M Rf; refine r_seq (r_region ?_); refine o_boxA rfl rfl rfl rfl rfl (fun b1 => ?_); refine q_as rfl rfl rfl rfl rfl ?_; refine o_alloc rfl inf47 rfl rfl rfl rfl rfl (fun b3 => ?_); refine o_nil (r_then (r_seq (r_region ?_))); refine o_defer rfl rfl rfl rfl ?_; refine o_nil (r_then (r_seq (r_region ?_))); refine o_q _ rfl rfl rfl (v_ldW rfl Tryz.underlying66 rfl inf66 rfl rfl) ?_; refine o_fnx (open_x1 B bo ro so bc rc sc 84 [] [] hl1 hl2 hl3 hng) rfl rfl rfl SubRC.sub ?_; (with_reducible refine r_then_panic ?_); exact d_panv answer_ans (Rd.two rfl (RdI.tmp rfl) (RdI.cell1 Tryz.underlying47 rfl rfl rfl)) (by rw [untilB, ansE_n (chkB_1 hng) (by decide)]; try rfl) SelMC.sel SubRC.sub
set_option maxHeartbeats 4000000 in
theorem until_x3  (hl1 : B.banks.length ≤ 40) (hl2 : B.rain.length ≤ 40) (hl3 : B.signs.length ≤ 40) (hg : GoodB B) (hc : canB B (allS B) 0 false = false) : FnV Tryz.prog 23 [valB B bo ro so bc rc sc] [rowD bo 4 encB B.banks, rowD ro 2 encS B.rain, rowD so 3 encG B.signs] (.tuple #[i64 (untilB B).1, i64 (untilB B).2]) := by
 refine FnV.introD Tryz.call23 Tryz.func23 rfl Tryz.ntmps23 rfl ?_; intro W M Rf; refine r_seq (r_region ?_); refine o_boxA rfl rfl rfl rfl rfl (fun b1 => ?_); refine q_as rfl rfl rfl rfl rfl ?_; refine o_alloc rfl inf47 rfl rfl rfl rfl rfl (fun b3 => ?_); refine o_nil (r_then (r_seq (r_region ?_))); refine o_defer rfl rfl rfl rfl ?_; refine o_nil (r_then (r_seq (r_region ?_))); refine o_q _ rfl rfl rfl (v_ldW rfl Tryz.underlying66 rfl inf66 rfl rfl) ?_; refine o_openS (res := openR B bo ro bc rc) (open_ok B bo ro so bc rc sc 84 [] [] (fun bb mb => always_m B bo ro so bc rc sc bb mb) hl1 hl2 hl3 hg) rfl rfl rfl rfl rfl SubRC.sub (fun b10 => ?_); refine opened (B := B) (bo := bo) (ro := ro) (bc := bc) (rc := rc) (bb := b10) (fun mb1 so1 sc1 => ?_); refine o_fnxM (told_x B bo ro so1 bc rc sc1 b10 mb1 hg hc) rfl rfl rfl SubRC.sub ?_; (with_reducible refine r_then_panic ?_); exact d_panv answer_ans (Rd.two rfl (RdI.tmp rfl) (RdI.cell1 Tryz.underlying47 rfl rfl rfl)) (by rw [untilB, ansE_n (chkB_10 hg rfl hc) (by decide)]; try rfl) SelMC.sel SubRC.sub
set_option maxHeartbeats 4000000 in
theorem until_ok  (hl1 : B.banks.length ≤ 40) (hl2 : B.rain.length ≤ 40) (hl3 : B.signs.length ≤ 40) (hg : GoodB B) (hc : canB B (allS B) 0 false = true) : FnV Tryz.prog 23 [valB B bo ro so bc rc sc] [rowD bo 4 encB B.banks, rowD ro 2 encS B.rain, rowD so 3 encG B.signs] (.tuple #[i64 (untilB B).1, i64 (untilB B).2]) := by
 have hnr := hg.nr; have hnb := hg.nb; refine FnV.introD Tryz.call23 Tryz.func23 rfl Tryz.ntmps23 rfl ?_; intro W M Rf; refine r_seq (r_region ?_); refine o_boxA rfl rfl rfl rfl rfl (fun b1 => ?_); refine q_as rfl rfl rfl rfl rfl ?_; refine o_alloc rfl inf47 rfl rfl rfl rfl rfl (fun b3 => ?_); refine o_nil (r_then (r_seq (r_region ?_))); refine o_defer rfl rfl rfl rfl ?_; refine o_nil (r_then (r_seq (r_region ?_))); refine o_q _ rfl rfl rfl (v_ldW rfl Tryz.underlying66 rfl inf66 rfl rfl) ?_; refine o_openS (res := openR B bo ro bc rc) (open_ok B bo ro so bc rc sc 84 [] [] (fun bb mb => always_m B bo ro so bc rc sc bb mb) hl1 hl2 hl3 hg) rfl rfl rfl rfl rfl SubRC.sub (fun b10 => ?_); refine opened (B := B) (bo := bo) (ro := ro) (bc := bc) (rc := rc) (bb := b10) (fun mb1 so1 sc1 => ?_); refine o_q _ rfl rfl rfl (OpQ.fnm (told_m B bo ro so1 bc rc sc1 b10 mb1 hg hc) rfl [] [] rfl rfl rfl SubRC.sub) ?_; refine o_alloc (zs := zeroK) rfl inf156 rfl (by kernel_rfl) rfl rfl rfl (fun b4 => ?_); refine o_st (us := kC (tB B) (canB B (allS B) 0 false)) rfl inf156 rfl rfl rfl rfl rfl (kC_len (knownT_len _ _ _ _) _) (kC_one _ _) (Nat.ble_eq_true_of_le (by rw [kC_len (knownT_len _ _ _ _), zeroK_len]; decide)) ?_; refine o_nil (r_then (r_seq ?_)); refine Imp.box_to b4 (kC (tB B) (canB B (allS B) 0 false)) (splice_all (by rw [kC_len (knownT_len _ _ _ _), zeroK_len])) ?_; refine r_region ?_; refine q_as rfl rfl rfl rfl rfl ?_; refine o_nil (r_then (r_seq ?_)); refine r_seq (r_region ?_); refine o_q _ rfl rfl rfl (v_fieldAddr rfl Tryz.underlying66 inf59 rfl rfl rfl rfl) ?_; refine o_q _ rfl rfl rfl (v_ld1 rfl Tryz.underlying59 rfl rfl rfl) ?_; refine o_q _ rfl rfl rfl (v_len rfl rfl Tryz.underlying59 rfl) ?_; refine o_q _ rfl rfl rfl (v_add rfl rfl rfl (by omega)) ?_; refine q_mv rfl rfl rfl rfl rfl ?_; refine o_nil (r_then ?_); refine r_block ?_; refine r_loop (ι := Nat) (fun d => d ≤ B.rain.length + 1) (fun d => [(1, pt b1 0), (2, i64 0), (3, pt b3 0), (4, pt b4 0), (5, i64 (lastTo (safeB B) d)), (15, i64 ((B.rain.length : Int) + 1)), (16, i64 d)]) (fun d => bx b4 156 (kC (tB B) (canB B (allS B) 0 false)) :: memo Tryz.prog 233 (okB B) mb1 :: bx b3 47 [i64 0] :: bx b1 66 (cellsB B bo ro so bc rc sc) :: M) (fun d => rowD so1 3 encG B.signs :: boxF b10 230 [.slice bo B.banks.length bc, i64 B.wlo, i64 B.whi, .slice ro B.rain.length rc, i64 B.drain, .slice so1 B.signs.length sc1, .map (some mb1)] :: ([rowD bo 4 encB B.banks, rowD ro 2 encS B.rain, rowD so 3 encG B.signs] ++ Rf)) (fun d => B.rain.length + 1 - d) 0 ?_ ?_ ?_
 ·
  refine Imp.box_to b3 [i64 0] rfl ?_; exact r_here (by repeat (first | exact FSub.nil | refine FSub.cons rfl ?_)) SelMC.sel SubRC.sub
 ·
  omega
 ·
  rintro d hI0; refine r_seq (r_region ?_); refine o_q _ rfl rfl rfl (v_lss rfl rfl rfl) ?_; refine o_nil (r_then (r_seq ?_)); refine r_condd rfl (fun hc17 => ?_) (fun hc17 => ?_)
  ·
   refine r_skip (r_then ?_); refine r_seq (r_block ?_); refine r_seq (r_region ?_); refine q_mv rfl rfl rfl rfl rfl ?_; refine q_as rfl rfl rfl rfl rfl ?_; refine o_nil (r_then (r_seq (r_region ?_))); refine o_q _ rfl rfl rfl (v_ldW rfl Tryz.underlying156 rfl inf156 rfl (kC_len (knownT_len _ _ _ _) _)) ?_; refine o_q _ rfl rfl rfl (v_fieldAddr rfl Tryz.underlying66 inf63 rfl rfl rfl rfl) ?_; refine o_q _ rfl rfl rfl (v_ld1 rfl Tryz.underlying63 rfl rfl rfl) ?_; refine o_q _ rfl rfl rfl (v_len rfl rfl Tryz.underlying63 rfl) ?_; refine q_mv rfl rfl rfl rfl rfl ?_; refine o_q _ rfl rfl rfl (OpQ.fn (first_v (tB B) (knownT_len _ _ _ _) (SmallT.known hg _ _ _) _ B.banks.length d (by omega) (by omega)) rfl rfl SubRC.sub) ?_; refine q_mv rfl rfl rfl rfl rfl ?_; refine o_q _ rfl rfl rfl (v_extract rfl rfl rfl) ?_; refine o_q _ rfl rfl rfl (v_extract rfl rfl rfl) ?_; refine q_as rfl rfl rfl rfl rfl ?_; refine q_as rfl rfl rfl rfl rfl ?_; refine o_nil (r_then (r_seq (r_region ?_))); refine q_mv rfl rfl rfl rfl rfl ?_; refine o_q _ rfl rfl rfl (v_geq rfl rfl rfl) ?_; refine o_nil (r_then ?_); refine r_condd rfl (fun hc29 => ?_) (fun hc29 => ?_)
   ·
    refine r_region ?_; refine q_mv rfl rfl rfl rfl rfl ?_; refine q_as rfl rfl rfl rfl rfl ?_; refine o_nil ?_; refine r_in_normal ?_; refine r_then ?_; refine r_region ?_; refine o_q _ rfl rfl rfl (v_add rfl rfl rfl (by omega)) ?_; refine q_mv rfl rfl rfl rfl rfl ?_; refine o_nil (r_then ?_); refine r_next (d + 1) ?_ ?_ ?_
    ·
     exact r_here (by repeat (first | exact FSub.nil | refine FSub.cons rfl ?_ | refine FSub.cons2 rfl (congrArg i64 (by first | exact (lastTo_y (decide_eq_true (by assumption))).symm | exact (lastTo_n (fun x => absurd (of_decide_eq_true x) (by assumption))).symm)) ?_)) SelMC.sel SubRC.sub
    ·
     omega
    ·
     omega
   ·
    refine r_skip ?_; refine r_in_normal ?_; refine r_then ?_; refine r_region ?_; refine o_q _ rfl rfl rfl (v_add rfl rfl rfl (by omega)) ?_; refine q_mv rfl rfl rfl rfl rfl ?_; refine o_nil (r_then ?_); refine r_next (d + 1) ?_ ?_ ?_
    ·
     exact r_here (by repeat (first | exact FSub.nil | refine FSub.cons rfl ?_ | refine FSub.cons2 rfl (congrArg i64 (by first | exact (lastTo_y (decide_eq_true (by assumption))).symm | exact (lastTo_n (fun x => absurd (of_decide_eq_true x) (by assumption))).symm)) ?_)) SelMC.sel SubRC.sub
    ·
     omega
    ·
     omega
  ·
   refine r_exit ?_; refine r_then_exit ?_; refine r_then_exit ?_; refine r_in_here ?_; refine r_then (r_seq ?_); obtain rfl : d = B.rain.length + 1 := by omega
   refine r_region ?_; refine q_mv rfl rfl rfl rfl rfl ?_; refine o_test rfl rfl rfl (v_geq rfl rfl rfl) (fun h33 => ?_) (fun h33 => ?_)
   all_goals
    first | refine o_q _ rfl rfl rfl (OpQ.fn (ask_t _) rfl rfl SubRC.sub) ?_ | refine o_fnx (ask_f _) rfl rfl rfl SubRC.sub ?_
    repeat (first | with_reducible refine r_then_panic ?_); try (exact d_panv answer_ans (Rd.two rfl (RdI.tmp rfl) (RdI.cell1 Tryz.underlying47 rfl rfl rfl)) (by rw [untilB, ansE_4 (chkB_0 hg rfl hc) (by assumption)]; try rfl) SelMC.sel SubRC.sub)
    all_goals
     refine o_nil (r_then (r_seq (r_region ?_))); refine q_mv rfl rfl rfl rfl rfl ?_; refine q_as rfl rfl rfl rfl rfl ?_; refine o_st rfl inf47 rfl rfl rfl rfl rfl rfl rfl rfl ?_; refine o_nil (r_then ?_); refine r_ret ?_; exact d_retv answer_ans (Rd.two rfl (RdI.tmp rfl) (RdI.cell1 Tryz.underlying47 rfl rfl rfl)) (by rw [untilB, ansE_0 (chkB_0 hg rfl hc) (by assumption)]; try rfl) SelMC.sel SubRC.sub
theorem until_v  (hl1 : B.banks.length ≤ 40) (hl2 : B.rain.length ≤ 40) (hl3 : B.signs.length ≤ 40) : FnV Tryz.prog 23 [valB B bo ro so bc rc sc] [rowD bo 4 encB B.banks, rowD ro 2 encS B.rain, rowD so 3 encG B.signs] (.tuple #[i64 (untilB B).1, i64 (untilB B).2]) := by
  by_cases hg : GoodB B
  · cases hc : canB B (allS B) 0 false
    · exact until_x3 B bo ro so bc rc sc  hl1 hl2 hl3 hg hc
    · exact until_ok B bo ro so bc rc sc  hl1 hl2 hl3 hg hc
  · exact until_x1 B bo ro so bc rc sc  hl1 hl2 hl3 hg
end Go.Proofs.YtpndeonmmcaikaaGreat.BurstW

namespace Go.Proofs.YtpndeonmmcaikaaGreat.BurstW
open Go.G Burst8
set_option maxRecDepth 1000000
attribute [local irreducible] G.ParO G.Fin
attribute [local irreducible] fw fwR fwC emptyT tabOf knownT canB boundsL
variable (B : Bog) (bo ro so : Option Addr) (bc rc sc : Nat) (bb mb : Nat)
end Go.Proofs.YtpndeonmmcaikaaGreat.BurstW

namespace Go.Proofs.YtpndeonmmcaikaaGreat.BurstW
open Go.G Burst8
set_option maxRecDepth 1000000
attribute [local irreducible] G.ParO G.Fin
end Go.Proofs.YtpndeonmmcaikaaGreat.BurstW

namespace Go.Proofs.YtpndeonmmcaikaaGreat.BurstW
open Go.G Burst8
set_option maxRecDepth 1000000
attribute [local irreducible] G.ParO G.Fin
attribute [local irreducible] fw fwR fwC emptyT tabOf knownT canB boundsL
variable (B : Bog) (bo ro so : Option Addr) (bc rc sc : Nat) (bb mb : Nat)
end Go.Proofs.YtpndeonmmcaikaaGreat.BurstW

set_option linter.unusedVariables false
namespace Burst8
open Go Go.G
theorem fw_le {T : Tab} (hT : T.length = 121) {i k : Nat} (hi : i < 11) (hk : k < 11) : tat (fw T 11) i k ≤ tat T i k := (fw_spec hT 11 (Nat.le_refl _)).1 i hi k hk
def wayS (T : Tab) : Nat → List Nat → Nat → Int
  | i, [], k => tat T i k
  | i, a :: l, k => tat T i a + wayS T a l k
theorem way_le {T : Tab} (hT : T.length = 121) (hc : Can T) {k : Nat} (hk : k < 11) : ∀ (l : List Nat) {i : Nat}, i < 11 → (∀ a ∈ l, a < 11) → tat (fw T 11) i k ≤ wayS T i l k
  | [], i, hi, _ => fw_le hT hi hk
  | a :: l, i, hi, h => by
    have ha := h a (by simp)
    have h1 := tri hT hc hi hk ha
    have h2 := fw_le hT hi ha
    have h3 := way_le hT hc hk l ha (fun b hb => h b (by simp [hb]))
    show _ ≤ tat T i a + wayS T a l k
    omega
def Cert (T C : Tab) (v : Nat → Nat → List Nat) : Prop := ∀ i, i < 11 → ∀ k, k < 11 → (tat C k k = 0 ∧ ∀ j, j < 11 → tat C i k - tat C j k ≤ tat T i j) ∧ (∀ a ∈ v i k, a < 11) ∧ wayS T i (v i k) k ≤ tat C i k
instance (T C : Tab) (v : Nat → Nat → List Nat) : Decidable (Cert T C v) := by unfold Cert; infer_instance
theorem cert_sat {T C : Tab} {v : Nat → Nat → List Nat} (h : Cert T C v) {c : Nat} (hc : c < 11) : Sat T (fun i => tat C i c) := fun i hi k hk => (h i hi c hc).1.2 k hk
theorem cert_can {T C : Tab} {v : Nat → Nat → List Nat} (hT : T.length = 121) (h : Cert T C v) : Can T := (can_iff hT).2 ⟨_, cert_sat h (c := 0) (by omega)⟩
theorem cert_at {T C : Tab} {v : Nat → Nat → List Nat} (hT : T.length = 121) (h : Cert T C v) {i k : Nat} (hi : i < 11) (hk : k < 11) : tat (fw T 11) i k = tat C i k := by
  have hc := cert_can hT h
  obtain ⟨⟨h0, _⟩, ha, hw⟩ := h i hi k hk
  have h1 := way_le hT hc hk (v i k) hi ha
  have h2 := (span_in hT (cert_sat h hk) hi hk).2
  have h3 : tat C i k - tat C k k ≤ tat (fw T 11) i k := h2
  omega
theorem tab_ext {T U : Tab} (hT : T.length = 121) (hU : U.length = 121) (h : ∀ i, i < 11 → ∀ k, k < 11 → tat T i k = tat U i k) : T = U := by
  apply List.ext_getElem (by omega)
  intro n h1 h2
  have := h (n / 11) (by omega) (n % 11) (by omega)
  unfold tat at this
  rw [show 11 * (n / 11) + n % 11 = n from Nat.div_add_mod n 11, List.getD_eq_getElem?_getD, List.getD_eq_getElem?_getD, List.getElem?_eq_getElem h1, List.getElem?_eq_getElem h2] at this
  exact this
theorem cert_eq {T C : Tab} {v : Nat → Nat → List Nat} (hT : T.length = 121) (hC : C.length = 121) (h : Cert T C v) : fw T 11 = C := tab_ext (by rw [fw_len, hT]) hC (fun i hi k hk => cert_at hT h hi hk)
end Burst8

namespace Burst8
open Go Go.G
def sampleB (l : List Sign) : Bog := ⟨[⟨20, 22, 2, 3⟩, ⟨30, 30, 5, 8⟩], 4, 6, [⟨5, 8⟩, ⟨6, 6⟩], 1, l⟩
def wayAt (l : List (List Nat)) (i k : Nat) : List Nat := l.getD (11 * i + k) []
def TN : Tab := [0, (-17), (-22), 65536, 65536, (-4), 65536, 65536, 65536, 65536, 65536, 20, 0, 65536, 65536, 65536, 65536, 65536, 65536, 65536, 65536, 65536, 25, 65536, 0, 65536, 65536, 65536, 65536, 65536, 65536, 65536, 65536, 65536, 65536, 65536, 0, 65536, 65536, 65536, 65536, 65536, 65536, 65536, 65536, 65536, 65536, 65536, 0, 65536, 65536, 65536, 65536, 65536, 65536, 6, 65536, 65536, 65536, 65536, 0, (-4), 65536, 65536, 65536, 65536, 65536, 65536, 65536, 65536, 65536, 7, 0, (-5), 65536, 65536, 65536, 65536, 65536, 65536, 65536, 65536, 65536, 5, 0, 65536, 65536, 65536, 65536, 65536, 65536, 65536, 65536, 65536, 65536, 65536, 0, 65536, 65536, 65536, 65536, 65536, 65536, 65536, 65536, 65536, 65536, 65536, 0, 65536, 65536, 65536, 65536, 65536, 65536, 65536, 65536, 65536, 65536, 65536, 0]
theorem tabN : tabB (sampleB []) 0 0 false = TN := by decide +kernel
def KN : Tab := [0, (-17), (-22), 65514, 65514, (-4), (-8), (-13), 65514, 65514, 65514, 20, 0, (-2), 65534, 65534, 16, 12, 7, 65534, 65534, 65534, 25, 8, 0, 65536, 65536, 21, 17, 12, 65536, 65536, 65536, 65536, 65519, 65514, 0, 65536, 65532, 65528, 65523, 65536, 65536, 65536, 65536, 65519, 65514, 65536, 0, 65532, 65528, 65523, 65536, 65536, 65536, 6, (-11), (-16), 65520, 65520, 0, (-4), (-9), 65520, 65520, 65520, 13, (-4), (-9), 65527, 65527, 7, 0, (-5), 65527, 65527, 65527, 18, 1, (-4), 65532, 65532, 12, 5, 0, 65532, 65532, 65532, 65536, 65519, 65514, 65536, 65536, 65532, 65528, 65523, 0, 65536, 65536, 65536, 65519, 65514, 65536, 65536, 65532, 65528, 65523, 65536, 0, 65536, 65536, 65519, 65514, 65536, 65536, 65532, 65528, 65523, 65536, 65536, 0]
def WN : List (List Nat) := [[], [], [], [2], [2], [], [5], [5, 6], [2], [2], [2], [], [], [0], [0, 2], [0, 2], [0], [0, 5], [0, 5, 6], [0, 2], [0, 2], [0, 2], [], [0], [], [], [], [0], [0, 5], [0, 5, 6], [], [], [], [], [0], [0], [], [], [0], [0, 5], [0, 5, 6], [], [], [], [], [0], [0], [], [], [0], [0, 5], [0, 5, 6], [], [], [], [], [0], [0], [0, 2], [0, 2], [], [], [6], [0, 2], [0, 2], [0, 2], [5], [5, 0], [5, 0], [5, 0, 2], [5, 0, 2], [], [], [], [5, 0, 2], [5, 0, 2], [5, 0, 2], [6, 5], [6, 5, 0], [6, 5, 0], [6, 5, 0, 2], [6, 5, 0, 2], [6], [], [], [6, 5, 0, 2], [6, 5, 0, 2], [6, 5, 0, 2], [], [0], [0], [], [], [0], [0, 5], [0, 5, 6], [], [], [], [], [0], [0], [], [], [0], [0, 5], [0, 5, 6], [], [], [], [], [0], [0], [], [], [0], [0, 5], [0, 5, 6], [], [], []]
theorem certN : Cert TN KN (wayAt WN) := by decide +kernel
theorem knownN : knownT (sampleB []) 0 0 false = KN := by unfold knownT; rw [tabN]; exact cert_eq rfl rfl certN
theorem canN : canB (sampleB []) 0 0 false = true := by unfold canB; rw [tabN]; exact decide_eq_true (cert_can rfl certN)
end Burst8
