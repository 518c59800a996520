/- Part 3 of 5 of what the proofs of this seat stand on: a small logic for walks, what the functions come to, and the walks themselves. No condition of its own. -/
import Derived.Test.YtpfgiednfjfdmaaDoorB2
set_option linter.unusedVariables false
set_option linter.unusedSimpArgs false
set_option linter.unusedSectionVars false
namespace Go.Proofs.YtpfgiednfjfdmaaDoor
open Go.G Debt10
set_option maxRecDepth 1000000
attribute [local irreducible] G.ParO G.Fin
theorem laid0 : laidOutB Tryd.prog = true := by kernel_rfl
theorem keyLaw113 : WideMaps.KeyLaw Tryd.prog 113 := deep_law_gate laid0 (by decide +kernel) (by decide +kernel) (by kernel_rfl) (by kernel_rfl)
@[reducible] def keyV (who : Int) (e d : Nat) (g : Bool) : Value := .agg #[i64 who, i64 (e : Int), i64 (d : Int), .bool g]
theorem key_of {who : Int} {e d : Nat} {g : Bool} (hw : -1000 ≤ who ∧ who ≤ 1000) (he : e < 2) (hd : d ≤ 1000) : ∃ l, keyOf Tryd.prog 113 (keyV who e d g) = some l := by
  have h1 := Tryd.underlying113
  unfold keyOf
  rw [h1]
  have h2 : Tryd.prog.keyType 113 = true := by kernel_rfl
  have h3 : (keyV who e d g).formed Tryd.prog 113 = true := by cases g <;> kernel_rfl
  have c113 : Tryd.prog.cellsOf 113 = 4 := by kernel_rfl
  have c3 : Tryd.prog.cellsOf 3 = 1 := by kernel_rfl
  have c4 : Tryd.prog.cellsOf 4 = 1 := by kernel_rfl
  have kl3 : ∀ (s : Int), (-1000 ≤ s ∧ s ≤ 1000) → ∀ d, Tryd.prog.keyLits (d + 1) 3 [i64 s] = some [.int .i64 s] := fun s hs d => by
    have hw : (Lit.int .i64 s).wf = true := by
      have m1 : IntKind.i64.min = -9223372036854775808 := rfl
      have m2 : IntKind.i64.max = 9223372036854775807 := rfl
      simp only [Lit.wf]
      simp
      omega
    unfold Program.keyLits
    rw [Tryd.underlying3]
    simp [hw]
  have kl4 : ∀ d, Tryd.prog.keyLits (d + 1) 4 [.bool g] = some [.bool g] := fun d => by
    unfold Program.keyLits
    rw [Tryd.underlying4]
  have k1 := kl3 who hw
  have k2 := kl3 (e : Int) (by omega)
  have k3 := kl3 (d : Int) (by omega)
  have e113 : Tryd.prog.keyLits (Tryd.prog.types.size + 1) 113 (keyV who e d g).cells.toList = some [.int .i64 who, .int .i64 (e : Int), .int .i64 (d : Int), .bool g] := by
    have hsz : Tryd.prog.types.size + 1 = 184 + 2 := by kernel_rfl
    rw [hsz]
    unfold Program.keyLits
    rw [Tryd.underlying113]
    simp [c113, c3, c4, Value.cells, k1, k2, k3, kl4]
  rw [e113, h2, h3]
  exact ⟨_, rfl⟩
/-- The two ends, as they are laid. -/
def encE (e : Nat) : List Value := [endV e]
theorem ends_at {e : Nat} (he : e < 2) : (encE (([0, 1] : List Nat).getD e default))[0]? = some (endV e) := by
  obtain rfl | rfl : e = 0 ∨ e = 1 := by omega
  · rfl
  · rfl
theorem Imp.toZ {α : Type} {enc : α → List Value} {sz : Nat} {T : TypeId} {xs : List α} {W : World} {n : Nat} {Df : List Deferred} {L : Tm} {M M' : List Res} {R : List Fact} {X : Act → World → Prop} (v : Value) [hd : HasOwn v M T sz enc xs M'] (ys : List α) (e : xs = ys) (h : Imp W n Df L (ownZ v T sz enc ys :: M') R X) : Imp W n Df L M R X := by
  subst e
  intro a w g1 g2 g3
  refine h a w g1 g2 ?_
  have g4 : St W (ownL v T sz enc xs :: M') R w := g3.perm hd.del.perm
  obtain ⟨s, ⟨s1, s2, rfl, hz, hS⟩, hO, hR⟩ := g4.mem
  exact ⟨g4.os, g4.tape, g4.output, s1 ++ s2, ⟨s1, s2, rfl, .inr hz, hS⟩, hO, hR⟩
class HasOwnZ {α : outParam Type} (v : Value) (M : List Res) (T : outParam TypeId) (sz : outParam Nat) (enc : outParam (α → List Value)) (xs : outParam (List α)) (M' : outParam (List Res)) : Prop where
  del : Del M (ownZ v T sz enc xs) M'
instance HasOwnZ.head {α : Type} {v : Value} {M : List Res} {T : TypeId} {sz : Nat} {enc : α → List Value} {xs : List α} : HasOwnZ v (ownZ v T sz enc xs :: M) T sz enc xs M := ⟨Del.here⟩
instance HasOwnZ.tail {α : Type} {v : Value} {r : Res} {M M' : List Res} {T : TypeId} {sz : Nat} {enc : α → List Value} {xs : List α} [h : HasOwnZ v M T sz enc xs M'] : HasOwnZ v (r :: M) T sz enc xs (r :: M') := ⟨Del.there h.del⟩
theorem Imp.isZ2 {α : Type} {enc : α → List Value} {sz : Nat} {T : TypeId} {xs : List α} {W : World} {n : Nat} {Df : List Deferred} {L : Tm} {M M' : List Res} {R : List Fact} {X : Act → World → Prop} (v : Value) [hd : HasOwnZ v M T sz enc xs M'] (h : isSl xs.length v → Imp W n Df L M R X) : Imp W n Df L M R X := by
  haveI : DelC M (ownZ v T sz enc xs) M' := ⟨hd.del⟩
  exact Imp.isZ (enc := enc) (sz := sz) (T := T) (xs := xs) (M' := M') v h
theorem Imp.settleZ2 {α : Type} {enc : α → List Value} {sz : Nat} {T : TypeId} {xs : List α} {W : World} {n : Nat} {Df : List Deferred} {L : Tm} {M M' : List Res} {R : List Fact} {X : Act → World → Prop} (v : Value) [hd : HasOwnZ v M T sz enc xs M'] (henc : ∀ x, (enc x).length = sz) (h : ∀ oa cap, v = .slice oa xs.length cap → Imp W n Df L M' (rowD oa sz enc xs :: R) X) : Imp W n Df L M R X := by
  haveI : DelC M (ownZ v T sz enc xs) M' := ⟨hd.del⟩
  exact Imp.settleZ (T := T) (xs := xs) (M' := M') v henc h
theorem Imp.toZZ {α : Type} {enc : α → List Value} {sz : Nat} {T : TypeId} {xs : List α} {W : World} {n : Nat} {Df : List Deferred} {L : Tm} {M M' : List Res} {R : List Fact} {X : Act → World → Prop} (v : Value) [hd : HasOwnZ v M T sz enc xs M'] (ys : List α) (e : xs = ys) (h : Imp W n Df L (ownZ v T sz enc ys :: M') R X) : Imp W n Df L M R X := by
  subst e
  exact fun a w g1 g2 g3 => h a w g1 g2 (g3.perm hd.del.perm)
variable (D : Debt) (uo po : Option Addr) (uc pc : Nat)
variable (lb mb : Nat)
/-- What is laid when a debt is looked at. -/
def ledR (b : Nat) : Res := exR fun mb : Nat => [mapG Tryd.prog 113 mb (fun _ => none), bx b 108 [i64 D.people, .slice uo D.dues.length uc, .slice po D.paid.length pc, .map (some mb)]]
theorem Imp.pk1 {α : Type} {N : α → List Res} {W : World} {n : Nat} {Df : List Deferred} {L : Tm} {M M' : List Res} {R : List Fact} {X : Act → World → Prop} (x : α) (hM : SelM M (N x ++ M')) (h : Imp W n Df L (exR N :: M') R X) : Imp W n Df L M R X := fun a w h1 h2 h3 => h a w h1 h2 (St.pk x (h3.sel hM))
theorem led_pk {W : World} {n : Nat} {Df : List Deferred} {L : Tm} {M M' : List Res} {R : List Fact} {X : Act → World → Prop} (hM : SelM M (mapG Tryd.prog 113 mb (fun _ => none) :: bx lb 108 [i64 D.people, .slice uo D.dues.length uc, .slice po D.paid.length pc, .map (some mb)] :: M')) (h : Imp W n Df L (ledR D uo po uc pc lb :: M') R X) : Imp W n Df L M R X := Imp.pk1 (N := fun mb : Nat => [mapG Tryd.prog 113 mb (fun _ => none), bx lb 108 [i64 D.people, .slice uo D.dues.length uc, .slice po D.paid.length pc, .map (some mb)]]) mb hM h
set_option maxHeartbeats 4000000 in
theorem look_ok (hl1 : D.dues.length ≤ 40) (hl2 : D.paid.length ≤ 40) (hg : GoodD D) : FnS Tryd.prog 44 [valD D uo po uc pc, .bool true] [] [rowD uo 5 encD D.dues, rowD po 4 encP D.paid] (fun e M' R' => ∃ b, e = .returned (pt b 0) ∧ M' = [ledR D uo po uc pc b] ∧ R' = []) := by
 refine FnS.intro0 Tryd.call44 Tryd.func44 rfl Tryd.ntmps44 rfl ?_
 intro W M Rf
 refine r_seq ?_
 refine r_region ?_
 refine o_boxA rfl rfl rfl rfl rfl (fun b2 => ?_)
 refine o_q _ rfl rfl rfl (v_assign rfl rfl) ?_
 refine o_nil ?_
 with_reducible refine r_then ?_
 refine r_seq ?_
 have hq1 := hg.np
 have hq2 := hg.nd
 have hq3 := hg.ny
 refine r_region ?_
 refine o_q _ rfl rfl rfl (v_fieldAddr rfl Tryd.underlying25 inf3 rfl rfl rfl rfl) ?_
 refine o_q _ rfl rfl rfl (v_ld1 rfl Tryd.underlying3 rfl rfl rfl) ?_
 refine o_q _ rfl rfl rfl (v_true (OpQ.fn (within_v _ _ _) rfl rfl SubRC.sub) (by omega)) ?_
 all_goals
  refine o_q _ rfl rfl rfl (v_move rfl rfl) ?_
  refine o_g _ rfl rfl rfl rfl (v_fieldAddr rfl Tryd.underlying25 inf22 rfl rfl rfl rfl) ?_
  refine o_g _ rfl rfl rfl rfl (v_ld1 rfl Tryd.underlying22 rfl rfl rfl) ?_
  refine o_g _ rfl rfl rfl rfl (v_len rfl rfl Tryd.underlying22 rfl) ?_
  refine o_g _ rfl rfl rfl rfl (v_true (v_leq rfl rfl rfl) (by omega)) ?_
  all_goals
   refine o_q _ rfl rfl rfl (v_pick_t rfl rfl rfl) ?_
   refine o_q _ rfl rfl rfl (v_move rfl rfl) ?_
   refine o_g _ rfl rfl rfl rfl (v_fieldAddr rfl Tryd.underlying25 inf23 rfl rfl rfl rfl) ?_
   refine o_g _ rfl rfl rfl rfl (v_ld1 rfl Tryd.underlying23 rfl rfl rfl) ?_
   refine o_g _ rfl rfl rfl rfl (v_len rfl rfl Tryd.underlying23 rfl) ?_
   refine o_g _ rfl rfl rfl rfl (v_true (v_leq rfl rfl rfl) (by omega)) ?_
   all_goals
    refine o_q _ rfl rfl rfl (v_pick_t rfl rfl rfl) ?_
    refine o_q _ rfl rfl rfl (OpQ.fn (ask_t _) rfl rfl SubRC.sub) ?_
    try ((exfalso; first | omega | (have hok2 := hok (by omega); first | omega | exact absurd hok2.2.2.1 (by assumption) | exact absurd hok2.2.2 (by assumption))))
    all_goals
     refine o_nil ?_
     with_reducible refine r_then ?_
     refine r_seq ?_
     refine r_seq ?_
     refine r_region ?_
     refine o_q _ rfl rfl rfl (v_fieldAddr rfl Tryd.underlying25 inf22 rfl rfl rfl rfl) ?_
     refine o_q _ rfl rfl rfl (v_ld1 rfl Tryd.underlying22 rfl rfl rfl) ?_
     refine o_q _ rfl rfl rfl (v_len rfl rfl Tryd.underlying22 rfl) ?_
     refine o_q _ rfl rfl rfl (v_move rfl rfl) ?_
     refine o_nil ?_
     with_reducible refine r_then ?_
     refine r_block ?_
     refine r_loop (ι := Nat) (fun k => k ≤ D.dues.length ∧ (1 ≤ D.people ∧ D.people ≤ 4) ∧ D.dues.length ≤ 6 ∧ D.paid.length ≤ 6 ∧ ∀ j, j < k → DueOk D (D.dues.getD j default)) (fun k => [(1, .bool true), (2, pt b2 0), (26, .slice uo D.dues.length uc), (27, i64 D.dues.length), (28, i64 k)]) (fun k => bx b2 25 (cellsD D uo po uc pc) :: M) (fun k => [rowD uo 5 encD D.dues, rowD po 4 encP D.paid] ++ Rf) (fun k => D.dues.length - k) 0 ?_ ?_ ?_
     ·
      exact r_here (by repeat (first | exact FSub.nil | refine FSub.cons rfl ?_)) SelMC.sel SubRC.sub
     ·
      exact ⟨Nat.zero_le _, by omega, by omega, by omega, fun j hj => absurd hj (by omega)⟩
     ·
      rintro k hI0
      have hwr : IntKind.i64.wrap (D.people - 1) = D.people - 1 := IntWalk.i64_in _ (by omega)
      have hok := hg.dues k
      unfold DueOk at hok
      refine r_seq ?_
      refine r_region ?_
      refine o_q _ rfl rfl rfl (v_lss rfl rfl rfl) ?_
      refine o_nil ?_
      with_reducible refine r_then ?_
      refine r_seq ?_
      refine r_condd rfl (fun hc29 => ?_) (fun hc29 => ?_)
      ·
       refine r_skip ?_
       with_reducible refine r_then ?_
       refine r_seq ?_
       refine r_block ?_
       refine r_seq ?_
       refine r_region ?_
       refine o_q _ rfl rfl rfl (v_indexAddrSn rfl Tryd.underlying22 inf62 rfl rfl rfl (by omega) rfl) ?_
       refine o_q _ rfl rfl rfl (v_loadEN (us := encD (D.dues.getD k default)) rfl Tryd.underlying62 rfl inf62 rfl (by omega) rfl rfl rfl) ?_
       refine o_alloc rfl inf62 rfl rfl rfl rfl rfl (fun b6 => ?_)
       refine o_st rfl inf62 rfl rfl rfl rfl rfl rfl rfl rfl ?_
       refine o_nil ?_
       with_reducible refine r_then ?_
       refine Imp.box_to b6 (encD (D.dues.getD k default)) rfl ?_
       refine r_region ?_
       refine o_q _ rfl rfl rfl (v_ldW rfl Tryd.underlying25 rfl inf25 rfl rfl) ?_
       refine o_q _ rfl rfl rfl (v_fieldAddr rfl Tryd.underlying62 inf3 rfl rfl rfl rfl) ?_
       refine o_q _ rfl rfl rfl (v_ld1 rfl Tryd.underlying3 rfl rfl rfl) ?_
       refine o_q _ rfl rfl rfl (v_true (OpQ.fn (isWho_v D uo po uc pc (D.dues.getD k default).who) rfl rfl SubRC.sub) (by omega)) ?_
       all_goals
        refine o_q _ rfl rfl rfl (v_move rfl rfl) ?_
        refine o_g _ rfl rfl rfl rfl (v_fieldAddr rfl Tryd.underlying62 inf3 rfl rfl rfl rfl) ?_
        refine o_g _ rfl rfl rfl rfl (v_ld1 rfl Tryd.underlying3 rfl rfl rfl) ?_
        refine o_g _ rfl rfl rfl rfl (v_true (OpQ.fn (isDay_v _) rfl rfl SubRC.sub) (by omega)) ?_
        all_goals
         refine o_q _ rfl rfl rfl (v_pick_t rfl rfl rfl) ?_
         refine o_q _ rfl rfl rfl (v_move rfl rfl) ?_
         refine o_g _ rfl rfl rfl rfl (v_fieldAddr rfl Tryd.underlying62 inf29 rfl rfl rfl rfl) ?_
         refine o_g _ rfl rfl rfl rfl (v_ldN rfl Tryd.underlying29 rfl inf29 rfl rfl rfl) ?_
         refine o_gtest rfl rfl rfl rfl (OpQ.fn (isSods_v (D.dues.getD k default).sods.lo (D.dues.getD k default).sods.hi) rfl rfl SubRC.sub) (fun h44 => ?_) (fun h44 => ?_)
         all_goals
          refine o_q _ rfl rfl rfl (v_pick_t rfl rfl rfl) ?_
          refine o_q _ rfl rfl rfl (v_move rfl rfl) ?_
          first | refine o_gn rfl rfl rfl rfl ?_ | refine o_g _ rfl rfl rfl rfl (v_fieldAddr rfl Tryd.underlying62 inf3 rfl rfl rfl rfl) ?_
          first | refine o_gn rfl rfl rfl rfl ?_ | refine o_g _ rfl rfl rfl rfl (v_ld1 rfl Tryd.underlying3 rfl rfl rfl) ?_
          first | refine o_gn rfl rfl rfl rfl ?_ | refine o_g _ rfl rfl rfl rfl (v_true (OpQ.fn (within_v _ _ _) rfl rfl SubRC.sub) (by omega)) ?_
          all_goals
           first | refine o_q _ rfl rfl rfl (v_pick_t rfl rfl rfl) ?_ | refine o_q _ rfl rfl rfl (v_pick_f rfl rfl rfl) ?_
           first | refine o_q _ rfl rfl rfl (OpQ.fn (ask_t _) rfl rfl SubRC.sub) ?_ | refine o_fnx (ask_f _) rfl rfl rfl SubRC.sub ?_
           repeat (first | with_reducible refine r_then_panic ?_ | with_reducible refine r_in_panic ?_)
           try ((exfalso; first | omega | (have hok2 := hok (by omega); first | omega | exact absurd hok2.2.2.1 (by assumption) | exact absurd hok2.2.2 (by assumption))))
           all_goals
            refine o_nil ?_
            with_reducible refine r_in_normal ?_; refine r_then ?_
            refine r_region ?_
            refine o_q _ rfl rfl rfl (v_add rfl rfl rfl (by omega)) ?_
            refine o_q _ rfl rfl rfl (v_move rfl rfl) ?_
            refine o_nil ?_
            with_reducible refine r_then ?_
            refine r_next (k + 1) ?_ ?_ ?_
            ·
             exact r_here (by repeat (first | exact FSub.nil | refine FSub.cons rfl ?_)) SelMC.sel SubRC.sub
            ·
             exact ⟨by omega, by omega, by omega, by omega, all_step hI0.2.2.2.2 (by unfold DueOk; refine ⟨by omega, by omega, by assumption, by omega⟩)⟩
            ·
             omega
      ·
       refine r_exit ?_
       with_reducible refine r_then_exit ?_; refine r_then_exit ?_; refine r_in_here ?_; refine r_then ?_
       refine r_seq ?_
       refine r_seq ?_
       refine r_region ?_
       refine o_q _ rfl rfl rfl (v_fieldAddr rfl Tryd.underlying25 inf23 rfl rfl rfl rfl) ?_
       refine o_q _ rfl rfl rfl (v_ld1 rfl Tryd.underlying23 rfl rfl rfl) ?_
       refine o_q _ rfl rfl rfl (v_len rfl rfl Tryd.underlying23 rfl) ?_
       refine o_q _ rfl rfl rfl (v_move rfl rfl) ?_
       refine o_nil ?_
       with_reducible refine r_then ?_
       refine r_block ?_
       refine r_loop (ι := Nat) (fun k => k ≤ D.paid.length ∧ (1 ≤ D.people ∧ D.people ≤ 4) ∧ D.dues.length ≤ 6 ∧ D.paid.length ≤ 6 ∧ (∀ j, j < D.dues.length → DueOk D (D.dues.getD j default)) ∧ ∀ j, j < k → PaidOk D (D.paid.getD j default)) (fun k => [(1, .bool true), (2, pt b2 0), (54, .slice po D.paid.length pc), (55, i64 D.paid.length), (56, i64 k)]) (fun k => bx b2 25 (cellsD D uo po uc pc) :: M) (fun k => [rowD uo 5 encD D.dues, rowD po 4 encP D.paid] ++ Rf) (fun k => D.paid.length - k) 0 ?_ ?_ ?_
       ·
        exact r_here (by repeat (first | exact FSub.nil | refine FSub.cons rfl ?_)) SelMC.sel SubRC.sub
       ·
        exact ⟨Nat.zero_le _, by omega, by omega, by omega, (by have hk : k = D.dues.length := (by omega); rw [← hk]; exact hI0.2.2.2.2), fun j hj => absurd hj (by omega)⟩
       ·
        rintro k hI1
        have hwr : IntKind.i64.wrap (D.people - 1) = D.people - 1 := IntWalk.i64_in _ (by omega)
        have hok := hg.paid k
        unfold PaidOk at hok
        refine r_seq ?_
        refine r_region ?_
        refine o_q _ rfl rfl rfl (v_lss rfl rfl rfl) ?_
        refine o_nil ?_
        with_reducible refine r_then ?_
        refine r_seq ?_
        refine r_condd rfl (fun hc57 => ?_) (fun hc57 => ?_)
        ·
         refine r_skip ?_
         with_reducible refine r_then ?_
         refine r_seq ?_
         refine r_block ?_
         refine r_seq ?_
         refine r_region ?_
         refine o_q _ rfl rfl rfl (v_indexAddrSn rfl Tryd.underlying23 inf54 rfl rfl rfl (by omega) rfl) ?_
         refine o_q _ rfl rfl rfl (v_loadEN (us := encP (D.paid.getD k default)) rfl Tryd.underlying54 rfl inf54 rfl (by omega) rfl rfl rfl) ?_
         refine o_alloc rfl inf54 rfl rfl rfl rfl rfl (fun b8 => ?_)
         refine o_st rfl inf54 rfl rfl rfl rfl rfl rfl rfl rfl ?_
         refine o_nil ?_
         with_reducible refine r_then ?_
         refine Imp.box_to b8 (encP (D.paid.getD k default)) rfl ?_
         refine r_region ?_
         refine o_q _ rfl rfl rfl (v_ldW rfl Tryd.underlying25 rfl inf25 rfl rfl) ?_
         refine o_q _ rfl rfl rfl (v_fieldAddr rfl Tryd.underlying54 inf3 rfl rfl rfl rfl) ?_
         refine o_q _ rfl rfl rfl (v_ld1 rfl Tryd.underlying3 rfl rfl rfl) ?_
         refine o_q _ rfl rfl rfl (v_true (OpQ.fn (isWho_v D uo po uc pc (D.paid.getD k default).who) rfl rfl SubRC.sub) (by omega)) ?_
         all_goals
          refine o_q _ rfl rfl rfl (v_move rfl rfl) ?_
          refine o_g _ rfl rfl rfl rfl (v_fieldAddr rfl Tryd.underlying54 inf3 rfl rfl rfl rfl) ?_
          refine o_g _ rfl rfl rfl rfl (v_ld1 rfl Tryd.underlying3 rfl rfl rfl) ?_
          refine o_g _ rfl rfl rfl rfl (v_true (OpQ.fn (isDay_v _) rfl rfl SubRC.sub) (by omega)) ?_
          all_goals
           refine o_q _ rfl rfl rfl (v_pick_t rfl rfl rfl) ?_
           refine o_q _ rfl rfl rfl (v_move rfl rfl) ?_
           refine o_g _ rfl rfl rfl rfl (v_fieldAddr rfl Tryd.underlying54 inf29 rfl rfl rfl rfl) ?_
           refine o_g _ rfl rfl rfl rfl (v_ldN rfl Tryd.underlying29 rfl inf29 rfl rfl rfl) ?_
           refine o_gtest rfl rfl rfl rfl (OpQ.fn (isSods_v (D.paid.getD k default).sods.lo (D.paid.getD k default).sods.hi) rfl rfl SubRC.sub) (fun h72 => ?_) (fun h72 => ?_)
           all_goals
            refine o_q _ rfl rfl rfl (v_pick_t rfl rfl rfl) ?_
            first | refine o_q _ rfl rfl rfl (OpQ.fn (ask_t _) rfl rfl SubRC.sub) ?_ | refine o_fnx (ask_f _) rfl rfl rfl SubRC.sub ?_
            repeat (first | with_reducible refine r_then_panic ?_ | with_reducible refine r_in_panic ?_)
            try ((exfalso; first | omega | (have hok2 := hok (by omega); first | omega | exact absurd hok2.2.2.1 (by assumption) | exact absurd hok2.2.2 (by assumption))))
            all_goals
             refine o_nil ?_
             with_reducible refine r_in_normal ?_; refine r_then ?_
             refine r_region ?_
             refine o_q _ rfl rfl rfl (v_add rfl rfl rfl (by omega)) ?_
             refine o_q _ rfl rfl rfl (v_move rfl rfl) ?_
             refine o_nil ?_
             with_reducible refine r_then ?_
             refine r_next (k + 1) ?_ ?_ ?_
             ·
              exact r_here (by repeat (first | exact FSub.nil | refine FSub.cons rfl ?_)) SelMC.sel SubRC.sub
             ·
              exact ⟨by omega, by omega, by omega, by omega, hI1.2.2.2.2.1, all_step hI1.2.2.2.2.2 (by unfold PaidOk; refine ⟨by omega, by omega, by assumption⟩)⟩
             ·
              omega
        ·
         refine r_exit ?_
         with_reducible refine r_then_exit ?_; refine r_then_exit ?_; refine r_in_here ?_; refine r_then ?_
         refine r_seq ?_
         refine r_region ?_
         refine o_q _ rfl rfl rfl (v_move rfl rfl) ?_
         refine o_q _ rfl rfl rfl (OpQ.fn (ask_t _) rfl rfl SubRC.sub) ?_
         try ((exfalso; first | omega | (have hok2 := hok (by omega); first | omega | exact absurd hok2.2.2.1 (by assumption) | exact absurd hok2.2.2 (by assumption))))
         all_goals
          refine o_nil ?_
          with_reducible refine r_then ?_
          refine r_seq ?_
          refine r_region ?_
          refine o_q _ rfl rfl rfl (v_ldW rfl Tryd.underlying25 rfl inf25 rfl rfl) ?_
          refine o_makeMapG (P := Tryd.prog) (k := 113) rfl rfl rfl rfl (fun b79 => ?_)
          refine o_q _ rfl rfl rfl (v_bS rfl Tryd.underlying108 inf108 plt108 rfl rfl rfl (by repeat (first | exact trivial | refine ⟨rfl, ?_⟩)) (by rfl)) ?_
          refine o_boxA rfl rfl rfl rfl rfl (fun b81 => ?_)
          refine o_q _ rfl rfl rfl (v_assign rfl rfl) ?_
          refine o_nil ?_
          with_reducible refine r_then ?_
          refine r_ret ?_
          refine Imp.box_to b81 [i64 D.people, .slice uo D.dues.length uc, .slice po D.paid.length pc, .map (some b79)] rfl ?_
          refine led_pk D uo po uc pc b81 b79 (M' := M) SelMC.sel ?_
          exact r_rete [ledR D uo po uc pc b81] [] (Rd.tmp rfl rfl) ⟨b81, rfl, rfl, rfl⟩ SelMC.sel SubRC.sub
set_option maxHeartbeats 4000000 in
theorem look_x2 (hl1 : D.dues.length ≤ 40) (hl2 : D.paid.length ≤ 40) (hg : GoodD D) : FnX Tryd.prog 44 [valD D uo po uc pc, .bool false] [rowD uo 5 encD D.dues, rowD po 4 encP D.paid] (.iface 103 (i64 2)) := by
 refine FnX.intro Tryd.call44 Tryd.func44 rfl Tryd.ntmps44 rfl ?_
 intro W M Rf
 refine r_seq ?_
 refine r_region ?_
 refine o_boxA rfl rfl rfl rfl rfl (fun b2 => ?_)
 refine o_q _ rfl rfl rfl (v_assign rfl rfl) ?_
 refine o_nil ?_
 with_reducible refine r_then ?_
 refine r_seq ?_
 have hq1 := hg.np
 have hq2 := hg.nd
 have hq3 := hg.ny
 refine r_region ?_
 refine o_q _ rfl rfl rfl (v_fieldAddr rfl Tryd.underlying25 inf3 rfl rfl rfl rfl) ?_
 refine o_q _ rfl rfl rfl (v_ld1 rfl Tryd.underlying3 rfl rfl rfl) ?_
 refine o_q _ rfl rfl rfl (v_true (OpQ.fn (within_v _ _ _) rfl rfl SubRC.sub) (by omega)) ?_
 all_goals
  refine o_q _ rfl rfl rfl (v_move rfl rfl) ?_
  refine o_g _ rfl rfl rfl rfl (v_fieldAddr rfl Tryd.underlying25 inf22 rfl rfl rfl rfl) ?_
  refine o_g _ rfl rfl rfl rfl (v_ld1 rfl Tryd.underlying22 rfl rfl rfl) ?_
  refine o_g _ rfl rfl rfl rfl (v_len rfl rfl Tryd.underlying22 rfl) ?_
  refine o_g _ rfl rfl rfl rfl (v_true (v_leq rfl rfl rfl) (by omega)) ?_
  all_goals
   refine o_q _ rfl rfl rfl (v_pick_t rfl rfl rfl) ?_
   refine o_q _ rfl rfl rfl (v_move rfl rfl) ?_
   refine o_g _ rfl rfl rfl rfl (v_fieldAddr rfl Tryd.underlying25 inf23 rfl rfl rfl rfl) ?_
   refine o_g _ rfl rfl rfl rfl (v_ld1 rfl Tryd.underlying23 rfl rfl rfl) ?_
   refine o_g _ rfl rfl rfl rfl (v_len rfl rfl Tryd.underlying23 rfl) ?_
   refine o_g _ rfl rfl rfl rfl (v_true (v_leq rfl rfl rfl) (by omega)) ?_
   all_goals
    refine o_q _ rfl rfl rfl (v_pick_t rfl rfl rfl) ?_
    refine o_q _ rfl rfl rfl (OpQ.fn (ask_t _) rfl rfl SubRC.sub) ?_
    try (first | exact r_retx SelMC.sel SubRC.sub | (exfalso; first | omega | (have hok2 := hok (by omega); first | omega | exact absurd hok2.2.2.1 (by assumption) | exact absurd hok2.2.2 (by assumption))))
    all_goals
     refine o_nil ?_
     with_reducible refine r_then ?_
     refine r_seq ?_
     refine r_seq ?_
     refine r_region ?_
     refine o_q _ rfl rfl rfl (v_fieldAddr rfl Tryd.underlying25 inf22 rfl rfl rfl rfl) ?_
     refine o_q _ rfl rfl rfl (v_ld1 rfl Tryd.underlying22 rfl rfl rfl) ?_
     refine o_q _ rfl rfl rfl (v_len rfl rfl Tryd.underlying22 rfl) ?_
     refine o_q _ rfl rfl rfl (v_move rfl rfl) ?_
     refine o_nil ?_
     with_reducible refine r_then ?_
     refine r_block ?_
     refine r_loop (ι := Nat) (fun k => k ≤ D.dues.length ∧ (1 ≤ D.people ∧ D.people ≤ 4) ∧ D.dues.length ≤ 6 ∧ D.paid.length ≤ 6 ∧ ∀ j, j < k → DueOk D (D.dues.getD j default)) (fun k => [(1, .bool false), (2, pt b2 0), (26, .slice uo D.dues.length uc), (27, i64 D.dues.length), (28, i64 k)]) (fun k => bx b2 25 (cellsD D uo po uc pc) :: M) (fun k => [rowD uo 5 encD D.dues, rowD po 4 encP D.paid] ++ Rf) (fun k => D.dues.length - k) 0 ?_ ?_ ?_
     ·
      exact r_here (by repeat (first | exact FSub.nil | refine FSub.cons rfl ?_)) SelMC.sel SubRC.sub
     ·
      exact ⟨Nat.zero_le _, by omega, by omega, by omega, fun j hj => absurd hj (by omega)⟩
     ·
      rintro k hI0
      have hwr : IntKind.i64.wrap (D.people - 1) = D.people - 1 := IntWalk.i64_in _ (by omega)
      have hok := hg.dues k
      unfold DueOk at hok
      refine r_seq ?_
      refine r_region ?_
      refine o_q _ rfl rfl rfl (v_lss rfl rfl rfl) ?_
      refine o_nil ?_
      with_reducible refine r_then ?_
      refine r_seq ?_
      refine r_condd rfl (fun hc29 => ?_) (fun hc29 => ?_)
      ·
       refine r_skip ?_
       with_reducible refine r_then ?_
       refine r_seq ?_
       refine r_block ?_
       refine r_seq ?_
       refine r_region ?_
       refine o_q _ rfl rfl rfl (v_indexAddrSn rfl Tryd.underlying22 inf62 rfl rfl rfl (by omega) rfl) ?_
       refine o_q _ rfl rfl rfl (v_loadEN (us := encD (D.dues.getD k default)) rfl Tryd.underlying62 rfl inf62 rfl (by omega) rfl rfl rfl) ?_
       refine o_alloc rfl inf62 rfl rfl rfl rfl rfl (fun b6 => ?_)
       refine o_st rfl inf62 rfl rfl rfl rfl rfl rfl rfl rfl ?_
       refine o_nil ?_
       with_reducible refine r_then ?_
       refine Imp.box_to b6 (encD (D.dues.getD k default)) rfl ?_
       refine r_region ?_
       refine o_q _ rfl rfl rfl (v_ldW rfl Tryd.underlying25 rfl inf25 rfl rfl) ?_
       refine o_q _ rfl rfl rfl (v_fieldAddr rfl Tryd.underlying62 inf3 rfl rfl rfl rfl) ?_
       refine o_q _ rfl rfl rfl (v_ld1 rfl Tryd.underlying3 rfl rfl rfl) ?_
       refine o_q _ rfl rfl rfl (v_true (OpQ.fn (isWho_v D uo po uc pc (D.dues.getD k default).who) rfl rfl SubRC.sub) (by omega)) ?_
       all_goals
        refine o_q _ rfl rfl rfl (v_move rfl rfl) ?_
        refine o_g _ rfl rfl rfl rfl (v_fieldAddr rfl Tryd.underlying62 inf3 rfl rfl rfl rfl) ?_
        refine o_g _ rfl rfl rfl rfl (v_ld1 rfl Tryd.underlying3 rfl rfl rfl) ?_
        refine o_g _ rfl rfl rfl rfl (v_true (OpQ.fn (isDay_v _) rfl rfl SubRC.sub) (by omega)) ?_
        all_goals
         refine o_q _ rfl rfl rfl (v_pick_t rfl rfl rfl) ?_
         refine o_q _ rfl rfl rfl (v_move rfl rfl) ?_
         refine o_g _ rfl rfl rfl rfl (v_fieldAddr rfl Tryd.underlying62 inf29 rfl rfl rfl rfl) ?_
         refine o_g _ rfl rfl rfl rfl (v_ldN rfl Tryd.underlying29 rfl inf29 rfl rfl rfl) ?_
         refine o_gtest rfl rfl rfl rfl (OpQ.fn (isSods_v (D.dues.getD k default).sods.lo (D.dues.getD k default).sods.hi) rfl rfl SubRC.sub) (fun h44 => ?_) (fun h44 => ?_)
         all_goals
          refine o_q _ rfl rfl rfl (v_pick_t rfl rfl rfl) ?_
          refine o_q _ rfl rfl rfl (v_move rfl rfl) ?_
          first | refine o_gn rfl rfl rfl rfl ?_ | refine o_g _ rfl rfl rfl rfl (v_fieldAddr rfl Tryd.underlying62 inf3 rfl rfl rfl rfl) ?_
          first | refine o_gn rfl rfl rfl rfl ?_ | refine o_g _ rfl rfl rfl rfl (v_ld1 rfl Tryd.underlying3 rfl rfl rfl) ?_
          first | refine o_gn rfl rfl rfl rfl ?_ | refine o_g _ rfl rfl rfl rfl (v_true (OpQ.fn (within_v _ _ _) rfl rfl SubRC.sub) (by omega)) ?_
          all_goals
           first | refine o_q _ rfl rfl rfl (v_pick_t rfl rfl rfl) ?_ | refine o_q _ rfl rfl rfl (v_pick_f rfl rfl rfl) ?_
           first | refine o_q _ rfl rfl rfl (OpQ.fn (ask_t _) rfl rfl SubRC.sub) ?_ | refine o_fnx (ask_f _) rfl rfl rfl SubRC.sub ?_
           repeat (first | with_reducible refine r_then_panic ?_ | with_reducible refine r_in_panic ?_)
           try (first | exact r_retx SelMC.sel SubRC.sub | (exfalso; first | omega | (have hok2 := hok (by omega); first | omega | exact absurd hok2.2.2.1 (by assumption) | exact absurd hok2.2.2 (by assumption))))
           all_goals
            refine o_nil ?_
            with_reducible refine r_in_normal ?_; refine r_then ?_
            refine r_region ?_
            refine o_q _ rfl rfl rfl (v_add rfl rfl rfl (by omega)) ?_
            refine o_q _ rfl rfl rfl (v_move rfl rfl) ?_
            refine o_nil ?_
            with_reducible refine r_then ?_
            refine r_next (k + 1) ?_ ?_ ?_
            ·
             exact r_here (by repeat (first | exact FSub.nil | refine FSub.cons rfl ?_)) SelMC.sel SubRC.sub
            ·
             exact ⟨by omega, by omega, by omega, by omega, all_step hI0.2.2.2.2 (by unfold DueOk; refine ⟨by omega, by omega, by assumption, by omega⟩)⟩
            ·
             omega
      ·
       refine r_exit ?_
       with_reducible refine r_then_exit ?_; refine r_then_exit ?_; refine r_in_here ?_; refine r_then ?_
       refine r_seq ?_
       refine r_seq ?_
       refine r_region ?_
       refine o_q _ rfl rfl rfl (v_fieldAddr rfl Tryd.underlying25 inf23 rfl rfl rfl rfl) ?_
       refine o_q _ rfl rfl rfl (v_ld1 rfl Tryd.underlying23 rfl rfl rfl) ?_
       refine o_q _ rfl rfl rfl (v_len rfl rfl Tryd.underlying23 rfl) ?_
       refine o_q _ rfl rfl rfl (v_move rfl rfl) ?_
       refine o_nil ?_
       with_reducible refine r_then ?_
       refine r_block ?_
       refine r_loop (ι := Nat) (fun k => k ≤ D.paid.length ∧ (1 ≤ D.people ∧ D.people ≤ 4) ∧ D.dues.length ≤ 6 ∧ D.paid.length ≤ 6 ∧ (∀ j, j < D.dues.length → DueOk D (D.dues.getD j default)) ∧ ∀ j, j < k → PaidOk D (D.paid.getD j default)) (fun k => [(1, .bool false), (2, pt b2 0), (54, .slice po D.paid.length pc), (55, i64 D.paid.length), (56, i64 k)]) (fun k => bx b2 25 (cellsD D uo po uc pc) :: M) (fun k => [rowD uo 5 encD D.dues, rowD po 4 encP D.paid] ++ Rf) (fun k => D.paid.length - k) 0 ?_ ?_ ?_
       ·
        exact r_here (by repeat (first | exact FSub.nil | refine FSub.cons rfl ?_)) SelMC.sel SubRC.sub
       ·
        exact ⟨Nat.zero_le _, by omega, by omega, by omega, (by have hk : k = D.dues.length := (by omega); rw [← hk]; exact hI0.2.2.2.2), fun j hj => absurd hj (by omega)⟩
       ·
        rintro k hI1
        have hwr : IntKind.i64.wrap (D.people - 1) = D.people - 1 := IntWalk.i64_in _ (by omega)
        have hok := hg.paid k
        unfold PaidOk at hok
        refine r_seq ?_
        refine r_region ?_
        refine o_q _ rfl rfl rfl (v_lss rfl rfl rfl) ?_
        refine o_nil ?_
        with_reducible refine r_then ?_
        refine r_seq ?_
        refine r_condd rfl (fun hc57 => ?_) (fun hc57 => ?_)
        ·
         refine r_skip ?_
         with_reducible refine r_then ?_
         refine r_seq ?_
         refine r_block ?_
         refine r_seq ?_
         refine r_region ?_
         refine o_q _ rfl rfl rfl (v_indexAddrSn rfl Tryd.underlying23 inf54 rfl rfl rfl (by omega) rfl) ?_
         refine o_q _ rfl rfl rfl (v_loadEN (us := encP (D.paid.getD k default)) rfl Tryd.underlying54 rfl inf54 rfl (by omega) rfl rfl rfl) ?_
         refine o_alloc rfl inf54 rfl rfl rfl rfl rfl (fun b8 => ?_)
         refine o_st rfl inf54 rfl rfl rfl rfl rfl rfl rfl rfl ?_
         refine o_nil ?_
         with_reducible refine r_then ?_
         refine Imp.box_to b8 (encP (D.paid.getD k default)) rfl ?_
         refine r_region ?_
         refine o_q _ rfl rfl rfl (v_ldW rfl Tryd.underlying25 rfl inf25 rfl rfl) ?_
         refine o_q _ rfl rfl rfl (v_fieldAddr rfl Tryd.underlying54 inf3 rfl rfl rfl rfl) ?_
         refine o_q _ rfl rfl rfl (v_ld1 rfl Tryd.underlying3 rfl rfl rfl) ?_
         refine o_q _ rfl rfl rfl (v_true (OpQ.fn (isWho_v D uo po uc pc (D.paid.getD k default).who) rfl rfl SubRC.sub) (by omega)) ?_
         all_goals
          refine o_q _ rfl rfl rfl (v_move rfl rfl) ?_
          refine o_g _ rfl rfl rfl rfl (v_fieldAddr rfl Tryd.underlying54 inf3 rfl rfl rfl rfl) ?_
          refine o_g _ rfl rfl rfl rfl (v_ld1 rfl Tryd.underlying3 rfl rfl rfl) ?_
          refine o_g _ rfl rfl rfl rfl (v_true (OpQ.fn (isDay_v _) rfl rfl SubRC.sub) (by omega)) ?_
          all_goals
           refine o_q _ rfl rfl rfl (v_pick_t rfl rfl rfl) ?_
           refine o_q _ rfl rfl rfl (v_move rfl rfl) ?_
           refine o_g _ rfl rfl rfl rfl (v_fieldAddr rfl Tryd.underlying54 inf29 rfl rfl rfl rfl) ?_
           refine o_g _ rfl rfl rfl rfl (v_ldN rfl Tryd.underlying29 rfl inf29 rfl rfl rfl) ?_
           refine o_gtest rfl rfl rfl rfl (OpQ.fn (isSods_v (D.paid.getD k default).sods.lo (D.paid.getD k default).sods.hi) rfl rfl SubRC.sub) (fun h72 => ?_) (fun h72 => ?_)
           all_goals
            refine o_q _ rfl rfl rfl (v_pick_t rfl rfl rfl) ?_
            first | refine o_q _ rfl rfl rfl (OpQ.fn (ask_t _) rfl rfl SubRC.sub) ?_ | refine o_fnx (ask_f _) rfl rfl rfl SubRC.sub ?_
            repeat (first | with_reducible refine r_then_panic ?_ | with_reducible refine r_in_panic ?_)
            try (first | exact r_retx SelMC.sel SubRC.sub | (exfalso; first | omega | (have hok2 := hok (by omega); first | omega | exact absurd hok2.2.2.1 (by assumption) | exact absurd hok2.2.2 (by assumption))))
            all_goals
             refine o_nil ?_
             with_reducible refine r_in_normal ?_; refine r_then ?_
             refine r_region ?_
             refine o_q _ rfl rfl rfl (v_add rfl rfl rfl (by omega)) ?_
             refine o_q _ rfl rfl rfl (v_move rfl rfl) ?_
             refine o_nil ?_
             with_reducible refine r_then ?_
             refine r_next (k + 1) ?_ ?_ ?_
             ·
              exact r_here (by repeat (first | exact FSub.nil | refine FSub.cons rfl ?_)) SelMC.sel SubRC.sub
             ·
              exact ⟨by omega, by omega, by omega, by omega, hI1.2.2.2.2.1, all_step hI1.2.2.2.2.2 (by unfold PaidOk; refine ⟨by omega, by omega, by assumption⟩)⟩
             ·
              omega
        ·
         refine r_exit ?_
         with_reducible refine r_then_exit ?_; refine r_then_exit ?_; refine r_in_here ?_; refine r_then ?_
         refine r_seq ?_
         refine r_region ?_
         refine o_q _ rfl rfl rfl (v_move rfl rfl) ?_
         refine o_fnx (ask_f _) rfl rfl rfl SubRC.sub ?_
         with_reducible refine r_then_panic ?_
         try (first | exact r_retx SelMC.sel SubRC.sub | (exfalso; first | omega | (have hok2 := hok (by omega); first | omega | exact absurd hok2.2.2.1 (by assumption) | exact absurd hok2.2.2 (by assumption))))
         all_goals
          refine o_nil ?_
          repeat (first | with_reducible refine r_then ?_ | with_reducible refine r_in_normal ?_ | with_reducible refine r_sc_normal ?_)
          refine r_seq ?_
          skip
set_option maxHeartbeats 4000000 in
theorem look_x1t (hl1 : D.dues.length ≤ 40) (hl2 : D.paid.length ≤ 40) (hng : ¬ GoodD D) : FnX Tryd.prog 44 [valD D uo po uc pc, .bool true] [rowD uo 5 encD D.dues, rowD po 4 encP D.paid] (.iface 103 (i64 1)) := by
 refine FnX.intro Tryd.call44 Tryd.func44 rfl Tryd.ntmps44 rfl ?_
 intro W M Rf
 refine r_seq ?_
 refine r_region ?_
 refine o_boxA rfl rfl rfl rfl rfl (fun b2 => ?_)
 refine o_q _ rfl rfl rfl (v_assign rfl rfl) ?_
 refine o_nil ?_
 with_reducible refine r_then ?_
 refine r_seq ?_
 refine r_region ?_
 refine o_q _ rfl rfl rfl (v_fieldAddr rfl Tryd.underlying25 inf3 rfl rfl rfl rfl) ?_
 refine o_q _ rfl rfl rfl (v_ld1 rfl Tryd.underlying3 rfl rfl rfl) ?_
 refine o_test rfl rfl rfl (OpQ.fn (within_v _ _ _) rfl rfl SubRC.sub) (fun h11 => ?_) (fun h11 => ?_)
 all_goals
  refine o_q _ rfl rfl rfl (v_move rfl rfl) ?_
  first | refine o_gn rfl rfl rfl rfl ?_ | refine o_g _ rfl rfl rfl rfl (v_fieldAddr rfl Tryd.underlying25 inf22 rfl rfl rfl rfl) ?_
  first | refine o_gn rfl rfl rfl rfl ?_ | refine o_g _ rfl rfl rfl rfl (v_ld1 rfl Tryd.underlying22 rfl rfl rfl) ?_
  first | refine o_gn rfl rfl rfl rfl ?_ | refine o_g _ rfl rfl rfl rfl (v_len rfl rfl Tryd.underlying22 rfl) ?_
  first | refine o_gn rfl rfl rfl rfl ?_ | refine o_gtest rfl rfl rfl rfl (v_leq rfl rfl rfl) (fun h16 => ?_) (fun h16 => ?_)
  all_goals
   first | refine o_q _ rfl rfl rfl (v_pick_t rfl rfl rfl) ?_ | refine o_q _ rfl rfl rfl (v_pick_f rfl rfl rfl) ?_
   refine o_q _ rfl rfl rfl (v_move rfl rfl) ?_
   first | refine o_gn rfl rfl rfl rfl ?_ | refine o_g _ rfl rfl rfl rfl (v_fieldAddr rfl Tryd.underlying25 inf23 rfl rfl rfl rfl) ?_
   first | refine o_gn rfl rfl rfl rfl ?_ | refine o_g _ rfl rfl rfl rfl (v_ld1 rfl Tryd.underlying23 rfl rfl rfl) ?_
   first | refine o_gn rfl rfl rfl rfl ?_ | refine o_g _ rfl rfl rfl rfl (v_len rfl rfl Tryd.underlying23 rfl) ?_
   first | refine o_gn rfl rfl rfl rfl ?_ | refine o_gtest rfl rfl rfl rfl (v_leq rfl rfl rfl) (fun h22 => ?_) (fun h22 => ?_)
   all_goals
    first | refine o_q _ rfl rfl rfl (v_pick_t rfl rfl rfl) ?_ | refine o_q _ rfl rfl rfl (v_pick_f rfl rfl rfl) ?_
    first | refine o_q _ rfl rfl rfl (OpQ.fn (ask_t _) rfl rfl SubRC.sub) ?_ | refine o_fnx (ask_f _) rfl rfl rfl SubRC.sub ?_
    repeat (first | with_reducible refine r_then_panic ?_)
    try (exact r_retx SelMC.sel SubRC.sub)
    all_goals
     refine o_nil ?_
     with_reducible refine r_then ?_
     refine r_seq ?_
     refine r_seq ?_
     refine r_region ?_
     refine o_q _ rfl rfl rfl (v_fieldAddr rfl Tryd.underlying25 inf22 rfl rfl rfl rfl) ?_
     refine o_q _ rfl rfl rfl (v_ld1 rfl Tryd.underlying22 rfl rfl rfl) ?_
     refine o_q _ rfl rfl rfl (v_len rfl rfl Tryd.underlying22 rfl) ?_
     refine o_q _ rfl rfl rfl (v_move rfl rfl) ?_
     refine o_nil ?_
     with_reducible refine r_then ?_
     refine r_block ?_
     refine r_loop (ι := Nat) (fun k => k ≤ D.dues.length ∧ (1 ≤ D.people ∧ D.people ≤ 4) ∧ D.dues.length ≤ 6 ∧ D.paid.length ≤ 6 ∧ ∀ j, j < k → DueOk D (D.dues.getD j default)) (fun k => [(1, .bool true), (2, pt b2 0), (26, .slice uo D.dues.length uc), (27, i64 D.dues.length), (28, i64 k)]) (fun k => bx b2 25 (cellsD D uo po uc pc) :: M) (fun k => [rowD uo 5 encD D.dues, rowD po 4 encP D.paid] ++ Rf) (fun k => D.dues.length - k) 0 ?_ ?_ ?_
     ·
      exact r_here (by repeat (first | exact FSub.nil | refine FSub.cons rfl ?_)) SelMC.sel SubRC.sub
     ·
      exact ⟨Nat.zero_le _, by omega, by omega, by omega, fun j hj => absurd hj (by omega)⟩
     ·
      rintro k hI0
      have hwr : IntKind.i64.wrap (D.people - 1) = D.people - 1 := IntWalk.i64_in _ (by omega)
      refine r_seq ?_
      refine r_region ?_
      refine o_q _ rfl rfl rfl (v_lss rfl rfl rfl) ?_
      refine o_nil ?_
      with_reducible refine r_then ?_
      refine r_seq ?_
      refine r_condd rfl (fun hc29 => ?_) (fun hc29 => ?_)
      ·
       refine r_skip ?_
       with_reducible refine r_then ?_
       refine r_seq ?_
       refine r_block ?_
       refine r_seq ?_
       refine r_region ?_
       refine o_q _ rfl rfl rfl (v_indexAddrSn rfl Tryd.underlying22 inf62 rfl rfl rfl (by omega) rfl) ?_
       refine o_q _ rfl rfl rfl (v_loadEN (us := encD (D.dues.getD k default)) rfl Tryd.underlying62 rfl inf62 rfl (by omega) rfl rfl rfl) ?_
       refine o_alloc rfl inf62 rfl rfl rfl rfl rfl (fun b6 => ?_)
       refine o_st rfl inf62 rfl rfl rfl rfl rfl rfl rfl rfl ?_
       refine o_nil ?_
       with_reducible refine r_then ?_
       refine Imp.box_to b6 (encD (D.dues.getD k default)) rfl ?_
       refine r_region ?_
       refine o_q _ rfl rfl rfl (v_ldW rfl Tryd.underlying25 rfl inf25 rfl rfl) ?_
       refine o_q _ rfl rfl rfl (v_fieldAddr rfl Tryd.underlying62 inf3 rfl rfl rfl rfl) ?_
       refine o_q _ rfl rfl rfl (v_ld1 rfl Tryd.underlying3 rfl rfl rfl) ?_
       refine o_test rfl rfl rfl (OpQ.fn (isWho_v D uo po uc pc (D.dues.getD k default).who) rfl rfl SubRC.sub) (fun h35 => ?_) (fun h35 => ?_)
       all_goals
        refine o_q _ rfl rfl rfl (v_move rfl rfl) ?_
        first | refine o_gn rfl rfl rfl rfl ?_ | refine o_g _ rfl rfl rfl rfl (v_fieldAddr rfl Tryd.underlying62 inf3 rfl rfl rfl rfl) ?_
        first | refine o_gn rfl rfl rfl rfl ?_ | refine o_g _ rfl rfl rfl rfl (v_ld1 rfl Tryd.underlying3 rfl rfl rfl) ?_
        first | refine o_gn rfl rfl rfl rfl ?_ | refine o_gtest rfl rfl rfl rfl (OpQ.fn (isDay_v _) rfl rfl SubRC.sub) (fun h39 => ?_) (fun h39 => ?_)
        all_goals
         first | refine o_q _ rfl rfl rfl (v_pick_t rfl rfl rfl) ?_ | refine o_q _ rfl rfl rfl (v_pick_f rfl rfl rfl) ?_
         refine o_q _ rfl rfl rfl (v_move rfl rfl) ?_
         first | refine o_gn rfl rfl rfl rfl ?_ | refine o_g _ rfl rfl rfl rfl (v_fieldAddr rfl Tryd.underlying62 inf29 rfl rfl rfl rfl) ?_
         first | refine o_gn rfl rfl rfl rfl ?_ | refine o_g _ rfl rfl rfl rfl (v_ldN rfl Tryd.underlying29 rfl inf29 rfl rfl rfl) ?_
         first | refine o_gn rfl rfl rfl rfl ?_ | refine o_gtest rfl rfl rfl rfl (OpQ.fn (isSods_v (D.dues.getD k default).sods.lo (D.dues.getD k default).sods.hi) rfl rfl SubRC.sub) (fun h44 => ?_) (fun h44 => ?_)
         all_goals
          first | refine o_q _ rfl rfl rfl (v_pick_t rfl rfl rfl) ?_ | refine o_q _ rfl rfl rfl (v_pick_f rfl rfl rfl) ?_
          refine o_q _ rfl rfl rfl (v_move rfl rfl) ?_
          first | refine o_gn rfl rfl rfl rfl ?_ | refine o_g _ rfl rfl rfl rfl (v_fieldAddr rfl Tryd.underlying62 inf3 rfl rfl rfl rfl) ?_
          first | refine o_gn rfl rfl rfl rfl ?_ | refine o_g _ rfl rfl rfl rfl (v_ld1 rfl Tryd.underlying3 rfl rfl rfl) ?_
          first | refine o_gn rfl rfl rfl rfl ?_ | refine o_gtest rfl rfl rfl rfl (OpQ.fn (within_v _ _ _) rfl rfl SubRC.sub) (fun h49 => ?_) (fun h49 => ?_)
          all_goals
           first | refine o_q _ rfl rfl rfl (v_pick_t rfl rfl rfl) ?_ | refine o_q _ rfl rfl rfl (v_pick_f rfl rfl rfl) ?_
           first | refine o_q _ rfl rfl rfl (OpQ.fn (ask_t _) rfl rfl SubRC.sub) ?_ | refine o_fnx (ask_f _) rfl rfl rfl SubRC.sub ?_
           repeat (first | with_reducible refine r_then_panic ?_ | with_reducible refine r_in_panic ?_)
           try (exact r_retx SelMC.sel SubRC.sub)
           all_goals
            refine o_nil ?_
            with_reducible refine r_in_normal ?_; refine r_then ?_
            refine r_region ?_
            refine o_q _ rfl rfl rfl (v_add rfl rfl rfl (by omega)) ?_
            refine o_q _ rfl rfl rfl (v_move rfl rfl) ?_
            refine o_nil ?_
            with_reducible refine r_then ?_
            refine r_next (k + 1) ?_ ?_ ?_
            ·
             exact r_here (by repeat (first | exact FSub.nil | refine FSub.cons rfl ?_)) SelMC.sel SubRC.sub
            ·
             exact ⟨by omega, by omega, by omega, by omega, all_step hI0.2.2.2.2 (by unfold DueOk; refine ⟨by omega, by omega, by assumption, by omega⟩)⟩
            ·
             omega
      ·
       refine r_exit ?_
       with_reducible refine r_then_exit ?_; refine r_then_exit ?_; refine r_in_here ?_; refine r_then ?_
       refine r_seq ?_
       refine r_seq ?_
       refine r_region ?_
       refine o_q _ rfl rfl rfl (v_fieldAddr rfl Tryd.underlying25 inf23 rfl rfl rfl rfl) ?_
       refine o_q _ rfl rfl rfl (v_ld1 rfl Tryd.underlying23 rfl rfl rfl) ?_
       refine o_q _ rfl rfl rfl (v_len rfl rfl Tryd.underlying23 rfl) ?_
       refine o_q _ rfl rfl rfl (v_move rfl rfl) ?_
       refine o_nil ?_
       with_reducible refine r_then ?_
       refine r_block ?_
       refine r_loop (ι := Nat) (fun k => k ≤ D.paid.length ∧ (1 ≤ D.people ∧ D.people ≤ 4) ∧ D.dues.length ≤ 6 ∧ D.paid.length ≤ 6 ∧ (∀ j, j < D.dues.length → DueOk D (D.dues.getD j default)) ∧ ∀ j, j < k → PaidOk D (D.paid.getD j default)) (fun k => [(1, .bool true), (2, pt b2 0), (54, .slice po D.paid.length pc), (55, i64 D.paid.length), (56, i64 k)]) (fun k => bx b2 25 (cellsD D uo po uc pc) :: M) (fun k => [rowD uo 5 encD D.dues, rowD po 4 encP D.paid] ++ Rf) (fun k => D.paid.length - k) 0 ?_ ?_ ?_
       ·
        exact r_here (by repeat (first | exact FSub.nil | refine FSub.cons rfl ?_)) SelMC.sel SubRC.sub
       ·
        exact ⟨Nat.zero_le _, by omega, by omega, by omega, (by have hk : k = D.dues.length := (by omega); rw [← hk]; exact hI0.2.2.2.2), fun j hj => absurd hj (by omega)⟩
       ·
        rintro k hI1
        have hwr : IntKind.i64.wrap (D.people - 1) = D.people - 1 := IntWalk.i64_in _ (by omega)
        refine r_seq ?_
        refine r_region ?_
        refine o_q _ rfl rfl rfl (v_lss rfl rfl rfl) ?_
        refine o_nil ?_
        with_reducible refine r_then ?_
        refine r_seq ?_
        refine r_condd rfl (fun hc57 => ?_) (fun hc57 => ?_)
        ·
         refine r_skip ?_
         with_reducible refine r_then ?_
         refine r_seq ?_
         refine r_block ?_
         refine r_seq ?_
         refine r_region ?_
         refine o_q _ rfl rfl rfl (v_indexAddrSn rfl Tryd.underlying23 inf54 rfl rfl rfl (by omega) rfl) ?_
         refine o_q _ rfl rfl rfl (v_loadEN (us := encP (D.paid.getD k default)) rfl Tryd.underlying54 rfl inf54 rfl (by omega) rfl rfl rfl) ?_
         refine o_alloc rfl inf54 rfl rfl rfl rfl rfl (fun b8 => ?_)
         refine o_st rfl inf54 rfl rfl rfl rfl rfl rfl rfl rfl ?_
         refine o_nil ?_
         with_reducible refine r_then ?_
         refine Imp.box_to b8 (encP (D.paid.getD k default)) rfl ?_
         refine r_region ?_
         refine o_q _ rfl rfl rfl (v_ldW rfl Tryd.underlying25 rfl inf25 rfl rfl) ?_
         refine o_q _ rfl rfl rfl (v_fieldAddr rfl Tryd.underlying54 inf3 rfl rfl rfl rfl) ?_
         refine o_q _ rfl rfl rfl (v_ld1 rfl Tryd.underlying3 rfl rfl rfl) ?_
         refine o_test rfl rfl rfl (OpQ.fn (isWho_v D uo po uc pc (D.paid.getD k default).who) rfl rfl SubRC.sub) (fun h63 => ?_) (fun h63 => ?_)
         all_goals
          refine o_q _ rfl rfl rfl (v_move rfl rfl) ?_
          first | refine o_gn rfl rfl rfl rfl ?_ | refine o_g _ rfl rfl rfl rfl (v_fieldAddr rfl Tryd.underlying54 inf3 rfl rfl rfl rfl) ?_
          first | refine o_gn rfl rfl rfl rfl ?_ | refine o_g _ rfl rfl rfl rfl (v_ld1 rfl Tryd.underlying3 rfl rfl rfl) ?_
          first | refine o_gn rfl rfl rfl rfl ?_ | refine o_gtest rfl rfl rfl rfl (OpQ.fn (isDay_v _) rfl rfl SubRC.sub) (fun h67 => ?_) (fun h67 => ?_)
          all_goals
           first | refine o_q _ rfl rfl rfl (v_pick_t rfl rfl rfl) ?_ | refine o_q _ rfl rfl rfl (v_pick_f rfl rfl rfl) ?_
           refine o_q _ rfl rfl rfl (v_move rfl rfl) ?_
           first | refine o_gn rfl rfl rfl rfl ?_ | refine o_g _ rfl rfl rfl rfl (v_fieldAddr rfl Tryd.underlying54 inf29 rfl rfl rfl rfl) ?_
           first | refine o_gn rfl rfl rfl rfl ?_ | refine o_g _ rfl rfl rfl rfl (v_ldN rfl Tryd.underlying29 rfl inf29 rfl rfl rfl) ?_
           first | refine o_gn rfl rfl rfl rfl ?_ | refine o_gtest rfl rfl rfl rfl (OpQ.fn (isSods_v (D.paid.getD k default).sods.lo (D.paid.getD k default).sods.hi) rfl rfl SubRC.sub) (fun h72 => ?_) (fun h72 => ?_)
           all_goals
            first | refine o_q _ rfl rfl rfl (v_pick_t rfl rfl rfl) ?_ | refine o_q _ rfl rfl rfl (v_pick_f rfl rfl rfl) ?_
            first | refine o_q _ rfl rfl rfl (OpQ.fn (ask_t _) rfl rfl SubRC.sub) ?_ | refine o_fnx (ask_f _) rfl rfl rfl SubRC.sub ?_
            repeat (first | with_reducible refine r_then_panic ?_ | with_reducible refine r_in_panic ?_)
            try (exact r_retx SelMC.sel SubRC.sub)
            all_goals
             refine o_nil ?_
             with_reducible refine r_in_normal ?_; refine r_then ?_
             refine r_region ?_
             refine o_q _ rfl rfl rfl (v_add rfl rfl rfl (by omega)) ?_
             refine o_q _ rfl rfl rfl (v_move rfl rfl) ?_
             refine o_nil ?_
             with_reducible refine r_then ?_
             refine r_next (k + 1) ?_ ?_ ?_
             ·
              exact r_here (by repeat (first | exact FSub.nil | refine FSub.cons rfl ?_)) SelMC.sel SubRC.sub
             ·
              exact ⟨by omega, by omega, by omega, by omega, hI1.2.2.2.2.1, all_step hI1.2.2.2.2.2 (by unfold PaidOk; refine ⟨by omega, by omega, by assumption⟩)⟩
             ·
              omega
        ·
         refine r_exit ?_
         with_reducible refine r_then_exit ?_; refine r_then_exit ?_; refine r_in_here ?_; refine r_then ?_
         refine r_seq ?_
         exfalso
         obtain rfl : k = D.paid.length := by omega
         exact hng ⟨by omega, by omega, by omega, hI1.2.2.2.2.1, hI1.2.2.2.2.2⟩
set_option maxHeartbeats 4000000 in
theorem look_x1f (hl1 : D.dues.length ≤ 40) (hl2 : D.paid.length ≤ 40) (hng : ¬ GoodD D) : FnX Tryd.prog 44 [valD D uo po uc pc, .bool false] [rowD uo 5 encD D.dues, rowD po 4 encP D.paid] (.iface 103 (i64 1)) := by
 refine FnX.intro Tryd.call44 Tryd.func44 rfl Tryd.ntmps44 rfl ?_
 intro W M Rf
 refine r_seq ?_
 refine r_region ?_
 refine o_boxA rfl rfl rfl rfl rfl (fun b2 => ?_)
 refine o_q _ rfl rfl rfl (v_assign rfl rfl) ?_
 refine o_nil ?_
 with_reducible refine r_then ?_
 refine r_seq ?_
 refine r_region ?_
 refine o_q _ rfl rfl rfl (v_fieldAddr rfl Tryd.underlying25 inf3 rfl rfl rfl rfl) ?_
 refine o_q _ rfl rfl rfl (v_ld1 rfl Tryd.underlying3 rfl rfl rfl) ?_
 refine o_test rfl rfl rfl (OpQ.fn (within_v _ _ _) rfl rfl SubRC.sub) (fun h11 => ?_) (fun h11 => ?_)
 all_goals
  refine o_q _ rfl rfl rfl (v_move rfl rfl) ?_
  first | refine o_gn rfl rfl rfl rfl ?_ | refine o_g _ rfl rfl rfl rfl (v_fieldAddr rfl Tryd.underlying25 inf22 rfl rfl rfl rfl) ?_
  first | refine o_gn rfl rfl rfl rfl ?_ | refine o_g _ rfl rfl rfl rfl (v_ld1 rfl Tryd.underlying22 rfl rfl rfl) ?_
  first | refine o_gn rfl rfl rfl rfl ?_ | refine o_g _ rfl rfl rfl rfl (v_len rfl rfl Tryd.underlying22 rfl) ?_
  first | refine o_gn rfl rfl rfl rfl ?_ | refine o_gtest rfl rfl rfl rfl (v_leq rfl rfl rfl) (fun h16 => ?_) (fun h16 => ?_)
  all_goals
   first | refine o_q _ rfl rfl rfl (v_pick_t rfl rfl rfl) ?_ | refine o_q _ rfl rfl rfl (v_pick_f rfl rfl rfl) ?_
   refine o_q _ rfl rfl rfl (v_move rfl rfl) ?_
   first | refine o_gn rfl rfl rfl rfl ?_ | refine o_g _ rfl rfl rfl rfl (v_fieldAddr rfl Tryd.underlying25 inf23 rfl rfl rfl rfl) ?_
   first | refine o_gn rfl rfl rfl rfl ?_ | refine o_g _ rfl rfl rfl rfl (v_ld1 rfl Tryd.underlying23 rfl rfl rfl) ?_
   first | refine o_gn rfl rfl rfl rfl ?_ | refine o_g _ rfl rfl rfl rfl (v_len rfl rfl Tryd.underlying23 rfl) ?_
   first | refine o_gn rfl rfl rfl rfl ?_ | refine o_gtest rfl rfl rfl rfl (v_leq rfl rfl rfl) (fun h22 => ?_) (fun h22 => ?_)
   all_goals
    first | refine o_q _ rfl rfl rfl (v_pick_t rfl rfl rfl) ?_ | refine o_q _ rfl rfl rfl (v_pick_f rfl rfl rfl) ?_
    first | refine o_q _ rfl rfl rfl (OpQ.fn (ask_t _) rfl rfl SubRC.sub) ?_ | refine o_fnx (ask_f _) rfl rfl rfl SubRC.sub ?_
    repeat (first | with_reducible refine r_then_panic ?_)
    try (exact r_retx SelMC.sel SubRC.sub)
    all_goals
     refine o_nil ?_
     with_reducible refine r_then ?_
     refine r_seq ?_
     refine r_seq ?_
     refine r_region ?_
     refine o_q _ rfl rfl rfl (v_fieldAddr rfl Tryd.underlying25 inf22 rfl rfl rfl rfl) ?_
     refine o_q _ rfl rfl rfl (v_ld1 rfl Tryd.underlying22 rfl rfl rfl) ?_
     refine o_q _ rfl rfl rfl (v_len rfl rfl Tryd.underlying22 rfl) ?_
     refine o_q _ rfl rfl rfl (v_move rfl rfl) ?_
     refine o_nil ?_
     with_reducible refine r_then ?_
     refine r_block ?_
     refine r_loop (ι := Nat) (fun k => k ≤ D.dues.length ∧ (1 ≤ D.people ∧ D.people ≤ 4) ∧ D.dues.length ≤ 6 ∧ D.paid.length ≤ 6 ∧ ∀ j, j < k → DueOk D (D.dues.getD j default)) (fun k => [(1, .bool false), (2, pt b2 0), (26, .slice uo D.dues.length uc), (27, i64 D.dues.length), (28, i64 k)]) (fun k => bx b2 25 (cellsD D uo po uc pc) :: M) (fun k => [rowD uo 5 encD D.dues, rowD po 4 encP D.paid] ++ Rf) (fun k => D.dues.length - k) 0 ?_ ?_ ?_
     ·
      exact r_here (by repeat (first | exact FSub.nil | refine FSub.cons rfl ?_)) SelMC.sel SubRC.sub
     ·
      exact ⟨Nat.zero_le _, by omega, by omega, by omega, fun j hj => absurd hj (by omega)⟩
     ·
      rintro k hI0
      have hwr : IntKind.i64.wrap (D.people - 1) = D.people - 1 := IntWalk.i64_in _ (by omega)
      refine r_seq ?_
      refine r_region ?_
      refine o_q _ rfl rfl rfl (v_lss rfl rfl rfl) ?_
      refine o_nil ?_
      with_reducible refine r_then ?_
      refine r_seq ?_
      refine r_condd rfl (fun hc29 => ?_) (fun hc29 => ?_)
      ·
       refine r_skip ?_
       with_reducible refine r_then ?_
       refine r_seq ?_
       refine r_block ?_
       refine r_seq ?_
       refine r_region ?_
       refine o_q _ rfl rfl rfl (v_indexAddrSn rfl Tryd.underlying22 inf62 rfl rfl rfl (by omega) rfl) ?_
       refine o_q _ rfl rfl rfl (v_loadEN (us := encD (D.dues.getD k default)) rfl Tryd.underlying62 rfl inf62 rfl (by omega) rfl rfl rfl) ?_
       refine o_alloc rfl inf62 rfl rfl rfl rfl rfl (fun b6 => ?_)
       refine o_st rfl inf62 rfl rfl rfl rfl rfl rfl rfl rfl ?_
       refine o_nil ?_
       with_reducible refine r_then ?_
       refine Imp.box_to b6 (encD (D.dues.getD k default)) rfl ?_
       refine r_region ?_
       refine o_q _ rfl rfl rfl (v_ldW rfl Tryd.underlying25 rfl inf25 rfl rfl) ?_
       refine o_q _ rfl rfl rfl (v_fieldAddr rfl Tryd.underlying62 inf3 rfl rfl rfl rfl) ?_
       refine o_q _ rfl rfl rfl (v_ld1 rfl Tryd.underlying3 rfl rfl rfl) ?_
       refine o_test rfl rfl rfl (OpQ.fn (isWho_v D uo po uc pc (D.dues.getD k default).who) rfl rfl SubRC.sub) (fun h35 => ?_) (fun h35 => ?_)
       all_goals
        refine o_q _ rfl rfl rfl (v_move rfl rfl) ?_
        first | refine o_gn rfl rfl rfl rfl ?_ | refine o_g _ rfl rfl rfl rfl (v_fieldAddr rfl Tryd.underlying62 inf3 rfl rfl rfl rfl) ?_
        first | refine o_gn rfl rfl rfl rfl ?_ | refine o_g _ rfl rfl rfl rfl (v_ld1 rfl Tryd.underlying3 rfl rfl rfl) ?_
        first | refine o_gn rfl rfl rfl rfl ?_ | refine o_gtest rfl rfl rfl rfl (OpQ.fn (isDay_v _) rfl rfl SubRC.sub) (fun h39 => ?_) (fun h39 => ?_)
        all_goals
         first | refine o_q _ rfl rfl rfl (v_pick_t rfl rfl rfl) ?_ | refine o_q _ rfl rfl rfl (v_pick_f rfl rfl rfl) ?_
         refine o_q _ rfl rfl rfl (v_move rfl rfl) ?_
         first | refine o_gn rfl rfl rfl rfl ?_ | refine o_g _ rfl rfl rfl rfl (v_fieldAddr rfl Tryd.underlying62 inf29 rfl rfl rfl rfl) ?_
         first | refine o_gn rfl rfl rfl rfl ?_ | refine o_g _ rfl rfl rfl rfl (v_ldN rfl Tryd.underlying29 rfl inf29 rfl rfl rfl) ?_
         first | refine o_gn rfl rfl rfl rfl ?_ | refine o_gtest rfl rfl rfl rfl (OpQ.fn (isSods_v (D.dues.getD k default).sods.lo (D.dues.getD k default).sods.hi) rfl rfl SubRC.sub) (fun h44 => ?_) (fun h44 => ?_)
         all_goals
          first | refine o_q _ rfl rfl rfl (v_pick_t rfl rfl rfl) ?_ | refine o_q _ rfl rfl rfl (v_pick_f rfl rfl rfl) ?_
          refine o_q _ rfl rfl rfl (v_move rfl rfl) ?_
          first | refine o_gn rfl rfl rfl rfl ?_ | refine o_g _ rfl rfl rfl rfl (v_fieldAddr rfl Tryd.underlying62 inf3 rfl rfl rfl rfl) ?_
          first | refine o_gn rfl rfl rfl rfl ?_ | refine o_g _ rfl rfl rfl rfl (v_ld1 rfl Tryd.underlying3 rfl rfl rfl) ?_
          first | refine o_gn rfl rfl rfl rfl ?_ | refine o_gtest rfl rfl rfl rfl (OpQ.fn (within_v _ _ _) rfl rfl SubRC.sub) (fun h49 => ?_) (fun h49 => ?_)
          all_goals
           first | refine o_q _ rfl rfl rfl (v_pick_t rfl rfl rfl) ?_ | refine o_q _ rfl rfl rfl (v_pick_f rfl rfl rfl) ?_
           first | refine o_q _ rfl rfl rfl (OpQ.fn (ask_t _) rfl rfl SubRC.sub) ?_ | refine o_fnx (ask_f _) rfl rfl rfl SubRC.sub ?_
           repeat (first | with_reducible refine r_then_panic ?_ | with_reducible refine r_in_panic ?_)
           try (exact r_retx SelMC.sel SubRC.sub)
           all_goals
            refine o_nil ?_
            with_reducible refine r_in_normal ?_; refine r_then ?_
            refine r_region ?_
            refine o_q _ rfl rfl rfl (v_add rfl rfl rfl (by omega)) ?_
            refine o_q _ rfl rfl rfl (v_move rfl rfl) ?_
            refine o_nil ?_
            with_reducible refine r_then ?_
            refine r_next (k + 1) ?_ ?_ ?_
            ·
             exact r_here (by repeat (first | exact FSub.nil | refine FSub.cons rfl ?_)) SelMC.sel SubRC.sub
            ·
             exact ⟨by omega, by omega, by omega, by omega, all_step hI0.2.2.2.2 (by unfold DueOk; refine ⟨by omega, by omega, by assumption, by omega⟩)⟩
            ·
             omega
      ·
       refine r_exit ?_
       with_reducible refine r_then_exit ?_; refine r_then_exit ?_; refine r_in_here ?_; refine r_then ?_
       refine r_seq ?_
       refine r_seq ?_
       refine r_region ?_
       refine o_q _ rfl rfl rfl (v_fieldAddr rfl Tryd.underlying25 inf23 rfl rfl rfl rfl) ?_
       refine o_q _ rfl rfl rfl (v_ld1 rfl Tryd.underlying23 rfl rfl rfl) ?_
       refine o_q _ rfl rfl rfl (v_len rfl rfl Tryd.underlying23 rfl) ?_
       refine o_q _ rfl rfl rfl (v_move rfl rfl) ?_
       refine o_nil ?_
       with_reducible refine r_then ?_
       refine r_block ?_
       refine r_loop (ι := Nat) (fun k => k ≤ D.paid.length ∧ (1 ≤ D.people ∧ D.people ≤ 4) ∧ D.dues.length ≤ 6 ∧ D.paid.length ≤ 6 ∧ (∀ j, j < D.dues.length → DueOk D (D.dues.getD j default)) ∧ ∀ j, j < k → PaidOk D (D.paid.getD j default)) (fun k => [(1, .bool false), (2, pt b2 0), (54, .slice po D.paid.length pc), (55, i64 D.paid.length), (56, i64 k)]) (fun k => bx b2 25 (cellsD D uo po uc pc) :: M) (fun k => [rowD uo 5 encD D.dues, rowD po 4 encP D.paid] ++ Rf) (fun k => D.paid.length - k) 0 ?_ ?_ ?_
       ·
        exact r_here (by repeat (first | exact FSub.nil | refine FSub.cons rfl ?_)) SelMC.sel SubRC.sub
       ·
        exact ⟨Nat.zero_le _, by omega, by omega, by omega, (by have hk : k = D.dues.length := (by omega); rw [← hk]; exact hI0.2.2.2.2), fun j hj => absurd hj (by omega)⟩
       ·
        rintro k hI1
        have hwr : IntKind.i64.wrap (D.people - 1) = D.people - 1 := IntWalk.i64_in _ (by omega)
        refine r_seq ?_
        refine r_region ?_
        refine o_q _ rfl rfl rfl (v_lss rfl rfl rfl) ?_
        refine o_nil ?_
        with_reducible refine r_then ?_
        refine r_seq ?_
        refine r_condd rfl (fun hc57 => ?_) (fun hc57 => ?_)
        ·
         refine r_skip ?_
         with_reducible refine r_then ?_
         refine r_seq ?_
         refine r_block ?_
         refine r_seq ?_
         refine r_region ?_
         refine o_q _ rfl rfl rfl (v_indexAddrSn rfl Tryd.underlying23 inf54 rfl rfl rfl (by omega) rfl) ?_
         refine o_q _ rfl rfl rfl (v_loadEN (us := encP (D.paid.getD k default)) rfl Tryd.underlying54 rfl inf54 rfl (by omega) rfl rfl rfl) ?_
         refine o_alloc rfl inf54 rfl rfl rfl rfl rfl (fun b8 => ?_)
         refine o_st rfl inf54 rfl rfl rfl rfl rfl rfl rfl rfl ?_
         refine o_nil ?_
         with_reducible refine r_then ?_
         refine Imp.box_to b8 (encP (D.paid.getD k default)) rfl ?_
         refine r_region ?_
         refine o_q _ rfl rfl rfl (v_ldW rfl Tryd.underlying25 rfl inf25 rfl rfl) ?_
         refine o_q _ rfl rfl rfl (v_fieldAddr rfl Tryd.underlying54 inf3 rfl rfl rfl rfl) ?_
         refine o_q _ rfl rfl rfl (v_ld1 rfl Tryd.underlying3 rfl rfl rfl) ?_
         refine o_test rfl rfl rfl (OpQ.fn (isWho_v D uo po uc pc (D.paid.getD k default).who) rfl rfl SubRC.sub) (fun h63 => ?_) (fun h63 => ?_)
         all_goals
          refine o_q _ rfl rfl rfl (v_move rfl rfl) ?_
          first | refine o_gn rfl rfl rfl rfl ?_ | refine o_g _ rfl rfl rfl rfl (v_fieldAddr rfl Tryd.underlying54 inf3 rfl rfl rfl rfl) ?_
          first | refine o_gn rfl rfl rfl rfl ?_ | refine o_g _ rfl rfl rfl rfl (v_ld1 rfl Tryd.underlying3 rfl rfl rfl) ?_
          first | refine o_gn rfl rfl rfl rfl ?_ | refine o_gtest rfl rfl rfl rfl (OpQ.fn (isDay_v _) rfl rfl SubRC.sub) (fun h67 => ?_) (fun h67 => ?_)
          all_goals
           first | refine o_q _ rfl rfl rfl (v_pick_t rfl rfl rfl) ?_ | refine o_q _ rfl rfl rfl (v_pick_f rfl rfl rfl) ?_
           refine o_q _ rfl rfl rfl (v_move rfl rfl) ?_
           first | refine o_gn rfl rfl rfl rfl ?_ | refine o_g _ rfl rfl rfl rfl (v_fieldAddr rfl Tryd.underlying54 inf29 rfl rfl rfl rfl) ?_
           first | refine o_gn rfl rfl rfl rfl ?_ | refine o_g _ rfl rfl rfl rfl (v_ldN rfl Tryd.underlying29 rfl inf29 rfl rfl rfl) ?_
           first | refine o_gn rfl rfl rfl rfl ?_ | refine o_gtest rfl rfl rfl rfl (OpQ.fn (isSods_v (D.paid.getD k default).sods.lo (D.paid.getD k default).sods.hi) rfl rfl SubRC.sub) (fun h72 => ?_) (fun h72 => ?_)
           all_goals
            first | refine o_q _ rfl rfl rfl (v_pick_t rfl rfl rfl) ?_ | refine o_q _ rfl rfl rfl (v_pick_f rfl rfl rfl) ?_
            first | refine o_q _ rfl rfl rfl (OpQ.fn (ask_t _) rfl rfl SubRC.sub) ?_ | refine o_fnx (ask_f _) rfl rfl rfl SubRC.sub ?_
            repeat (first | with_reducible refine r_then_panic ?_ | with_reducible refine r_in_panic ?_)
            try (exact r_retx SelMC.sel SubRC.sub)
            all_goals
             refine o_nil ?_
             with_reducible refine r_in_normal ?_; refine r_then ?_
             refine r_region ?_
             refine o_q _ rfl rfl rfl (v_add rfl rfl rfl (by omega)) ?_
             refine o_q _ rfl rfl rfl (v_move rfl rfl) ?_
             refine o_nil ?_
             with_reducible refine r_then ?_
             refine r_next (k + 1) ?_ ?_ ?_
             ·
              exact r_here (by repeat (first | exact FSub.nil | refine FSub.cons rfl ?_)) SelMC.sel SubRC.sub
             ·
              exact ⟨by omega, by omega, by omega, by omega, hI1.2.2.2.2.1, all_step hI1.2.2.2.2.2 (by unfold PaidOk; refine ⟨by omega, by omega, by assumption⟩)⟩
             ·
              omega
        ·
         refine r_exit ?_
         with_reducible refine r_then_exit ?_; refine r_then_exit ?_; refine r_in_here ?_; refine r_then ?_
         refine r_seq ?_
         exfalso
         obtain rfl : k = D.paid.length := by omega
         exact hng ⟨by omega, by omega, by omega, hI1.2.2.2.2.1, hI1.2.2.2.2.2⟩
theorem look_x1 (v : Bool) (hl1 : D.dues.length ≤ 40) (hl2 : D.paid.length ≤ 40) (hng : ¬ GoodD D) : FnX Tryd.prog 44 [valD D uo po uc pc, .bool v] [rowD uo 5 encD D.dues, rowD po 4 encP D.paid] (.iface 103 (i64 1)) := by
  cases v
  · exact look_x1f D uo po uc pc hl1 hl2 hng
  · exact look_x1t D uo po uc pc hl1 hl2 hng
theorem Imp.ownZ_eq {α : Type} {enc : α → List Value} {sz : Nat} {T : TypeId} {xs : List α} {W : World} {n : Nat} {Df : List Deferred} {L : Tm} {M M' : List Res} {R : List Fact} {X : Act → World → Prop} (v v' : Value) [hd : HasOwnZ v M T sz enc xs M'] (e : v = v') (h : Imp W n Df L (ownZ v' T sz enc xs :: M') R X) : Imp W n Df L M R X := by
  subst e
  exact fun a w g1 g2 g3 => h a w g1 g2 (g3.perm hd.del.perm)
set_option maxHeartbeats 4000000 in
theorem day_s (who : Int) (e kd : Nat) (g : Bool) (d : Nat) (l : List Opn) (oa : Option Addr) (c : Nat) (A : Int) (hg : GoodD D) (he : e < 2) (hd : d ≤ 31) (hll : (l ++ newF D (amD D e) who d).length ≤ 6) (hs : SortedO (l ++ newF D (amD D e) who d)) (hb : ∀ x ∈ (l ++ newF D (amD D e) who d), (0 ≤ x.left ∧ x.left ≤ 1000) ∧ (0 ≤ x.late ∧ x.late ≤ 10) ∧ x.number < 6) (hA : 0 ≤ A ∧ A ≤ 100000) : FnS Tryd.prog 84 [pt lb 0, vA oa l.length c A, .agg #[i64 who, i64 (e : Int), i64 (kd : Int), .bool g], i64 (d : Int)] [] [boxF lb 108 [i64 D.people, .slice uo D.dues.length uc, .slice po D.paid.length pc, .map (some mb)], rowD uo 5 encD D.dues, rowD po 4 encP D.paid, rowD (some ⟨0, 0, none⟩) 1 encE ([0, 1] : List Nat), rowD oa 4 encO l] (fun ed M' R' => ∃ x : Option Addr × Nat, ed = .returned (vA x.1 (payL (l ++ newF D (amD D e) who d) (A + paidS D (paD D e) who d)).length x.2 (restF (l ++ newF D (amD D e) who d) (A + paidS D (paD D e) who d))) ∧ M' = [] ∧ R' = [rowD x.1 4 encO (payL (l ++ newF D (amD D e) who d) (A + paidS D (paD D e) who d))]) := by
 have hl6 : l.length ≤ 6 := by
  have h := hll
  rw [List.length_append] at h; omega
 refine FnS.intro0 Tryd.call84 Tryd.func84 rfl Tryd.ntmps84 rfl ?_
 intro W M Rf
 refine r_seq ?_
 refine r_region ?_
 refine o_boxA rfl rfl rfl rfl rfl (fun b5 => ?_)
 refine o_boxA rfl rfl rfl rfl rfl (fun b6 => ?_)
 refine o_alloc rfl inf77 rfl rfl rfl rfl rfl (fun b8 => ?_)
 refine o_nil ?_
 with_reducible refine r_then ?_
 refine r_seq ?_
 refine r_region ?_
 refine o_q _ rfl rfl rfl (v_fieldAddr rfl Tryd.underlying113 inf3 rfl rfl rfl rfl) ?_
 refine o_q _ rfl rfl rfl (v_ld1 rfl Tryd.underlying3 rfl rfl rfl) ?_
 refine o_q _ rfl rfl rfl (v_indexAddrAn rfl Tryd.underlying142 inf141 rfl rfl he) ?_
 refine o_q _ rfl rfl rfl (v_loadE1 (oa := some ⟨0, 0, none⟩) (sz := 1) (enc := encE) (xs := ([0, 1] : List Nat)) (a := e) (j := 0) rfl Tryd.underlying141 rfl rfl (by show e < 2; omega) rfl (ends_at he)) ?_
 refine o_q _ rfl rfl rfl (v_assign rfl rfl) ?_
 refine o_nil ?_
 with_reducible refine r_then ?_
 refine r_seq ?_
 refine r_region ?_
 refine o_q _ rfl rfl rfl (v_fieldAddr rfl Tryd.underlying77 inf74 rfl rfl rfl rfl) ?_
 refine o_q _ rfl rfl rfl (v_ld1 rfl Tryd.underlying74 rfl rfl rfl) ?_
 refine o_fnR (clone_s l oa c (by omega)) rfl rfl rfl rfl rfl SubRC.sub (fun v20 => ?_)
 refine Imp.isZ2 v20 (fun hsl => ?_)
 obtain ⟨oq, cq, rfl⟩ := hsl
 refine o_q _ rfl rfl rfl (v_fieldAddr rfl Tryd.underlying77 inf74 rfl rfl rfl rfl) ?_
 refine o_st rfl inf74 rfl rfl rfl rfl rfl rfl rfl rfl ?_
 refine o_nil ?_
 with_reducible refine r_then ?_
 refine r_seq ?_
 refine r_seq ?_
 refine Imp.box_to b5 [.slice oq l.length cq, i64 A] rfl ?_
 refine Imp.toZZ (.slice oq l.length cq) (l ++ newTo D (amD D e) who d 0) (List.append_nil _).symm ?_
 refine r_region ?_
 refine o_q _ rfl rfl rfl (v_move rfl rfl) ?_
 refine o_q _ rfl rfl rfl (v_nilCheck rfl rfl) ?_
 refine o_q _ rfl rfl rfl (v_fieldAddr rfl Tryd.underlying108 inf25 rfl rfl rfl rfl) ?_
 refine o_q _ rfl rfl rfl (v_fieldAddr rfl Tryd.underlying25 inf22 rfl rfl rfl rfl) ?_
 refine o_q _ rfl rfl rfl (v_lf1 rfl Tryd.underlying22 rfl rfl rfl) ?_
 refine o_q _ rfl rfl rfl (v_len rfl rfl Tryd.underlying22 rfl) ?_
 refine o_q _ rfl rfl rfl (v_move rfl rfl) ?_
 refine o_nil ?_
 with_reducible refine r_then ?_
 refine r_block ?_
 refine r_loop (ι := Nat × Option Addr × Nat) (fun gh => gh.1 ≤ D.dues.length) (fun gh => [(0, pt lb 0), (3, i64 (d : Int)), (5, pt b5 0), (6, pt b6 0), (8, pt b8 0), (9, endV e), (26, .slice uo D.dues.length uc), (27, i64 D.dues.length), (28, i64 gh.1)]) (fun gh => ownZ (.slice gh.2.1 (l ++ newTo D (amD D e) who d gh.1).length gh.2.2) 116 4 encO (l ++ newTo D (amD D e) who d gh.1) :: bx b5 77 [.slice gh.2.1 (l ++ newTo D (amD D e) who d gh.1).length gh.2.2, i64 A] :: bx b6 113 [i64 who, i64 (e : Int), i64 (kd : Int), .bool g] :: bx b8 77 [.slice none 0 0, i64 0] :: M) (fun gh => [boxF lb 108 [i64 D.people, .slice uo D.dues.length uc, .slice po D.paid.length pc, .map (some mb)], rowD uo 5 encD D.dues, rowD po 4 encP D.paid, rowD (some ⟨0, 0, none⟩) 1 encE ([0, 1] : List Nat), rowD oa 4 encO l] ++ Rf) (fun gh => D.dues.length - gh.1) (0, oq, cq) ?_ ?_ ?_
 ·
  refine Imp.box_to b5 [.slice oq (l ++ newTo D (amD D e) who d 0).length cq, i64 A] (by rw [show newTo D (amD D e) who d 0 = [] from rfl, List.append_nil]) ?_
  refine Imp.ownZ_eq (.slice oq l.length cq) (.slice oq (l ++ newTo D (amD D e) who d 0).length cq) (by rw [show newTo D (amD D e) who d 0 = [] from rfl, List.append_nil]) ?_
  refine Imp.box_to b8 [.slice none 0 0, i64 0] rfl ?_
  exact r_here (by repeat (first | exact FSub.nil | refine FSub.cons rfl ?_)) SelMC.sel SubRC.sub
 ·
  exact Nat.zero_le _
 ·
  rintro ⟨k, ob, oc⟩ hI0
  dsimp only at hI0
  dsimp only
  have hI : k ≤ D.dues.length := hI0
  have hnl := newTo_len D (amD D e) who d k
  have hnd := hg.nd
  have hlk : (l ++ newTo D (amD D e) who d k).length ≤ 1000 := by rw [List.length_append]; have := hll; rw [List.length_append] at this; omega
  have hapA : ∀ x : Opn, (l ++ newTo D (amD D e) who d k ++ [x]).length = (l ++ (newTo D (amD D e) who d k ++ [x])).length := fun x => by rw [List.append_assoc]
  refine r_seq ?_
  refine r_region ?_
  refine o_q _ rfl rfl rfl (v_lss rfl rfl rfl) ?_
  refine o_nil ?_
  with_reducible refine r_then ?_
  refine r_seq ?_
  refine r_condd rfl (fun hc29 => ?_) (fun hc29 => ?_)
  ·
   refine r_skip ?_
   with_reducible refine r_then ?_
   refine r_seq ?_
   refine r_block ?_
   refine r_seq ?_
   refine r_region ?_
   refine o_q _ rfl rfl rfl (v_move rfl rfl) ?_
   refine o_q _ rfl rfl rfl (v_indexAddrSn rfl Tryd.underlying22 inf62 rfl rfl rfl (by omega) rfl) ?_
   refine o_q _ rfl rfl rfl (v_loadEN (us := encD (D.dues.getD k default)) rfl Tryd.underlying62 rfl inf62 rfl (by omega) rfl rfl rfl) ?_
   refine o_alloc rfl inf62 rfl rfl rfl rfl rfl (fun b11 => ?_)
   refine o_q _ rfl rfl rfl (v_assign rfl rfl) ?_
   refine o_st rfl inf62 rfl rfl rfl rfl rfl rfl rfl rfl ?_
   refine o_nil ?_
   with_reducible refine r_then ?_
   refine r_seq ?_
   refine Imp.box_to b11 (encD (D.dues.getD k default)) rfl ?_
   refine r_region ?_
   refine o_q _ rfl rfl rfl (v_fieldAddr rfl Tryd.underlying62 inf3 rfl rfl rfl rfl) ?_
   refine o_q _ rfl rfl rfl (v_ld1 rfl Tryd.underlying3 rfl rfl rfl) ?_
   refine o_q _ rfl rfl rfl (v_fieldAddr rfl Tryd.underlying113 inf3 rfl rfl rfl rfl) ?_
   refine o_q _ rfl rfl rfl (v_ld1 rfl Tryd.underlying3 rfl rfl rfl) ?_
   refine o_test rfl rfl rfl (v_eql rfl rfl rfl) (fun h37 => ?_) (fun h37 => ?_)
   all_goals
    refine o_q _ rfl rfl rfl (v_move rfl rfl) ?_
    first | refine o_gn rfl rfl rfl rfl ?_ | refine o_g _ rfl rfl rfl rfl (v_fieldAddr rfl Tryd.underlying62 inf3 rfl rfl rfl rfl) ?_
    first | refine o_gn rfl rfl rfl rfl ?_ | refine o_g _ rfl rfl rfl rfl (v_ld1 rfl Tryd.underlying3 rfl rfl rfl) ?_
    first | refine o_gn rfl rfl rfl rfl ?_ | refine o_g _ rfl rfl rfl rfl (v_move rfl rfl) ?_
    first | refine o_gn rfl rfl rfl rfl ?_ | refine o_gtest rfl rfl rfl rfl (v_eql rfl rfl rfl) (fun h42 => ?_) (fun h42 => ?_)
    all_goals
     first | refine o_q _ rfl rfl rfl (v_pick_t rfl rfl rfl) ?_ | refine o_q _ rfl rfl rfl (v_pick_f rfl rfl rfl) ?_
     refine o_nil ?_
     with_reducible refine r_then ?_
     refine r_cond rfl (fun hc43 => ?_) (fun hc43 => ?_)
     ·
      first
      | (exfalso; revert hc43; decide)
      |
       skip
       refine r_par' 12 mixed (by kernel_rfl) (by rfl) ?_
       refine p_q _ rfl rfl rfl (fun _ _ => v_fieldAddr rfl Tryd.underlying77 inf74 rfl rfl rfl rfl) ?_
       refine p_q _ rfl rfl rfl (fun _ _ => v_ld1 rfl Tryd.underlying74 rfl rfl rfl) ?_
       refine p_q _ rfl rfl rfl (fun _ _ => v_move rfl rfl) ?_
       refine p_q _ rfl rfl rfl (fun _ _ => v_move rfl rfl) ?_
       refine p_q _ rfl rfl rfl (fun _ _ => v_move rfl rfl) ?_
       refine p_q _ rfl rfl rfl (fun _ _ => v_fieldAddr rfl Tryd.underlying62 inf29 rfl rfl rfl rfl) ?_
       refine p_q _ rfl rfl rfl (fun _ _ => v_ldN rfl Tryd.underlying29 rfl inf29 rfl rfl rfl) ?_
       refine p_q _ rfl rfl rfl (fun _ _ => OpQ.invoke (due_v e (D.dues.getD k default).sods) (dueM e) rfl rfl rfl rfl SubRC.sub) ?_
       refine p_q _ rfl rfl rfl (fun _ _ => v_fieldAddr rfl Tryd.underlying62 inf3 rfl rfl rfl rfl) ?_
       refine p_q _ rfl rfl rfl (fun _ _ => v_ld1 rfl Tryd.underlying3 rfl rfl rfl) ?_
       refine p_q _ rfl rfl rfl (fun _ _ => v_bS rfl Tryd.underlying116 inf116 plt116 rfl rfl rfl (by repeat (first | exact trivial | refine ⟨rfl, ?_⟩)) (by rfl)) ?_
       refine p_lit rfl Tryd.underlying74 inf116 rfl rfl rfl rfl rfl rfl rfl rfl (by repeat (first | exact trivial | refine ⟨rfl, ?_⟩)) (by rfl) ?_
       refine p_nil2 (by simp only [List.nil_append, List.cons_append]; rfl) rfl ?_
       refine f_q rfl ?_
       refine f_q rfl ?_
       refine f_q rfl ?_
       refine f_q rfl ?_
       refine f_q rfl ?_
       refine f_q rfl ?_
       refine f_q rfl ?_
       refine f_q rfl ?_
       refine f_q rfl ?_
       refine f_q rfl ?_
       refine f_q rfl ?_
       refine f_lit rfl (fun b55 => ?_)
       refine f_nil ?_
       refine o_appZ1F (sz := 4) (xs := (l ++ newTo D (amD D e) who d k)) (newOp D (amD D e) d k) rfl Tryd.underlying74 inf116 rfl rfl rfl encO_len rfl rfl rfl rfl rfl rfl rfl ⟨by omega, by decide⟩ (fun v56 => ?_)
       refine Imp.own_is v56 (fun hsl => ?_)
       obtain ⟨oq2, cq2, rfl⟩ := hsl
       refine o_q _ rfl rfl rfl (v_fieldAddr rfl Tryd.underlying77 inf74 rfl rfl rfl rfl) ?_
       refine o_st rfl inf74 rfl rfl rfl rfl rfl rfl rfl rfl ?_
       refine o_nil ?_
       with_reducible refine r_in_normal ?_; refine r_then ?_
       refine r_region ?_
       refine o_q _ rfl rfl rfl (v_add rfl rfl rfl (by omega)) ?_
       refine o_q _ rfl rfl rfl (v_move rfl rfl) ?_
       refine o_nil ?_
       with_reducible refine r_then ?_
       exact r_next ((k + 1, oq2, cq2)) (by refine Imp.toZ (.slice oq2 ((l ++ newTo D (amD D e) who d k) ++ [newOp D (amD D e) d k]).length cq2) (l ++ newTo D (amD D e) who d (k + 1)) (by rw [List.append_assoc, newTo_y (by omega) (by omega)]) ?_; refine Imp.box_to b5 [.slice oq2 (l ++ newTo D (amD D e) who d (k + 1)).length cq2, i64 A] (by rw [← newTo_y (am := (amD D e)) (k := k) (by omega) (by omega), ← List.append_assoc]; rfl) ?_; refine Imp.ownZ_eq (.slice oq2 ((l ++ newTo D (amD D e) who d k) ++ [newOp D (amD D e) d k]).length cq2) (.slice oq2 (l ++ newTo D (amD D e) who d (k + 1)).length cq2) (by rw [← newTo_y (am := (amD D e)) (k := k) (by omega) (by omega), ← List.append_assoc]) ?_; exact r_here (by repeat (first | exact FSub.nil | refine FSub.cons rfl ?_)) SelMC.sel SubRC.sub) (by first | omega | (show _ + 1 ≤ _; omega)) (by first | omega | (show _ - (_ + 1) < _ - _; omega))
     ·
      first
      | (exfalso; revert hc43; decide)
      |
       skip
       refine r_skip ?_
       with_reducible refine r_in_normal ?_; refine r_then ?_
       refine r_region ?_
       refine o_q _ rfl rfl rfl (v_add rfl rfl rfl (by omega)) ?_
       refine o_q _ rfl rfl rfl (v_move rfl rfl) ?_
       refine o_nil ?_
       with_reducible refine r_then ?_
       exact r_next ((k + 1, ob, oc)) (by refine Imp.toZZ (.slice ob (l ++ newTo D (amD D e) who d k).length oc) (l ++ newTo D (amD D e) who d (k + 1)) (by rw [newTo_n (k := k) (by omega)]) ?_; refine Imp.box_to b5 [.slice ob (l ++ newTo D (amD D e) who d (k + 1)).length oc, i64 A] (by rw [newTo_n (k := k) (by omega)]) ?_; refine Imp.ownZ_eq (.slice ob (l ++ newTo D (amD D e) who d k).length oc) (.slice ob (l ++ newTo D (amD D e) who d (k + 1)).length oc) (by rw [newTo_n (k := k) (by omega)]) ?_; exact r_here (by repeat (first | exact FSub.nil | refine FSub.cons rfl ?_)) SelMC.sel SubRC.sub) (by first | omega | (show _ + 1 ≤ _; omega)) (by first | omega | (show _ - (_ + 1) < _ - _; omega))
  ·
   refine r_exit ?_
   with_reducible refine r_then_exit ?_; refine r_then_exit ?_; refine r_in_here ?_; refine r_then ?_
   refine r_seq ?_
   refine r_seq ?_
   refine r_region ?_
   refine o_q _ rfl rfl rfl (v_move rfl rfl) ?_
   refine o_q _ rfl rfl rfl (v_nilCheck rfl rfl) ?_
   refine o_q _ rfl rfl rfl (v_fieldAddr rfl Tryd.underlying108 inf25 rfl rfl rfl rfl) ?_
   refine o_q _ rfl rfl rfl (v_fieldAddr rfl Tryd.underlying25 inf23 rfl rfl rfl rfl) ?_
   refine o_q _ rfl rfl rfl (v_lf1 rfl Tryd.underlying23 rfl rfl rfl) ?_
   refine o_q _ rfl rfl rfl (v_len rfl rfl Tryd.underlying23 rfl) ?_
   refine o_q _ rfl rfl rfl (v_move rfl rfl) ?_
   refine o_nil ?_
   with_reducible refine r_then ?_
   refine r_block ?_
   refine r_loop (ι := Nat) (fun k => k ≤ D.paid.length) (fun k => [(0, pt lb 0), (3, i64 (d : Int)), (5, pt b5 0), (6, pt b6 0), (8, pt b8 0), (9, endV e), (63, .slice po D.paid.length pc), (64, i64 D.paid.length), (65, i64 k)]) (fun k => ownZ (.slice ob (l ++ newF D (amD D e) who d).length oc) 116 4 encO (l ++ newF D (amD D e) who d) :: bx b5 77 [.slice ob (l ++ newF D (amD D e) who d).length oc, i64 (A + paidTo D (paD D e) who d k)] :: bx b6 113 [i64 who, i64 (e : Int), i64 (kd : Int), .bool g] :: bx b8 77 [.slice none 0 0, i64 0] :: M) (fun k => [boxF lb 108 [i64 D.people, .slice uo D.dues.length uc, .slice po D.paid.length pc, .map (some mb)], rowD uo 5 encD D.dues, rowD po 4 encP D.paid, rowD (some ⟨0, 0, none⟩) 1 encE ([0, 1] : List Nat), rowD oa 4 encO l] ++ Rf) (fun k => D.paid.length - k) 0 ?_ ?_ ?_
   ·
    obtain rfl : k = D.dues.length := by omega
    refine Imp.box_to b5 [.slice ob (l ++ newF D (amD D e) who d).length oc, i64 (A + paidTo D (paD D e) who d 0)] (by rw [show paidTo D (paD D e) who d 0 = 0 from rfl, Int.add_zero]) ?_
    exact r_here (by repeat (first | exact FSub.nil | refine FSub.cons rfl ?_)) SelMC.sel SubRC.sub
   ·
    omega
   ·
    rintro k hI1
    have hp1 := paid_bdD hg e who d k (by omega)
    have hp2 := hg.ny
    have hp3 := fun h => pa_bd hg e k h
    refine r_seq ?_
    refine r_region ?_
    refine o_q _ rfl rfl rfl (v_lss rfl rfl rfl) ?_
    refine o_nil ?_
    with_reducible refine r_then ?_
    refine r_seq ?_
    refine r_condd rfl (fun hc66 => ?_) (fun hc66 => ?_)
    ·
     refine r_skip ?_
     with_reducible refine r_then ?_
     refine r_seq ?_
     refine r_block ?_
     refine r_seq ?_
     refine r_region ?_
     refine o_q _ rfl rfl rfl (v_indexAddrSn rfl Tryd.underlying23 inf54 rfl rfl rfl (by omega) rfl) ?_
     refine o_q _ rfl rfl rfl (v_loadEN (us := encP (D.paid.getD k default)) rfl Tryd.underlying54 rfl inf54 rfl (by omega) rfl rfl rfl) ?_
     refine o_alloc rfl inf54 rfl rfl rfl rfl rfl (fun b13 => ?_)
     refine o_st rfl inf54 rfl rfl rfl rfl rfl rfl rfl rfl ?_
     refine o_nil ?_
     with_reducible refine r_then ?_
     refine r_seq ?_
     refine Imp.box_to b13 (encP (D.paid.getD k default)) rfl ?_
     refine r_region ?_
     refine o_q _ rfl rfl rfl (v_fieldAddr rfl Tryd.underlying54 inf3 rfl rfl rfl rfl) ?_
     refine o_q _ rfl rfl rfl (v_ld1 rfl Tryd.underlying3 rfl rfl rfl) ?_
     refine o_q _ rfl rfl rfl (v_fieldAddr rfl Tryd.underlying113 inf3 rfl rfl rfl rfl) ?_
     refine o_q _ rfl rfl rfl (v_ld1 rfl Tryd.underlying3 rfl rfl rfl) ?_
     refine o_test rfl rfl rfl (v_eql rfl rfl rfl) (fun h73 => ?_) (fun h73 => ?_)
     all_goals
      refine o_q _ rfl rfl rfl (v_move rfl rfl) ?_
      first | refine o_gn rfl rfl rfl rfl ?_ | refine o_g _ rfl rfl rfl rfl (v_fieldAddr rfl Tryd.underlying54 inf3 rfl rfl rfl rfl) ?_
      first | refine o_gn rfl rfl rfl rfl ?_ | refine o_g _ rfl rfl rfl rfl (v_ld1 rfl Tryd.underlying3 rfl rfl rfl) ?_
      first | refine o_gn rfl rfl rfl rfl ?_ | refine o_g _ rfl rfl rfl rfl (v_move rfl rfl) ?_
      first | refine o_gn rfl rfl rfl rfl ?_ | refine o_gtest rfl rfl rfl rfl (v_eql rfl rfl rfl) (fun h78 => ?_) (fun h78 => ?_)
      all_goals
       first | refine o_q _ rfl rfl rfl (v_pick_t rfl rfl rfl) ?_ | refine o_q _ rfl rfl rfl (v_pick_f rfl rfl rfl) ?_
       refine o_nil ?_
       with_reducible refine r_then ?_
       refine r_cond rfl (fun hc79 => ?_) (fun hc79 => ?_)
       ·
        first
        | (exfalso; revert hc79; decide)
        |
         skip
         refine r_par' 6 mixed (by kernel_rfl) (by rfl) ?_
         refine p_q _ rfl rfl rfl (fun _ _ => v_fieldAddr rfl Tryd.underlying77 inf75 rfl rfl rfl rfl) ?_
         refine p_q _ rfl rfl rfl (fun _ _ => v_ld1 rfl Tryd.underlying75 rfl rfl rfl) ?_
         refine p_q _ rfl rfl rfl (fun _ _ => v_move rfl rfl) ?_
         refine p_q _ rfl rfl rfl (fun _ _ => v_fieldAddr rfl Tryd.underlying54 inf29 rfl rfl rfl rfl) ?_
         refine p_q _ rfl rfl rfl (fun _ _ => v_ldN rfl Tryd.underlying29 rfl inf29 rfl rfl rfl) ?_
         refine p_q _ rfl rfl rfl (fun _ _ => OpQ.invoke (paid_v e (D.paid.getD k default).sods) (paidM e) rfl rfl rfl rfl SubRC.sub) ?_
         refine p_nil2 (by simp only [List.nil_append, List.cons_append]; rfl) rfl ?_
         refine f_q rfl ?_
         refine f_q rfl ?_
         refine f_q rfl ?_
         refine f_q rfl ?_
         refine f_q rfl ?_
         refine f_q rfl ?_
         refine f_nil ?_
         refine o_q _ rfl rfl rfl (v_add rfl rfl rfl (by simp only [paD] at hp3; omega)) ?_
         refine o_q _ rfl rfl rfl (v_fieldAddr rfl Tryd.underlying77 inf75 rfl rfl rfl rfl) ?_
         refine o_st rfl inf75 rfl rfl rfl rfl rfl rfl rfl rfl ?_
         refine o_nil ?_
         with_reducible refine r_in_normal ?_; refine r_then ?_
         refine r_region ?_
         refine o_q _ rfl rfl rfl (v_add rfl rfl rfl (by omega)) ?_
         refine o_q _ rfl rfl rfl (v_move rfl rfl) ?_
         refine o_nil ?_
         with_reducible refine r_then ?_
         exact r_next (k + 1) (by refine Imp.box_to b5 [.slice ob (l ++ newF D (amD D e) who d).length oc, i64 (A + paidTo D (paD D e) who d (k + 1))] (by rw [paidTo_y (k := k) (by omega) (by omega), ← Int.add_assoc]; rfl) ?_; exact r_here (by repeat (first | exact FSub.nil | refine FSub.cons rfl ?_)) SelMC.sel SubRC.sub) (by first | omega | (show _ + 1 ≤ _; omega)) (by first | omega | (show _ - (_ + 1) < _ - _; omega))
       ·
        first
        | (exfalso; revert hc79; decide)
        |
         skip
         refine r_skip ?_
         with_reducible refine r_in_normal ?_; refine r_then ?_
         refine r_region ?_
         refine o_q _ rfl rfl rfl (v_add rfl rfl rfl (by omega)) ?_
         refine o_q _ rfl rfl rfl (v_move rfl rfl) ?_
         refine o_nil ?_
         with_reducible refine r_then ?_
         exact r_next (k + 1) (by refine Imp.box_to b5 [.slice ob (l ++ newF D (amD D e) who d).length oc, i64 (A + paidTo D (paD D e) who d (k + 1))] (by rw [paidTo_n (k := k) (by omega)]) ?_; exact r_here (by repeat (first | exact FSub.nil | refine FSub.cons rfl ?_)) SelMC.sel SubRC.sub) (by first | omega | (show _ + 1 ≤ _; omega)) (by first | omega | (show _ - (_ + 1) < _ - _; omega))
    ·
     refine r_exit ?_
     with_reducible refine r_then_exit ?_; refine r_then_exit ?_; refine r_in_here ?_; refine r_then ?_
     refine r_seq ?_
     obtain rfl : k = D.paid.length := by omega
     refine Imp.settleZ2 (.slice ob (l ++ newF D (amD D e) who d).length oc) encO_len (fun oe ce hee => ?_)
     cases hee
     refine r_region ?_
     refine o_q _ rfl rfl rfl (v_fieldAddr rfl Tryd.underlying77 inf74 rfl rfl rfl rfl) ?_
     refine o_q _ rfl rfl rfl (v_ld1 rfl Tryd.underlying74 rfl rfl rfl) ?_
     refine o_q _ rfl rfl rfl (OpQ.fn (sort_v (l ++ newF D (amD D e) who d) ob oc (by omega) hs) rfl rfl SubRC.sub) ?_
     refine o_nil ?_
     with_reducible refine r_then ?_
     refine r_seq ?_
     refine Imp.box_to b5 [.slice ob (l ++ newF D (amD D e) who d).length oc, i64 (A + paidS D (paD D e) who d)] rfl ?_
     refine r_region ?_
     refine o_q _ rfl rfl rfl (v_ldW rfl Tryd.underlying77 rfl inf77 rfl rfl) ?_
     refine o_fnF (pay_s (l ++ newF D (amD D e) who d) ob oc (A + paidS D (paD D e) who d) (by omega) (fun x hx => by have := (hb x hx).1; omega) (by have hp1 := paid_bdD hg e who d D.paid.length (Nat.le_refl _); have hp2 := hg.ny; show 0 ≤ A + paidTo D (paD D e) who d D.paid.length ∧ A + paidTo D (paD D e) who d D.paid.length ≤ _; omega)) rfl rfl rfl rfl rfl SubRC.sub (fun x93 => ?_)
     refine o_st rfl inf77 rfl rfl rfl rfl rfl rfl rfl rfl ?_
     refine o_nil ?_
     with_reducible refine r_then ?_
     refine r_ret ?_
     refine Imp.box_to b8 [.slice x93.1 (payL (l ++ newF D (amD D e) who d) (A + paidS D (paD D e) who d)).length x93.2, i64 (restF (l ++ newF D (amD D e) who d) (A + paidS D (paD D e) who d))] rfl ?_
     exact r_rete [] [rowD x93.1 4 encO (payL (l ++ newF D (amD D e) who d) (A + paidS D (paD D e) who d))] (Rd.one rfl (RdI.cellW Tryd.underlying77 rfl inf77 rfl rfl)) ⟨x93, rfl, rfl, rfl⟩ SelMC.sel SubRC.sub
end Go.Proofs.YtpfgiednfjfdmaaDoor


namespace Go.G
variable {P : Program} {W : World} {n : Nat} {D : List Deferred} {L : Tm} {M : List Res} {R : List Fact} {Q : Exit → Act → World → Prop} {o : Oper} {F : Fence} {m0 : Nat}
theorem anyIn_of_any {ops : Array Oper} (hF : WideF P F) (hnd : ∀ (i : Nat) (o : Oper), ops[i]? = some o → noDefer o.op = true) (hno : ∀ a w, Q .outgrown a w → False) : ∀ {fuel : Nat} {listed : Array Bool} {a : Act} {w : World}, wpAny P .any ops Q fuel listed a w → wpAnyIn F m0 P .any ops Q fuel listed a w
  | 0, _, _, _, h => h
  | fuel + 1, listed, a, w, h => by
    refine ⟨h.1, fun i hi => ?_⟩
    have h2 := h.2 i hi
    unfold wpOp at h2
    unfold wpOpIn
    cases ho : ops[i]? with
    | none =>
      rw [ho] at h2
      exact anyIn_of_any hF hnd hno h2
    | some o =>
      rw [ho] at h2
      dsimp only at h2 ⊢
      split
      · rename_i hw
        rw [if_pos hw] at h2
        rcases h2 with h2 | ⟨_, a0, w0, h3⟩
        · exact Oper.wpIn_mono (fun _ _ h' => anyIn_of_any hF hnd hno h') (opIn_of_wp hF (hnd i o ho) h2)
        · exact (hno _ _ h3).elim
      · rename_i hw
        rw [if_neg hw] at h2
        exact ⟨fun f _ => hF.fn f, anyIn_of_any hF hnd hno h2⟩
theorem ri_parZ {id : Nat} {l : List Oper} (Z : World → Prop) (hZ : ∀ X F w, St W (X ++ M) (F ++ R) w → Z w) (fl : List Nat) (m : Nat) (hF : WideF P F) (hnd : l.all (fun o => noDefer o.op) = true) (hml : Nat.ble m l.length = true) (hns : Region.noSelect l.toArray = true) (hbk : backB l = true) (htl : tailF fl (masks l []) m l.length = true) (hfs : freesB l fl = true)
    (hm : P.follows .mixedOrders = true) (hpb : parB ((floatL fl m l).take m) ((floatL fl m l).drop m) = true) (hfr : freshB L ((floatL fl m l).take m) = true)
    (h : ParO P W n M R (floatL fl m l).toArray (fun ss => FlZ Z P n L ((floatL fl m l).take m) ss fl ∧ preOf ss = [] ∧ lateX (floatL fl m l).toArray ss = true ∧ Fin W n D (wpListZ Z P (floatL fl m l).toArray (NoP Q) ((floatL fl m l).drop m)) ((floatL fl m l).take m) ss L M R) ((floatL fl m l).take m) [] L) : Imp W n D L M R ((Code.region id l.toArray true).wpIn F m0 P Q) := by
  have hml : m ≤ l.length := by simpa using hml
  intro a w h1 h2 h3
  refine Go.wpIn_mono (Q := NoP Q) ?_ (fun e a' w' he => ?_)
  rotate_left
  · cases e with
    | normal => exact he
    | _ => exact he.elim
  refine wpIn_region_any hm (anyIn_of_any hF (fun i o ho => ?_) (fun _ _ h => h) ?_)
  · have : l[i]? = some o := by simpa using ho
    exact List.all_eq_true.1 hnd o (List.mem_of_getElem? this)
  obtain ⟨ss, hl, ⟨hsi, hpre, hlx, hfin⟩, hs⟩ := ParO.out ((floatL fl m l).take m) [] L h
  rw [List.nil_append] at hsi hpre hlx hfin
  have hLB : lateB (floatL fl m l).toArray ss 0 ss = true := by simp only [lateX, Bool.and_eq_true] at hlx; exact hlx.1
  have hlk : ∀ o ∈ (floatL fl m l).take m, look L (o.dst.getD 1000000) = none := fun o ho => by
    have := List.all_eq_true.1 hfr o ho
    simpa using this
  refine (floatZ_all hZ hml hpb hl hlk (lateOK_of hLB) (fun k s c e1 e2 => (lateX_ab hlx k s c e1 e2).elim) (fun k o s e1 e2 => by
    have := hs k o s e1 e2
    rw [List.nil_append, List.length_nil, Nat.zero_add] at this
    exact this) hfin hsi hns hbk htl hfs _ _ _ _ ⟨?_, ?_, ?_, h1, h2, fun _ => undef, ?_, ?_⟩ ?_).any
  · simp [floatL_len]
  · intro j o _ hj
    rw [rep_false] at hj; cases hj
  · intro t _ ht
    have : t < l.length := by simpa [floatL_len] using ht
    simp [this]
  · intro i o s e1 _ hj
    rw [rep_false] at hj; cases hj
  · have e1 : resOf ss (Array.replicate l.toArray.size false) (fun _ => undef) ((floatL fl m l).take m).length = [] := by
      rw [← hpre, ← preOf_range, hl]
      refine flatMap_same _ _ _ fun j hj => ?_
      rw [rep_false]; rfl
    have e2 : ∀ k, fctOf ss (Array.replicate l.toArray.size false) (fun _ => undef) k = [] := by
      intro k
      unfold fctOf
      induction k with
      | zero => rfl
      | succ k ih => rw [List.range_succ, List.flatMap_append, ih, List.nil_append, List.flatMap_cons, List.flatMap_nil, List.append_nil, rep_false]; rfl
    rw [e1, e2]
    exact h3.heap rfl rfl rfl rfl
  · have := unl_tail (N := l.length) (m := 0) (listed := Array.replicate l.length false) (fun i hi => by omega)
    simpa using this
end Go.G


namespace Go.Proofs.YtpfgiednfjfdmaaDoor
open Go.G Debt10
set_option maxRecDepth 1000000
attribute [local irreducible] G.ParO G.Fin
def natsI (n : Nat) : List Int := (List.range n).map fun k : Nat => (k : Int)
theorem natsI_len (n : Nat) : (natsI n).length = n := by simp [natsI]
theorem natsI_get {n i : Nat} (h : i < n) : (natsI n)[i]? = some (i : Int) := by simp [natsI, h]
theorem natsI_is {n i : Nat} {x : Int} (h : (natsI n)[i]? = some x) : i < n ∧ x = (i : Int) := by
  unfold natsI at h
  rw [List.getElem?_map] at h
  by_cases hi : i < n
  · rw [List.getElem?_range hi] at h
    simp at h; exact ⟨hi, h.symm⟩
  · rw [List.getElem?_eq_none (by rw [List.length_range]; omega)] at h
    cases h
def cap1 : Value → Nat
  | .func _ _ cs => blk (cs.getD 0 undef)
  | _ => 0
set_option maxHeartbeats 4000000 in
theorem days_r (d : Nat) : FnR Tryd.prog 83 [i64 (d : Int)] [] (fun v => v = .func (.func 98) #[] #[pt (cap1 v) 0]) (fun v => [boxF (cap1 v) 3 [i64 (d : Int)]]) := by
 refine FnR.intro Tryd.call83 Tryd.func83 rfl Tryd.ntmps83 rfl ?_
 intro W M Rf
 refine r_seq ?_
 refine r_region ?_
 refine o_box1 rfl rfl rfl rfl rfl rfl (fun b1 => ?_)
 refine o_q _ rfl rfl rfl (v_assign rfl rfl) ?_
 refine o_nil ?_
 with_reducible refine r_then ?_
 refine r_seq ?_
 refine r_region ?_
 refine o_q _ rfl rfl rfl (v_makeFunc rfl rfl rfl) ?_
 refine o_q _ rfl rfl rfl (v_assign rfl rfl) ?_
 refine o_nil ?_
 with_reducible refine r_then ?_
 refine r_ret ?_
 refine Imp.sealB b1 ?_
 exact r_retr (Rd.tmp rfl rfl) rfl SelMC.sel (fun _ h => h)
set_option maxHeartbeats 4000000 in
theorem days1_s (d c1 : Nat) (hd : d ≤ 1000) : IsSeqG Tryd.prog 98 [pt c1 0] [boxF c1 3 [i64 (d : Int)]] (fun x => [i64 x]) (natsI (d + 1)) := by
 refine IsSeqG.intro Tryd.call98 Tryd.func98 rfl Tryd.ntmps98 rfl ?_
 intro γ l J F g0 W Rf hY
 refine r_scope ?_
 refine r_seq ?_
 refine r_label ?_
 with_reducible refine r_then ?_
 refine r_seq ?_
 refine r_region ?_
 refine o_q _ rfl rfl rfl (v_lf1 rfl Tryd.underlying3 rfl rfl rfl) ?_
 refine o_q _ rfl rfl rfl (v_cast (v := i64 ((d + 1 : Nat) : Int)) (v_add rfl rfl rfl (by omega)) (congrArg (Value.int .i64) (by omega))) ?_
 refine o_q _ rfl rfl rfl (v_move rfl rfl) ?_
 refine o_nil ?_
 with_reducible refine r_then ?_
 refine r_block ?_
 refine r_loop (ι := γ × Nat) (fun gh => gh.2 ≤ d + 1) (fun gh => [(0, .func (.yield l) #[] #[]), (1, pt c1 0), (5, i64 ((d + 1 : Nat) : Int)), (6, i64 (gh.2 : Nat))]) (fun gh => [J gh.1 gh.2]) (fun gh => F gh.1 gh.2 :: ([boxF c1 3 [i64 (d : Int)]] ++ Rf)) (fun gh => d + 1 - gh.2) (g0, 0) ?_ ?_ ?_
 ·
  exact r_here (by repeat (first | exact FSub.nil | refine FSub.cons rfl ?_)) SelMC.sel SubRC.sub
 ·
  exact Nat.zero_le _
 ·
  rintro ⟨q, j⟩ hI0
  dsimp only at hI0
  dsimp only
  have hI : j ≤ d + 1 := hI0
  refine r_seq ?_
  refine r_region ?_
  refine o_q _ rfl rfl rfl (v_lss rfl rfl rfl) ?_
  refine o_nil ?_
  with_reducible refine r_then ?_
  refine r_seq ?_
  refine r_condd rfl (fun hc7 => ?_) (fun hc7 => ?_)
  ·
   refine r_skip ?_
   with_reducible refine r_then ?_
   refine r_seq ?_
   refine r_block ?_
   refine r_seq ?_
   refine r_region ?_
   refine o_q _ rfl rfl rfl (v_move rfl rfl) ?_
   refine o_q _ rfl rfl rfl (v_assign rfl rfl) ?_
   refine o_nil ?_
   with_reducible refine r_then ?_
   refine r_seq ?_
   refine r_region_in ?_
   refine oi_lift wideF rfl (fun _ _ h => by obtain ⟨⟨v, hv⟩, _⟩ := h; cases hv) ?_
   refine o_q _ rfl rfl rfl (v_move rfl rfl) ?_
   refine o_nil ?_
   refine r_then ?_
   refine oi_lift wideF rfl (fun _ _ h => by obtain ⟨⟨v, hv⟩, _⟩ := h; cases hv) ?_
   refine o_q _ rfl rfl rfl (v_move rfl rfl) ?_
   refine o_nil ?_
   refine r_then ?_
   refine oi_yieldsG2 (Ri := [boxF c1 3 [i64 (d : Int)]]) hY (natsI_get (i := j) (by omega)) rfl rfl rfl rfl rfl rfl rfl (fun q2 => ?_)
   all_goals
    refine oi_lift wideF rfl (fun _ _ h => by obtain ⟨⟨v, hv⟩, _⟩ := h; cases hv) ?_
    refine o_q _ rfl rfl rfl (v_not rfl rfl) ?_
    refine o_nil ?_
    refine r_then ?_
    refine oi_nil ?_
    with_reducible refine r_then ?_
    refine r_cond rfl (fun hc12 => ?_) (fun hc12 => ?_)
    ·
     (exfalso; revert hc12; decide)
    ·
     refine r_skip ?_
     with_reducible refine r_in_normal ?_; refine r_then ?_
     refine r_region ?_
     refine o_q _ rfl rfl rfl (v_add rfl rfl rfl (by omega)) ?_
     refine o_q _ rfl rfl rfl (v_move rfl rfl) ?_
     refine o_nil ?_
     with_reducible refine r_then ?_
     exact r_next ((q2, j + 1)) (by exact r_here (by repeat (first | exact FSub.nil | refine FSub.cons rfl ?_)) SelMC.sel SubRC.sub) (by first | omega | (show _ + 1 ≤ _; omega)) (by first | omega | (show _ - (_ + 1) < _ - _; omega))
  ·
   refine r_exit ?_
   with_reducible refine r_then_exit ?_; refine r_then_exit ?_; refine r_in_here ?_; refine r_sc_normal ?_
   exact r_retseqG q j (by rw [natsI_len]; omega) (Rd.none rfl) SelMC.sel SubRC.sub
/-- What a key's account is. -/
def accP (D : Debt) (e : Nat) (who : Int) (d : Nat) (g : Bool) : List Opn × Int := if g then progA D e who (d + 1) else progB D e who d
theorem keyV_inj {who who' : Int} {e e' d d' : Nat} {g g' : Bool} (h : keyV who e d g = keyV who' e' d' g') : who = who' ∧ e = e' ∧ d = d' ∧ g = g' := by
  have h2 : [i64 who, i64 (e : Int), i64 (d : Int), .bool g] = [i64 who', i64 (e' : Int), i64 (d' : Int), .bool g'] := congrArg Array.toList (Value.agg.inj h)
  simp only [List.cons.injEq, Value.int.injEq, true_and, and_true, Value.bool.injEq] at h2
  obtain ⟨a, b, c, f⟩ := h2
  exact ⟨a, by omega, by omega, f⟩
/-- All accounts that are kept lie there. -/
def entF (D : Debt) (G : Cont) : Fact := fun V => ∀ who e d g v, G (keyV who e d g) = some v → ∃ oa c, v = vA oa (accP D e who d g).1.length c (accP D e who d g).2 ∧ rowD oa 4 encO (accP D e who d g).1 V
theorem entF_put {D : Debt} {G : Cont} {V : View} {who : Int} {e d : Nat} {g : Bool} {oa : Option Addr} {c : Nat} (h : entF D G V) (hr : rowD oa 4 encO (accP D e who d g).1 V) : entF D (G.put (keyV who e d g) (vA oa (accP D e who d g).1.length c (accP D e who d g).2)) V := by
  intro who' e' d' g' v hv
  by_cases hk : keyV who' e' d' g' = keyV who e d g
  · obtain ⟨rfl, rfl, rfl, rfl⟩ := keyV_inj hk
    rw [Cont.put_eq] at hv
    exact ⟨oa, c, (Option.some.inj hv).symm, hr⟩
  · rw [Cont.put_ne _ _ hk] at hv
    exact h who' e' d' g' v hv
theorem Imp.ent {D : Debt} {G : Cont} {who : Int} {e d : Nat} {g : Bool} {v : Value} {W : World} {n : Nat} {Df : List Deferred} {L : Tm} {M : List Res} {R : List Fact} {X : Act → World → Prop} [hm : InR (entF D G) R] (hG : G (keyV who e d g) = some v)
    (h : ∀ oa c, v = vA oa (accP D e who d g).1.length c (accP D e who d g).2 → Imp W n Df L M (rowD oa 4 encO (accP D e who d g).1 :: R) X) : Imp W n Df L M R X := by
  refine Imp.fact hm.mem (fun ⟨V0, hV⟩ => ?_)
  obtain ⟨oa, c, rfl, _⟩ := hV who e d g v hG
  refine (h oa c rfl).derive (fun V hR => ?_)
  obtain ⟨oa', c', h1, h2⟩ := hR _ hm.mem who e d g _ hG
  have h3 : [Value.slice oa (accP D e who d g).1.length c, i64 (accP D e who d g).2] = [.slice oa' (accP D e who d g).1.length c', i64 (accP D e who d g).2] := congrArg Array.toList (Value.agg.inj h1)
  simp only [List.cons.injEq, Value.slice.injEq, true_and, and_true] at h3
  rw [h3.1]; exact h2
variable (D : Debt) (uo po : Option Addr) (uc pc : Nat)
variable (lb mb : Nat)
theorem dayP (who : Int) (e kd : Nat) (g : Bool) (d : Nat) (oa : Option Addr) (c : Nat) (hg : GoodD D) (he : e < 2) (hd : d ≤ 31) : FnS Tryd.prog 84 [pt lb 0, vA oa (progA D e who d).1.length c (progA D e who d).2, .agg #[i64 who, i64 (e : Int), i64 (kd : Int), .bool g], i64 (d : Int)] [] [boxF lb 108 [i64 D.people, .slice uo D.dues.length uc, .slice po D.paid.length pc, .map (some mb)], rowD uo 5 encD D.dues, rowD po 4 encP D.paid, rowD (some ⟨0, 0, none⟩) 1 encE ([0, 1] : List Nat), rowD oa 4 encO (progA D e who d).1] (fun ed M' R' => ∃ x : Option Addr × Nat, ed = .returned (vA x.1 (progB D e who d).1.length x.2 (progB D e who d).2) ∧ M' = [] ∧ R' = [rowD x.1 4 encO (progB D e who d).1]) := by
  have h := day_s D uo po uc pc lb mb who e kd g d (progA D e who d).1 oa c (progA D e who d).2 hg he hd (prog_len hg e who d) (prog_sorted hg e who d) (prog_bdN hg e who d hd) (prog_bd hg e who d hd).2
  rw [(prog_pay hg e who d).1, (prog_pay hg e who d).2] at h
  exact h
theorem growP (who : Int) (e d : Nat) (oa : Option Addr) (c : Nat) (hg : GoodD D) (hd : d ≤ 31) : FnS Tryd.prog 85 [vA oa (progB D e who d).1.length c (progB D e who d).2, i64 (d : Int)] [] [rowD oa 4 encO (progB D e who d).1] (fun ed M' R' => ∃ x : Option Addr × Nat, ed = .returned (vA x.1 (progA D e who (d + 1)).1.length x.2 (progA D e who (d + 1)).2) ∧ M' = [] ∧ R' = [rowD x.1 4 encO (progA D e who (d + 1)).1]) := by
  have hb := (prog_bdB hg e who d hd).1
  have h := grow_s (progB D e who d).1 oa c (progB D e who d).2 d (by have := prog_lenB hg e who d; omega) (fun x hx => by have := hb x hx; omega) (by omega)
  rw [(prog_grow hg e who d).1, (prog_grow hg e who d).2] at h
  exact h
set_option maxHeartbeats 4000000 in
theorem account_y (G : Cont) (who : Int) (e kd : Nat) (g : Bool) (hg : GoodD D) (hw : -1000 ≤ who ∧ who ≤ 1000) (he : e < 2) (hk : kd ≤ 30) (v0 : Value) (hG : G (keyV who e kd g) = some v0) : FnS Tryd.prog 74 [pt lb 0, .agg #[i64 who, i64 (e : Int), i64 (kd : Int), .bool g]] [mapG Tryd.prog 113 mb G] [entF D G, boxF lb 108 [i64 D.people, .slice uo D.dues.length uc, .slice po D.paid.length pc, .map (some mb)], rowD uo 5 encD D.dues, rowD po 4 encP D.paid, rowD (some ⟨0, 0, none⟩) 1 encE ([0, 1] : List Nat)] (fun ed M' R' => ∃ x : Cont × Option Addr × Nat, ed = .returned (vA x.2.1 (accP D e who kd g).1.length x.2.2 (accP D e who kd g).2) ∧ True ∧ M' = [mapG Tryd.prog 113 mb x.1] ∧ R' = [entF D x.1, rowD x.2.1 4 encO (accP D e who kd g).1]) := by
 obtain ⟨kl, hkl⟩ := key_of (g := g) hw he (show kd ≤ 1000 by omega)
 refine FnS.intro1 Tryd.call74 Tryd.func74 rfl Tryd.ntmps74 rfl ?_
 intro W M Rf
 refine Imp.ent (D := D) hG (fun oa0 c0 hv0 => ?_)
 subst hv0
 refine r_seq ?_
 refine r_region ?_
 refine o_box1 rfl rfl rfl rfl rfl rfl (fun b2 => ?_)
 refine o_boxA rfl rfl rfl rfl rfl (fun b3 => ?_)
 refine o_alloc rfl inf77 rfl rfl rfl rfl rfl (fun b4 => ?_)
 refine o_nil ?_
 with_reducible refine r_then ?_
 refine r_seq ?_
 refine r_seq ?_
 refine r_par' 11 mixed (by kernel_rfl) (by rfl) ?_
 refine p_q _ rfl rfl rfl (fun _ _ => v_ld1 rfl Tryd.underlying69 rfl rfl rfl) ?_
 refine p_q _ rfl rfl rfl (fun _ _ => v_nilCheck rfl rfl) ?_
 refine p_q _ rfl rfl rfl (fun _ _ => v_fieldAddr rfl Tryd.underlying108 inf106 rfl rfl rfl rfl) ?_
 refine p_q _ rfl rfl rfl (fun _ _ => v_lf1 rfl Tryd.underlying106 rfl rfl rfl) ?_
 refine p_q _ rfl rfl rfl (fun _ _ => v_ldW rfl Tryd.underlying113 rfl inf113 rfl rfl) ?_
 refine p_q _ rfl rfl rfl (fun _ _ => v_cast (v := .tuple #[vA oa0 (accP D e who kd g).1.length c0 (accP D e who kd g).2, .bool true]) (v_lookG G (some (vA oa0 (accP D e who kd g).1.length c0 (accP D e who kd g).2)) keyLaw113 hkl rfl Tryd.underlying106 inf77 (z := (.agg #[.slice none 0 0, i64 0])) rfl hG rfl rfl) rfl) ?_
 refine p_q _ rfl rfl rfl (fun _ _ => v_move rfl rfl) ?_
 refine p_q _ rfl rfl rfl (fun _ _ => v_extract rfl rfl rfl) ?_
 refine p_q _ rfl rfl rfl (fun _ _ => v_extract rfl rfl rfl) ?_
 refine p_allocL (zs := [.slice none 0 0, i64 0]) 10 ([.slice oa0 (accP D e who kd g).1.length c0, i64 (accP D e who kd g).2]) rfl inf77 rfl (by kernel_rfl) rfl rfl rfl ?_
 refine p_acc (by simp only [List.nil_append, List.cons_append]; rfl) ?_
 refine p_stl 9 rfl rfl rfl inf77 rfl rfl rfl (by kernel_rfl) (fun _ => rfl) rfl (rfl) (rfl) (rfl) ?_
 refine p_nil2 (by simp only [List.nil_append, List.cons_append]; rfl) rfl ?_ (by kernel_rfl)
 refine f_q rfl ?_
 refine f_q rfl ?_
 refine f_q rfl ?_
 refine f_q rfl ?_
 refine f_q rfl ?_
 refine f_q rfl ?_
 refine f_q rfl ?_
 refine f_q rfl ?_
 refine f_q rfl ?_
 refine f_allocL rfl (fun b5 => ?_)
 refine f_s rfl ?_
 refine f_nil ?_
 refine o_q _ rfl rfl rfl (v_assign rfl rfl) ?_
 refine o_nil ?_
 with_reducible refine r_then ?_
 refine r_seq ?_
 refine r_region ?_
 refine o_q _ rfl rfl rfl (v_move rfl rfl) ?_
 refine o_nil ?_
 with_reducible refine r_then ?_
 refine r_cond rfl (fun hc19 => ?_) (fun hc19 => ?_)
 ·
  refine r_seq ?_
  refine r_region ?_
  refine o_q _ rfl rfl rfl (v_ldW rfl Tryd.underlying77 rfl inf77 rfl rfl) ?_
  refine o_st rfl inf77 rfl rfl rfl rfl rfl rfl rfl rfl ?_
  refine o_nil ?_
  with_reducible refine r_then ?_
  refine r_ret ?_
  with_reducible refine r_then_ret ?_
  refine Imp.box_to b4 [.slice oa0 (accP D e who kd g).1.length c0, i64 (accP D e who kd g).2] rfl ?_
  exact r_rete [mapG Tryd.prog 113 mb G] [entF D G, rowD oa0 4 encO (accP D e who kd g).1] (Rd.one rfl (RdI.cellW Tryd.underlying77 rfl inf77 rfl rfl)) ⟨(G, oa0, c0), rfl, trivial, rfl, rfl⟩ SelMC.sel SubRC.sub
 ·
  (exfalso; revert hc19; decide)
theorem step_all {G : Cont} {who : Int} {e i : Nat} {u v : Value} (h : ∀ j, j < i → ∀ g, ∃ v, G (keyV who e j g) = some v) : ∀ j, j < i + 1 → ∀ g, ∃ x, ((G.put (keyV who e i false) u).put (keyV who e i true) v) (keyV who e j g) = some x := by
  intro j hj g
  by_cases h1 : keyV who e j g = keyV who e i true
  · rw [h1, Cont.put_eq]; exact ⟨_, rfl⟩
  · rw [Cont.put_ne _ _ h1]
    by_cases h2 : keyV who e j g = keyV who e i false
    · rw [h2, Cont.put_eq]; exact ⟨_, rfl⟩
    · rw [Cont.put_ne _ _ h2]
      refine h j ?_ g
      rcases Nat.lt_succ_iff_lt_or_eq.1 hj with h3 | rfl
      · exact h3
      · cases g
        · exact absurd rfl h2
        · exact absurd rfl h1
set_option maxHeartbeats 4000000 in
theorem account_n (G : Cont) (who : Int) (e kd : Nat) (g : Bool) (hg : GoodD D) (hw : -1000 ≤ who ∧ who ≤ 1000) (he : e < 2) (hk : kd ≤ 30) (hG : G (keyV who e kd g) = none) : FnS Tryd.prog 74 [pt lb 0, .agg #[i64 who, i64 (e : Int), i64 (kd : Int), .bool g]] [mapG Tryd.prog 113 mb G] [entF D G, boxF lb 108 [i64 D.people, .slice uo D.dues.length uc, .slice po D.paid.length pc, .map (some mb)], rowD uo 5 encD D.dues, rowD po 4 encP D.paid, rowD (some ⟨0, 0, none⟩) 1 encE ([0, 1] : List Nat)] (fun ed M' R' => ∃ x : Cont × Option Addr × Nat, ed = .returned (vA x.2.1 (accP D e who kd g).1.length x.2.2 (accP D e who kd g).2) ∧ True ∧ M' = [mapG Tryd.prog 113 mb x.1] ∧ R' = [entF D x.1, rowD x.2.1 4 encO (accP D e who kd g).1]) := by
 obtain ⟨kl, hkl⟩ := key_of (g := g) hw he (show kd ≤ 1000 by omega)
 refine FnS.introM1 Tryd.call74 Tryd.func74 rfl Tryd.ntmps74 rfl ?_
 intro W M Rf
 refine r_seq ?_
 refine r_region ?_
 refine o_box1 rfl rfl rfl rfl rfl rfl (fun b2 => ?_)
 refine o_boxA rfl rfl rfl rfl rfl (fun b3 => ?_)
 refine o_alloc rfl inf77 rfl rfl rfl rfl rfl (fun b4 => ?_)
 refine o_nil ?_
 with_reducible refine r_then ?_
 refine r_seq ?_
 refine r_seq ?_
 refine r_par' 11 mixed (by kernel_rfl) (by rfl) ?_
 refine p_q _ rfl rfl rfl (fun _ _ => v_ld1 rfl Tryd.underlying69 rfl rfl rfl) ?_
 refine p_q _ rfl rfl rfl (fun _ _ => v_nilCheck rfl rfl) ?_
 refine p_q _ rfl rfl rfl (fun _ _ => v_fieldAddr rfl Tryd.underlying108 inf106 rfl rfl rfl rfl) ?_
 refine p_q _ rfl rfl rfl (fun _ _ => v_lf1 rfl Tryd.underlying106 rfl rfl rfl) ?_
 refine p_q _ rfl rfl rfl (fun _ _ => v_ldW rfl Tryd.underlying113 rfl inf113 rfl rfl) ?_
 refine p_q _ rfl rfl rfl (fun _ _ => v_cast (v := .tuple #[(.agg #[.slice none 0 0, i64 0]), .bool false]) (v_lookG G none keyLaw113 hkl rfl Tryd.underlying106 inf77 (z := (.agg #[.slice none 0 0, i64 0])) rfl hG rfl rfl) rfl) ?_
 refine p_q _ rfl rfl rfl (fun _ _ => v_move rfl rfl) ?_
 refine p_q _ rfl rfl rfl (fun _ _ => v_extract rfl rfl rfl) ?_
 refine p_q _ rfl rfl rfl (fun _ _ => v_extract rfl rfl rfl) ?_
 refine p_allocL (zs := [.slice none 0 0, i64 0]) 10 ([.slice none 0 0, i64 0]) rfl inf77 rfl (by kernel_rfl) rfl rfl rfl ?_
 refine p_acc (by simp only [List.nil_append, List.cons_append]; rfl) ?_
 refine p_stl 9 rfl rfl rfl inf77 rfl rfl rfl (by kernel_rfl) (fun _ => rfl) rfl (rfl) (rfl) (rfl) ?_
 refine p_nil2 (by simp only [List.nil_append, List.cons_append]; rfl) rfl ?_ (by kernel_rfl)
 refine f_q rfl ?_
 refine f_q rfl ?_
 refine f_q rfl ?_
 refine f_q rfl ?_
 refine f_q rfl ?_
 refine f_q rfl ?_
 refine f_q rfl ?_
 refine f_q rfl ?_
 refine f_q rfl ?_
 refine f_allocL rfl (fun b5 => ?_)
 refine f_s rfl ?_
 refine f_nil ?_
 refine o_q _ rfl rfl rfl (v_assign rfl rfl) ?_
 refine o_nil ?_
 with_reducible refine r_then ?_
 refine r_seq ?_
 refine r_region ?_
 refine o_q _ rfl rfl rfl (v_move rfl rfl) ?_
 refine o_nil ?_
 with_reducible refine r_then ?_
 refine r_cond rfl (fun hc19 => ?_) (fun hc19 => ?_)
 ·
  (exfalso; revert hc19; decide)
 ·
  refine r_skip ?_
  with_reducible refine r_then ?_
  refine r_seq ?_
  refine r_region ?_
  refine o_alloc rfl inf77 rfl rfl rfl rfl rfl (fun b7 => ?_)
  refine o_nil ?_
  with_reducible refine r_then ?_
  refine r_seq ?_
  refine r_seq ?_
  refine Imp.sealB b2 ?_
  refine Imp.sealB b3 ?_
  refine Imp.box_to b4 [.slice none 0 0, i64 0] rfl ?_
  refine Imp.box_to b7 [.slice none (progA D e who 0).1.length 0, i64 (progA D e who 0).2] rfl ?_
  refine r_region ?_
  refine o_q _ rfl rfl rfl (v_fieldAddr rfl Tryd.underlying113 inf3 rfl rfl rfl rfl) ?_
  refine o_q _ rfl rfl rfl (v_lf1 rfl Tryd.underlying3 rfl rfl rfl) ?_
  refine o_fn (days_r kd) rfl rfl rfl rfl rfl SubRC.sub (fun v23 hv23 => ?_)
  (obtain ⟨c1, hc1⟩ : ∃ c, cap1 v23 = c := ⟨_, rfl⟩); rw [hc1] at hv23 ⊢; clear hc1; subst hv23
  all_goals
   refine o_nil ?_
   with_reducible refine r_then ?_
   refine r_block ?_
   refine r_rangeG (days1_s kd c1 (by omega)) rfl SubRC.sub (fun _ => rfl) rfl (fun (gh : Cont × Option Addr × Nat) i => exR fun (_ : Unit) => [mapG Tryd.prog 113 mb gh.1, bx b7 77 [.slice gh.2.1 (progA D e who i).1.length gh.2.2, i64 (progA D e who i).2]]) (fun (gh : Cont × Option Addr × Nat) i V => entF D gh.1 V ∧ rowD gh.2.1 4 encO (progA D e who i).1 V ∧ ∀ j, j < i → ∀ g, ∃ v, gh.1 (keyV who e j g) = some v) ((G, none, 0)) (M0 := bx b4 77 [.slice none 0 0, i64 0] :: M) (M1 := mapG Tryd.prog 113 mb G :: bx b7 77 [.slice none (progA D e who 0).1.length 0, i64 (progA D e who 0).2] :: bx b4 77 [.slice none 0 0, i64 0] :: M) SelMC.sel (fun w h => (St.pk () h).derive (fun V hV => ⟨hV _ (by simp), .inl rfl, fun j hj => absurd hj (by omega)⟩)) ?_ ?_
   ·
    intro l i x hx gh Mi Ri rdy bsy hbg
    obtain ⟨hi, rfl⟩ := natsI_is hx
    obtain ⟨G1, oa1, c1'⟩ := gh
    refine Imp.unpk2 (fun _ => ?_)
    obtain ⟨klf, hkf⟩ := key_of (g := false) hw he (show i ≤ 1000 by omega)
    obtain ⟨klt, hkt⟩ := key_of (g := true) hw he (show i ≤ 1000 by omega)
    refine Imp.fact (List.mem_cons_self ..) (fun ⟨V0, hV0⟩ => ?_)
    have hpre := hV0.2.2
    clear hV0
    refine Imp.derive (ψ := rowD oa1 4 encO (progA D e who i).1) ?_ (fun V hV => (hV _ (List.mem_cons_self ..)).2.1)
    refine ri_region ?_
    refine oi_lift wideR rfl (fun _ _ h => h) ?_
    refine o_q _ rfl rfl rfl (v_assign rfl rfl) ?_
    refine o_nil ?_
    refine r_then ?_
    refine oi_nil ?_
    with_reducible refine r_then ?_
    refine r_begin hbg ?_
    refine ri_block ?_
    refine ri_seq ?_
    refine ri_region ?_
    refine oi_lift wideR rfl (fun _ _ h => h) ?_
    refine o_q _ rfl rfl rfl (v_lf1 rfl Tryd.underlying69 rfl rfl rfl) ?_
    refine o_nil ?_
    refine r_then ?_
    refine oi_lift wideR rfl (fun _ _ h => h) ?_
    refine o_q _ rfl rfl rfl (v_ldW rfl Tryd.underlying77 rfl inf77 rfl rfl) ?_
    refine o_nil ?_
    refine r_then ?_
    refine oi_lift wideR rfl (fun _ _ h => h) ?_
    refine o_q _ rfl rfl rfl (v_lfW rfl Tryd.underlying113 rfl inf113 rfl rfl) ?_
    refine o_nil ?_
    refine r_then ?_
    refine oi_lift wideR rfl (fun _ _ h => h) ?_
    refine o_q _ rfl rfl rfl (v_move rfl rfl) ?_
    refine o_nil ?_
    refine r_then ?_
    refine oi_lift wideR rfl (fun _ _ h => h) ?_
    refine o_fnF (dayP D uo po uc pc lb mb who e kd g i oa1 c1' hg he (by omega)) rfl rfl rfl rfl rfl SubRC.sub (fun x29 => ?_)
    refine o_nil ?_
    refine r_then ?_
    refine oi_lift wideR rfl (fun _ _ h => h) ?_
    refine o_alloc rfl inf77 rfl rfl rfl rfl rfl (fun b9 => ?_)
    refine o_nil ?_
    refine r_then ?_
    refine oi_lift wideR rfl (fun _ _ h => h) ?_
    refine o_st rfl inf77 rfl rfl rfl rfl rfl rfl rfl rfl ?_
    refine o_nil ?_
    refine r_then ?_
    refine oi_nil ?_
    with_reducible refine r_then ?_
    refine ri_seq ?_
    refine ri_region ?_
    refine oi_lift wideR rfl (fun _ _ h => h) ?_
    refine o_q _ rfl rfl rfl (v_ldW rfl Tryd.underlying77 rfl inf77 rfl rfl) ?_
    refine o_nil ?_
    refine r_then ?_
    refine oi_lift wideR rfl (fun _ _ h => h) ?_
    refine o_q _ rfl rfl rfl (v_move rfl rfl) ?_
    refine o_nil ?_
    refine r_then ?_
    refine oi_lift wideR rfl (fun _ _ h => h) ?_
    refine o_fnF (growP D who e i x29.1 x29.2 hg (by omega)) rfl rfl rfl rfl rfl SubRC.sub (fun x32 => ?_)
    refine o_nil ?_
    refine r_then ?_
    refine oi_lift wideR rfl (fun _ _ h => h) ?_
    refine o_st rfl inf77 rfl rfl rfl rfl rfl rfl rfl rfl ?_
    refine o_nil ?_
    refine r_then ?_
    refine oi_nil ?_
    with_reducible refine r_then ?_
    refine Imp.box_to b9 [.slice x29.1 (progB D e who i).1.length x29.2, i64 (progB D e who i).2] rfl ?_
    refine Imp.box_to b7 [.slice x32.1 (progA D e who (i + 1)).1.length x32.2, i64 (progA D e who (i + 1)).2] rfl ?_
    refine ri_parZ (fun w => w.heap[b9]? = some (.cells ([.slice x29.1 (progB D e who i).1.length x29.2, i64 (progB D e who i).2]).toArray 77 (0, 0)) ∧ w.heap[b7]? = some (.cells ([.slice x32.1 (progA D e who (i + 1)).1.length x32.2, i64 (progA D e who (i + 1)).2]).toArray 77 (0, 0)) ∧ w.heap[b3]? = some (.cells ([i64 who, i64 (e : Int), i64 (kd : Int), .bool g]).toArray 113 (0, 0))) (fun X F w h => ⟨h.bl (List.mem_append_right _ (HasBox.mem (b := b9))), h.bl (List.mem_append_right _ (HasBox.mem (b := b7))), h.fact (φ := boxF b3 113 [i64 who, i64 (e : Int), i64 (kd : Int), .bool g]) (List.mem_append_right _ InR.mem)⟩) [14, 15, 16, 17, 18, 19, 20, 21] 22 wideR (by kernel_rfl) (by kernel_rfl) (by kernel_rfl) (by kernel_rfl) (by kernel_rfl) (by kernel_rfl) mixed (by kernel_rfl) (by rfl) ?_
    refine p_q _ rfl rfl rfl (fun _ _ => v_lf1 rfl Tryd.underlying69 rfl rfl rfl) ?_
    refine p_q _ rfl rfl rfl (fun _ _ => v_nilCheck rfl rfl) ?_
    refine p_q _ rfl rfl rfl (fun _ _ => v_fieldAddr rfl Tryd.underlying108 inf106 rfl rfl rfl rfl) ?_
    refine p_q _ rfl rfl rfl (fun _ _ => v_lf1 rfl Tryd.underlying106 rfl rfl rfl) ?_
    refine p_q _ rfl rfl rfl (fun _ _ => v_fieldAddr rfl Tryd.underlying113 inf3 rfl rfl rfl rfl) ?_
    refine p_q _ rfl rfl rfl (fun _ _ => v_lf1 rfl Tryd.underlying3 rfl rfl rfl) ?_
    refine p_q _ rfl rfl rfl (fun _ _ => v_fieldAddr rfl Tryd.underlying113 inf3 rfl rfl rfl rfl) ?_
    refine p_q _ rfl rfl rfl (fun _ _ => v_lf1 rfl Tryd.underlying3 rfl rfl rfl) ?_
    refine p_q _ rfl rfl rfl (fun _ _ => v_move rfl rfl) ?_
    refine p_q _ rfl rfl rfl (fun _ _ => v_bS rfl Tryd.underlying113 inf113 plt113 rfl rfl rfl (by repeat (first | exact trivial | refine ⟨rfl, ?_⟩)) (by rfl)) ?_
    refine p_q _ rfl rfl rfl (fun _ _ => v_lf1 rfl Tryd.underlying69 rfl rfl rfl) ?_
    refine p_q _ rfl rfl rfl (fun _ _ => v_nilCheck rfl rfl) ?_
    refine p_q _ rfl rfl rfl (fun _ _ => v_fieldAddr rfl Tryd.underlying108 inf106 rfl rfl rfl rfl) ?_
    refine p_q _ rfl rfl rfl (fun _ _ => v_lf1 rfl Tryd.underlying106 rfl rfl rfl) ?_
    refine p_q _ rfl rfl rfl (fun _ _ => v_fieldAddr rfl Tryd.underlying113 inf3 rfl rfl rfl rfl) ?_
    refine p_q _ rfl rfl rfl (fun _ _ => v_lf1 rfl Tryd.underlying3 rfl rfl rfl) ?_
    refine p_q _ rfl rfl rfl (fun _ _ => v_fieldAddr rfl Tryd.underlying113 inf3 rfl rfl rfl rfl) ?_
    refine p_q _ rfl rfl rfl (fun _ _ => v_lf1 rfl Tryd.underlying3 rfl rfl rfl) ?_
    refine p_q _ rfl rfl rfl (fun _ _ => v_move rfl rfl) ?_
    refine p_q _ rfl rfl rfl (fun _ _ => v_bS rfl Tryd.underlying113 inf113 plt113 rfl rfl rfl (by repeat (first | exact trivial | refine ⟨rfl, ?_⟩)) (by rfl)) ?_
    refine p_q _ rfl rfl rfl (fun _ _ => v_ldW rfl Tryd.underlying77 rfl inf77 rfl rfl) ?_
    refine p_q _ rfl rfl rfl (fun _ _ => v_ldW rfl Tryd.underlying77 rfl inf77 rfl rfl) ?_
    refine p_nilF (by simp only [List.nil_append, List.cons_append]; rfl) rfl ⟨⟨_, _, _, rfl, rfl, rfl, rfl, rfl, float_field rfl Tryd.underlying113 inf3 rfl rfl rfl rfl⟩, ⟨_, _, _, rfl, rfl, rfl, rfl, rfl, float_cell (vs := [i64 who, i64 (e : Int), i64 (kd : Int), .bool g]) (B := 113) rfl Tryd.underlying3 rfl rfl rfl (fun _ h => h.2.2)⟩, ⟨_, _, _, rfl, rfl, rfl, rfl, rfl, float_field rfl Tryd.underlying113 inf3 rfl rfl rfl rfl⟩, ⟨_, _, _, rfl, rfl, rfl, rfl, rfl, float_cell (vs := [i64 who, i64 (e : Int), i64 (kd : Int), .bool g]) (B := 113) rfl Tryd.underlying3 rfl rfl rfl (fun _ h => h.2.2)⟩, ⟨_, _, _, rfl, rfl, rfl, rfl, rfl, float_mv rfl rfl⟩, ⟨_, _, _, rfl, rfl, rfl, rfl, rfl, float_build rfl Tryd.underlying113 inf113 plt113 rfl rfl rfl (by repeat (first | exact trivial | refine ⟨rfl, ?_⟩)) (by rfl)⟩, ⟨_, _, _, rfl, rfl, rfl, rfl, rfl, float_load (vs := [.slice x29.1 (progB D e who i).1.length x29.2, i64 (progB D e who i).2]) (B := 77) rfl Tryd.underlying77 rfl inf77 rfl rfl (fun _ h => h.1)⟩, ⟨_, _, _, rfl, rfl, rfl, rfl, rfl, float_load (vs := [.slice x32.1 (progA D e who (i + 1)).1.length x32.2, i64 (progA D e who (i + 1)).2]) (B := 77) rfl Tryd.underlying77 rfl inf77 rfl rfl (fun _ h => h.2.1)⟩, trivial⟩ ?_
    refine f_q rfl ?_
    refine f_q rfl ?_
    refine f_q rfl ?_
    refine f_q rfl ?_
    refine f_q rfl ?_
    refine f_q rfl ?_
    refine f_q rfl ?_
    refine f_q rfl ?_
    refine f_q rfl ?_
    refine f_q rfl ?_
    refine f_q rfl ?_
    refine f_q rfl ?_
    refine f_q rfl ?_
    refine f_q rfl ?_
    refine f_q rfl ?_
    refine f_q rfl ?_
    refine f_q rfl ?_
    refine f_q rfl ?_
    refine f_q rfl ?_
    refine f_q rfl ?_
    refine f_q rfl ?_
    refine f_q rfl ?_
    refine f_nil ?_
    refine oz_lift (fun w h => ⟨h.bl (HasBox.mem (b := b9)), h.bl (HasBox.mem (b := b7)), h.fact (φ := boxF b3 113 [i64 who, i64 (e : Int), i64 (kd : Int), .bool g]) InR.mem⟩) ?_
    refine o_mapEntry (G := G1) (z := (.agg #[.slice none 0 0, i64 0])) keyLaw113 hkf rfl Tryd.underlying106 inf77 rfl rfl rfl rfl rfl rfl (fun v0 st0 => ?_)
    refine o_nil ?_
    refine r_then ?_
    refine oz_lift (fun w h => ⟨h.bl (HasBox.mem (b := b9)), h.bl (HasBox.mem (b := b7)), h.fact (φ := boxF b3 113 [i64 who, i64 (e : Int), i64 (kd : Int), .bool g]) InR.mem⟩) ?_
    refine o_q _ rfl rfl rfl (v_extract rfl rfl rfl) ?_
    refine o_nil ?_
    refine r_then ?_
    refine oz_lift (fun w h => ⟨h.bl (HasBox.mem (b := b9)), h.bl (HasBox.mem (b := b7)), h.fact (φ := boxF b3 113 [i64 who, i64 (e : Int), i64 (kd : Int), .bool g]) InR.mem⟩) ?_
    refine o_entryStore (P := Tryd.prog) (k := 113) (kv := keyV who e i false) (G := G1) rfl rfl rfl rfl rfl rfl ?_
    refine o_nil ?_
    refine r_then ?_
    refine oz_lift (fun w h => ⟨h.bl (HasBox.mem (b := b9)), h.bl (HasBox.mem (b := b7)), h.fact (φ := boxF b3 113 [i64 who, i64 (e : Int), i64 (kd : Int), .bool g]) InR.mem⟩) ?_
    refine o_mapEntry (G := G1.put (keyV who e i false) (vA x29.1 (progB D e who i).1.length x29.2 (progB D e who i).2)) (z := (.agg #[.slice none 0 0, i64 0])) keyLaw113 hkt rfl Tryd.underlying106 inf77 rfl rfl rfl rfl rfl rfl (fun v1 st1 => ?_)
    refine o_nil ?_
    refine r_then ?_
    refine oz_lift (fun w h => ⟨h.bl (HasBox.mem (b := b9)), h.bl (HasBox.mem (b := b7)), h.fact (φ := boxF b3 113 [i64 who, i64 (e : Int), i64 (kd : Int), .bool g]) InR.mem⟩) ?_
    refine o_q _ rfl rfl rfl (v_extract rfl rfl rfl) ?_
    refine o_nil ?_
    refine r_then ?_
    refine oz_lift (fun w h => ⟨h.bl (HasBox.mem (b := b9)), h.bl (HasBox.mem (b := b7)), h.fact (φ := boxF b3 113 [i64 who, i64 (e : Int), i64 (kd : Int), .bool g]) InR.mem⟩) ?_
    refine o_entryStore (P := Tryd.prog) (k := 113) (kv := keyV who e i true) (G := G1.put (keyV who e i false) (vA x29.1 (progB D e who i).1.length x29.2 (progB D e who i).2)) rfl rfl rfl rfl rfl rfl ?_
    refine o_nil ?_
    refine r_then ?_
    refine oz_nil (fun w h => ⟨h.bl (HasBox.mem (b := b9)), h.bl (HasBox.mem (b := b7)), h.fact (φ := boxF b3 113 [i64 who, i64 (e : Int), i64 (kd : Int), .bool g]) InR.mem⟩) ?_
    refine r_nop ?_
    with_reducible refine r_in_normal ?_
    refine Imp.derive (ψ := (fun (gh : Cont × Option Addr × Nat) i V => entF D gh.1 V ∧ rowD gh.2.1 4 encO (progA D e who i).1 V ∧ ∀ j, j < i → ∀ g, ∃ v, gh.1 (keyV who e j g) = some v) (((G1.put (keyV who e i false) (vA x29.1 (progB D e who i).1.length x29.2 (progB D e who i).2)).put (keyV who e i true) (vA x32.1 (progA D e who (i + 1)).1.length x32.2 (progA D e who (i + 1)).2)), x32.1, x32.2) (i + 1)) ?_ (fun V hV => ⟨?_, hV _ (InR.mem (φ := rowD x32.1 4 encO (progA D e who (i + 1)).1)), ?_⟩)
    rotate_left
    ·
     refine entF_put (g := true) (d := i) (entF_put (g := false) (d := i) (hV _ (List.mem_cons_of_mem _ (List.mem_cons_of_mem _ (List.mem_cons_of_mem _ (List.mem_cons_self ..))))).1 ?_) ?_
     ·
      exact hV _ (InR.mem (φ := rowD x29.1 4 encO (progB D e who i).1))
     ·
      exact hV _ (InR.mem (φ := rowD x32.1 4 encO (progA D e who (i + 1)).1))
    ·
     exact fun j hj g => step_all hpre j hj g
    exact r_roundG2 (((G1.put (keyV who e i false) (vA x29.1 (progB D e who i).1.length x29.2 (progB D e who i).2)).put (keyV who e i true) (vA x32.1 (progA D e who (i + 1)).1.length x32.2 (progA D e who (i + 1)).2)), x32.1, x32.2) SelMC.sel SubRC.sub
   ·
    intro gh db
    obtain ⟨G2, oa2, c2⟩ := gh
    rw [natsI_len]
    refine Imp.unpk2 (fun _ => ?_)
    refine Imp.fact (List.mem_cons_self ..) (fun ⟨V0, hV0⟩ => ?_)
    obtain ⟨v1, hG2⟩ := hV0.2.2 kd (by omega) g
    clear hV0
    refine Imp.derive (ψ := entF D G2) ?_ (fun V hV => (hV _ (List.mem_cons_self ..)).1)
    refine Imp.ent (D := D) hG2 (fun oa0 c0 hv1 => ?_)
    subst hv1
    with_reducible refine r_in_normal ?_; refine r_then ?_
    refine r_seq ?_
    refine r_par' 5 mixed (by kernel_rfl) (by rfl) ?_
    refine p_q _ rfl rfl rfl (fun _ _ => v_lf1 rfl Tryd.underlying69 rfl rfl rfl) ?_
    refine p_q _ rfl rfl rfl (fun _ _ => v_nilCheck rfl rfl) ?_
    refine p_q _ rfl rfl rfl (fun _ _ => v_fieldAddr rfl Tryd.underlying108 inf106 rfl rfl rfl rfl) ?_
    refine p_q _ rfl rfl rfl (fun _ _ => v_lf1 rfl Tryd.underlying106 rfl rfl rfl) ?_
    refine p_q _ rfl rfl rfl (fun _ _ => v_lfW rfl Tryd.underlying113 rfl inf113 rfl rfl) ?_
    refine p_nil2 (by simp only [List.nil_append, List.cons_append]; rfl) rfl ?_
    refine f_q rfl ?_
    refine f_q rfl ?_
    refine f_q rfl ?_
    refine f_q rfl ?_
    refine f_q rfl ?_
    refine f_nil ?_
    refine o_q _ rfl rfl rfl (v_cast (v := vA oa0 (accP D e who kd g).1.length c0 (accP D e who kd g).2) (v_lookG G2 (some (vA oa0 (accP D e who kd g).1.length c0 (accP D e who kd g).2)) keyLaw113 hkl rfl Tryd.underlying106 inf77 (z := (.agg #[.slice none 0 0, i64 0])) rfl hG2 rfl rfl) rfl) ?_
    refine o_st rfl inf77 rfl rfl rfl rfl rfl rfl rfl rfl ?_
    refine o_nil ?_
    with_reducible refine r_then ?_
    refine r_ret ?_
    refine Imp.box_to b4 [.slice oa0 (accP D e who kd g).1.length c0, i64 (accP D e who kd g).2] rfl ?_
    exact m_rete [mapG Tryd.prog 113 mb G2] [entF D G2, rowD oa0 4 encO (accP D e who kd g).1] (Rd.one rfl (RdI.cellW Tryd.underlying77 rfl inf77 rfl rfl)) ⟨(G2, oa0, c0), rfl, trivial, rfl, rfl⟩ SelMC.sel SubRC.sub
theorem account_s (G : Cont) (who : Int) (e kd : Nat) (g : Bool) (hg : GoodD D) (hw : -1000 ≤ who ∧ who ≤ 1000) (he : e < 2) (hk : kd ≤ 30) : FnS Tryd.prog 74 [pt lb 0, .agg #[i64 who, i64 (e : Int), i64 (kd : Int), .bool g]] [mapG Tryd.prog 113 mb G] [entF D G, boxF lb 108 [i64 D.people, .slice uo D.dues.length uc, .slice po D.paid.length pc, .map (some mb)], rowD uo 5 encD D.dues, rowD po 4 encP D.paid, rowD (some ⟨0, 0, none⟩) 1 encE ([0, 1] : List Nat)] (fun ed M' R' => ∃ x : Cont × Option Addr × Nat, ed = .returned (vA x.2.1 (accP D e who kd g).1.length x.2.2 (accP D e who kd g).2) ∧ True ∧ M' = [mapG Tryd.prog 113 mb x.1] ∧ R' = [entF D x.1, rowD x.2.1 4 encO (accP D e who kd g).1]) := by
  cases hG : G (keyV who e kd g) with
  | some v0 => exact account_y D uo po uc pc lb mb G who e kd g hg hw he hk v0 hG
  | none => exact account_n D uo po uc pc lb mb G who e kd g hg hw he hk hG
end Go.Proofs.YtpfgiednfjfdmaaDoor


namespace Go.G
variable {P : Program} {W : World} {n : Nat} {D : List Deferred} {L : Tm} {M : List Res} {R : List Fact} {Q : Exit → Act → World → Prop} {o : Oper} {Z : World → Prop}
/-- A call that takes what an earlier one made, and hands back one value. -/
theorem p_takeN {ops : Array Oper} {K : List Spc → Prop} {rest : List Oper} {acc : List Spc} {k : FuncId} {R0 : List Fact} {res : Nat → Res} {v : Value} {xs : List Operand} {args : Nat → List Value} {ts : Array TypeId} {d x : Nat} (j : Nat) {oj : Oper}
    (h : ∀ b, FnS P k (args b) [res b] R0 (fun e M' R' => e = .returned v ∧ M' = [] ∧ R' = [])) (ho : o.op = .call { callee := .value (.func k), args := xs.toArray, argTypes := ts })
    (hoj : ops[j]? = some oj) (hx : oj.dst.getD 1000000 = x) (hxe : ∀ b, evs ((x, pt b 0) :: L) xs = some (args b)) (hsj : acc[j]? = some (Spc.al isPt (fun v => [res (blk v)]) acc.length (fun _ => []))) (hdep : depD ops o j = true) (hg : o.guard = none) (hdst : o.dst = some d) (hd : Nat.blt d n = true) (hs : SubR R R0)
    (hr : ParO P W n M R ops K rest (acc ++ [Spc.s5 (some v) (fun _ => True) j none]) ((d, v) :: L)) : ParO P W n M R ops K (o :: rest) acc L := by
  refine ⟨Spc.s5 (some v) (fun _ => True) j none, by simp [hdst, hd], .inr (.inl ⟨hg, j, oj, _, _, some v, _, none, _, rfl, hoj, hsj, rfl, rfl, hdep, fun u hu => ?_⟩), by simpa [addL, Spc.s5, hdst] using hr⟩
  obtain ⟨b, rfl⟩ := hu
  rw [hx]
  intro Mx Rx a w h1 h2
  have h2 : St W (Mx ++ ([res b] ++ M)) (Rx ++ R) w := h2
  rw [exec_call [] [] (xs := xs) ho rfl (h1.evs (hxe b)) (h b).enter]
  have h3 : St W ([res b] ++ (Mx ++ M)) (R0 ++ (Rx ++ R)) w := (h2.perm (by
    rw [← List.append_assoc, ← List.append_assoc]
    exact List.perm_append_comm.append_right M)).both (fun φ hφ => List.mem_append_right _ (hs φ hφ))
  rw [List.nil_append, List.append_nil]
  refine ⟨rfl, ((h b).calls W (Mx ++ M) (Rx ++ R) w h3).mono ?_⟩
  rintro e w' ⟨M1, R1, ⟨rfl, rfl, rfl⟩, hw'⟩
  exact .inl ⟨v, rfl, rfl, hw'.weak (fun φ hφ => List.mem_append_right _ (List.mem_append_right _ hφ))⟩
/-- .. of which something holds, and facts for good. -/
theorem p_takeG {ops : Array Oper} {K : List Spc → Prop} {rest : List Oper} {acc : List Spc} {k : FuncId} {R0 : List Fact} {res : Nat → Res} {pv : Value → Prop} {fc : Value → List Fact} {xs : List Operand} {args : Nat → List Value} {ts : Array TypeId} {d x : Nat} (j : Nat) {oj : Oper}
    (h : ∀ b, FnS P k (args b) [res b] R0 (fun e M' R' => ∃ v, e = .returned v ∧ pv v ∧ M' = [] ∧ R' = fc v)) (ho : o.op = .call { callee := .value (.func k), args := xs.toArray, argTypes := ts })
    (hoj : ops[j]? = some oj) (hx : oj.dst.getD 1000000 = x) (hxe : ∀ b, evs ((x, pt b 0) :: L) xs = some (args b)) (hsj : acc[j]? = some (Spc.al isPt (fun v => [res (blk v)]) acc.length (fun _ => []))) (hdep : depD ops o j = true) (hg : o.guard = none) (hdst : o.dst = some d) (hd : Nat.blt d n = true) (hs : SubR R R0)
    (hr : ParO P W n M R ops K rest (acc ++ [Spc.s5 none pv j none fc]) L) : ParO P W n M R ops K (o :: rest) acc L := by
  refine ⟨Spc.s5 none pv j none fc, by simp [hdst, hd], .inr (.inl ⟨hg, j, oj, _, _, none, _, none, _, rfl, hoj, hsj, rfl, rfl, hdep, fun u hu => ?_⟩), by simpa [addL, Spc.s5] using hr⟩
  obtain ⟨b, rfl⟩ := hu
  rw [hx]
  intro Mx Rx a w h1 h2
  have h2 : St W (Mx ++ ([res b] ++ M)) (Rx ++ R) w := h2
  rw [exec_call [] [] (xs := xs) ho rfl (h1.evs (hxe b)) (h b).enter]
  have h3 : St W ([res b] ++ (Mx ++ M)) (R0 ++ (Rx ++ R)) w := (h2.perm (by
    rw [← List.append_assoc, ← List.append_assoc]
    exact List.perm_append_comm.append_right M)).both (fun φ hφ => List.mem_append_right _ (hs φ hφ))
  rw [List.nil_append, List.append_nil]
  refine ⟨rfl, ((h b).calls W (Mx ++ M) (Rx ++ R) w h3).mono ?_⟩
  rintro e w' ⟨M1, R1, ⟨v, rfl, hv, rfl, rfl⟩, hw'⟩
  refine .inl ⟨v, rfl, hv, hw'.weak (fun φ hφ => ?_)⟩
  rcases List.mem_append.1 hφ with hφ | hφ
  · exact List.mem_append_left _ hφ
  · exact List.mem_append_right _ (List.mem_append_right _ hφ)
theorem f_takeG {X : Act → World → Prop} {os : List Oper} {ss : List Spc} {pv : Value → Prop} {fc : Value → List Fact} {j d : Nat} (hdst : o.dst = some d) (h : ∀ v, pv v → Fin W n D X os ss ((d, v) :: L) M (fc v ++ R)) : Fin W n D X (o :: os) (Spc.s5 none pv j none fc :: ss) L M R := by
  intro v hv
  rw [hdst]; exact h v hv
/-- An operation that uses what an earlier one has come to. -/
theorem p_depU {ops : Array Oper} {K : List Spc → Prop} {rest : List Oper} {acc : List Spc} {d x : Nat} {sj : Spc} {pv : Value → Prop} {fc : Value → List Fact} (j : Nat) (f : Value → Value) {oj : Oper} (hoj : ops[j]? = some oj) (hx : oj.dst.getD 1000000 = x) (hsj : acc[j]? = some sj) (hdj : sj.det = none) (hdep : depD ops o j = true) (hg : o.guard = none) (hdst : o.dst = some d) (hd : Nat.blt d n = true)
    (hp : ∀ u, sj.pval u → pv (f u) ∧ ∀ φ ∈ fc (f u), φ ∈ sj.fct u) (ho : ∀ u, sj.pval u → ∀ Mx Rx, OpQ P W n ((x, u) :: L) (Mx ++ M) (Rx ++ (sj.fct u ++ R)) o (f u)) (h : ParO P W n M R ops K rest (acc ++ [Spc.g pv (fun _ => []) fc]) L) : ParO P W n M R ops K (o :: rest) acc L := by
  subst hx
  refine ⟨Spc.g pv (fun _ => []) fc, by simp [hdst, hd], .inl ⟨rfl, .inr (.inr (.inl ⟨hg, j, oj, sj, hoj, hsj, hdj, hdep, fun u hu => ?_⟩))⟩, by simpa [addL, Spc.g] using h⟩
  intro Mx Rx a w g1 g3
  have g3 : St W (Mx ++ M) (Rx ++ (sj.fct u ++ R)) w := g3
  have hr := OpG.of_q (M := M) (R := sj.fct u ++ R) (v := f u) (ho u hu) Mx Rx a w g1 g3
  generalize (execOp a.eval o).run P w = r at hr
  have conv : ∀ v w', (Spc.q (f u)).val v → St W ((Spc.q (f u)).rs v ++ (Mx ++ M)) ((Spc.q (f u)).fs v ++ (Rx ++ (sj.fct u ++ R))) w' →
      (Spc.g pv (fun _ => []) fc).val v ∧ St W ((Spc.g pv (fun _ => []) fc).rs v ++ (Mx ++ M)) ((Spc.g pv (fun _ => []) fc).fs v ++ (Rx ++ (sj.fct u ++ R))) w' := by
    intro v w' hv hst
    have hv : v = f u := hv
    subst hv
    refine ⟨(hp u hu).1, St.weak hst fun φ hφ => ?_⟩
    have hst : True := trivial
    show φ ∈ [] ++ (Rx ++ (sj.fct u ++ R))
    rcases List.mem_append.1 hφ with h | h
    · have h : φ ∈ fc (f u) := h
      exact List.mem_append_right _ (List.mem_append_right _ (List.mem_append_left _ ((hp u hu).2 φ h)))
    · exact h
  cases r with
  | ok x w' =>
    cases x <;> simp only [upG] at hr ⊢
    · exact conv _ _ hr.1 hr.2
    · exact conv _ _ hr.1 hr.2
    · obtain ⟨rfl, hc⟩ := hr
      refine ⟨rfl, hc.mono ?_⟩
      rintro e w'' (⟨v, rfl, h5, h6⟩ | ⟨c, rfl, hc1, _⟩)
      · exact .inl ⟨v, rfl, (conv _ _ h5 h6).1, (conv _ _ h5 h6).2⟩
      · cases hc1
  | halt x w' => exact hr.elim
theorem frameY_at {free tail : List Oper} {ss : List Spc} (hpb : parB free tail = true) (hl : ss.length = free.length) (hfr : ∀ o ∈ free, look L (o.dst.getD 1000000) = none) (hL : LateOK (free ++ tail).toArray ss) (hab : ∀ (i : Nat) (s : Spc) (c : List PanicEntry), ss[i]? = some s → s.ab = some c → Imp W n D L M R (Q (.panic c)))
    (hstep : ∀ i o s, free[i]? = some o → ss[i]? = some s → Step1 P W n M R (free ++ tail).toArray ss i o s (detL (free.take i) (ss.take i) L))
    {listed : Array Bool} {a : Act} {w : World} (hJ : J W n D L M R (free ++ tail).toArray free ss listed a w) {i : Nat} {o : Oper} (ho : free[i]? = some o) (hp : ∀ e ∈ o.after, Region.binds .any e = true → listed.getD e.on false = true) :
    ∃ a' g, (∀ t, (∀ j p, free[j]? = some p → p.dst.getD 1000000 = t → j < i → listed.getD j false = true) → a'.tmps[t]? = a.tmps[t]?) ∧ FSat n (detL (free.take i) (ss.take i) L) a' ∧ execOp a.eval o = execOp a'.eval o ∧ (∀ i o s, free[i]? = some o → ss[i]? = some s → listed.getD i false = true → s.val (g i) ∧ (∀ d, o.dst = some d → a.tmps[d]? = some (g i))) ∧ St W (resOf ss listed g free.length ++ M) (fctOf ss listed g free.length ++ R) w := by
  simp only [parB, Bool.and_eq_true] at hpb
  obtain ⟨⟨⟨⟨hns, hfree⟩, hnd0⟩, hback⟩, htail⟩ := hpb
  have hnd := injB_sound hnd0
  have hmN : free.length ≤ (free ++ tail).length := by simp
  have hmask : ∀ listed', Closed (free ++ tail).toArray listed' → ∀ i o, free.length ≤ i → (free ++ tail).toArray[i]? = some o → (∀ e ∈ o.after, Region.binds .any e = true → listed'.getD e.on false = true) → ∀ j, j < i → listed'.getD j false = true := by
    intro listed' hc i o hi ho hp j hj
    have hlt : i < (free ++ tail).length := by simpa using (Array.getElem?_eq_some_iff.1 ho).1
    have h1 := List.all_eq_true.1 htail i (List.mem_range.2 hlt)
    simp only [Bool.or_eq_true] at h1
    rcases h1 with h1 | h1
    · have : i < free.length := by simpa using h1
      omega
    · have h2 := List.all_eq_true.1 h1 j (List.mem_range.2 hj)
      exact (masks_sound hc (free ++ tail) [] (fun j => by simp) (fun i hi => by simp at hi)).1 i o (Nat.zero_le _) ho hp j h2
  have hbk : ∀ i o, (free ++ tail).toArray[i]? = some o → ∀ e ∈ o.after, Region.binds .any e = true → e.on < i := by
    intro i o ho e he hbi
    have hlt : i < (free ++ tail).length := by simpa using (Array.getElem?_eq_some_iff.1 ho).1
    have := List.all_eq_true.1 hback i (List.mem_range.2 hlt)
    rw [show (free ++ tail)[i]? = some o from by simpa using ho] at this
    have := Array.all_eq_true_iff_forall_mem.1 this e he
    simpa [hbi] using this
  have him : i < free.length := (List.getElem?_eq_some_iff.1 ho).1
  have hoi : (free ++ tail).toArray[i]? = some o := by
    rw [List.getElem?_toArray, List.getElem?_append_left him]; exact ho
  have hsi : i < ss.length := by omega
  have hs : ss[i]? = some ss[i] := List.getElem?_eq_getElem hsi
  have st := hstep i o ss[i] ho hs
  obtain ⟨fops, fgd⟩ := freeB_spec hfree ho
  obtain ⟨a', f1, f2, f3⟩ := mk_frame (n := n) (free.take i) (ss.take i) hJ.frame (fun j p sj e1 e2 => by
    have hji : j < i := by have := (List.getElem?_eq_some_iff.1 e1).1; simp at this; omega
    rw [List.getElem?_take, if_pos hji] at e1 e2
    exact (hstep j p sj e1 e2).lt) (hnd.take i)
  obtain ⟨g, hg, hS⟩ := hJ.vals
  have hag : ∀ t, (∀ j p, free[j]? = some p → p.dst.getD 1000000 = t → j < i → listed.getD j false = true) → a'.tmps[t]? = a.tmps[t]? := by
    intro t ht
    by_cases hex2 : ∃ (j : Nat) (p : Oper) (s : Spc) (v : Value), (free.take i)[j]? = some p ∧ (ss.take i)[j]? = some s ∧ s.det = some v ∧ p.dst.getD 1000000 = t
    · obtain ⟨j, p, s, v, e1, e2, e3, e4⟩ := hex2
      have hji : j < i := by have := (List.getElem?_eq_some_iff.1 e1).1; simp at this; omega
      have e1' : free[j]? = some p := by rw [List.getElem?_take, if_pos hji] at e1; exact e1
      have e2' : ss[j]? = some s := by rw [List.getElem?_take, if_pos hji] at e2; exact e2
      have hlj := ht j p e1' e4 hji
      obtain ⟨k1, k2⟩ := hg j p s e1' e2' hlj
      have hgv : g j = v := by simpa [Spc.val, e3] using k1
      obtain ⟨dj, hdj⟩ : ∃ d, p.dst = some d := by
        have := (hstep j p s e1' e2').lt
        cases hod : p.dst with
        | none => rw [hod, e3] at this; simp at this
        | some d => exact ⟨d, rfl⟩
      rw [← e4, f3 j p s v e1 e2 e3, show p.dst.getD 1000000 = dj from by simp [hdj], k2 dj hdj, hgv]
    · exact f2 t (fun j p s v e1 e2 e3 e4 => hex2 ⟨j, p, s, v, e1, e2, e3, e4⟩)
  have hev : ∀ x ∈ o.op.operands, a.eval x = a'.eval x := by
    intro x hx
    cases x with
    | tmp t =>
      have := hag t (fun j p e1 e2 _ => by
        obtain ⟨e, he, hbi, hon⟩ := depOn_spec (fops j p e1 (by
          rw [e2]; unfold tmpsOf
          exact List.mem_filterMap.2 ⟨.tmp t, by simpa using hx, rfl⟩))
        have := hp e he hbi
        rwa [hon] at this)
      simp [Act.eval, this]
    | const v => rfl
    | global v => rfl
    | func v => rfl
  have hex3 : execOp a.eval o = execOp a'.eval o := execOp_congr o (Region.noSelect_spec hns i o · · hoi) hev
  exact ⟨a', g, hag, f1, hex3, hg, hS⟩
/-- Those that may be drawn late: what they come to hangs on what stays, and on one that has been carried out. -/
def FlY (Z : World → Prop) (P : Program) (n : Nat) (L : Tm) (free : List Oper) (ss : List Spc) : List Nat → Prop
  | [] => True
  | i :: r => (∃ (o : Oper) (s : Spc) (d : Nat), free[i]? = some o ∧ ss[i]? = some s ∧ o.guard = none ∧ o.dst = some d ∧ Nat.blt d n = true ∧ s.of = none ∧ s.pre = [] ∧ (∀ u, s.rs u = []) ∧
      ((∃ v, s = Spc.q v ∧ ∀ a, FSat n (detL (free.take i) (ss.take i) L) a → ∀ w, Z w → (execOp a.eval o).run P w = .ok (.value v) w) ∨
       (s.det = none ∧ ∃ (j : Nat) (oj : Oper) (sj : Spc) (f : Value → Value), free[j]? = some oj ∧ ss[j]? = some sj ∧ sj.det = none ∧ depOn o j = true ∧ oj.dst.isSome = true ∧
         ∀ u, sj.pval u → s.pval (f u) ∧ (∀ φ ∈ s.fct (f u), φ ∈ sj.fct u) ∧ ∀ a, FSat n ((oj.dst.getD 1000000, u) :: detL (free.take i) (ss.take i) L) a → ∀ w, Z w → (execOp a.eval o).run P w = .ok (.value (f u)) w))) ∧ FlY Z P n L free ss r
theorem FlY.at {free : List Oper} {ss : List Spc} : ∀ {fl : List Nat}, FlY Z P n L free ss fl → ∀ i ∈ fl, (∃ (o : Oper) (s : Spc) (d : Nat), free[i]? = some o ∧ ss[i]? = some s ∧ o.guard = none ∧ o.dst = some d ∧ Nat.blt d n = true ∧ s.of = none ∧ s.pre = [] ∧ (∀ u, s.rs u = []) ∧
      ((∃ v, s = Spc.q v ∧ ∀ a, FSat n (detL (free.take i) (ss.take i) L) a → ∀ w, Z w → (execOp a.eval o).run P w = .ok (.value v) w) ∨
       (s.det = none ∧ ∃ (j : Nat) (oj : Oper) (sj : Spc) (f : Value → Value), free[j]? = some oj ∧ ss[j]? = some sj ∧ sj.det = none ∧ depOn o j = true ∧ oj.dst.isSome = true ∧
         ∀ u, sj.pval u → s.pval (f u) ∧ (∀ φ ∈ s.fct (f u), φ ∈ sj.fct u) ∧ ∀ a, FSat n ((oj.dst.getD 1000000, u) :: detL (free.take i) (ss.take i) L) a → ∀ w, Z w → (execOp a.eval o).run P w = .ok (.value (f u)) w)))
  | [], _, _, h => by cases h
  | j :: r, ⟨h1, h2⟩, i, hi => by
    rcases List.mem_cons.1 hi with rfl | hi
    · exact h1
    · exact FlY.at h2 i hi
theorem floatY_all {fl : List Nat} {m : Nat} {l : List Oper} (hZ : ∀ X F w, St W (X ++ M) (F ++ R) w → Z w) (hml : m ≤ l.length) {ss : List Spc} (hpb : parB ((floatL fl m l).take m) ((floatL fl m l).drop m) = true) (hlen : ss.length = ((floatL fl m l).take m).length) (hfr : ∀ o ∈ (floatL fl m l).take m, look L (o.dst.getD 1000000) = none) (hL : LateOK (floatL fl m l).toArray ss)
    (hab : ∀ (i : Nat) (s : Spc) (c : List PanicEntry), ss[i]? = some s → s.ab = some c → Imp W n D L M R (NoP Q (.panic c)))
    (hstep : ∀ i o s, ((floatL fl m l).take m)[i]? = some o → ss[i]? = some s → Step1 P W n M R (floatL fl m l).toArray ss i o s (detL (((floatL fl m l).take m).take i) (ss.take i) L))
    (hfin : Fin W n D (wpListZ Z P (floatL fl m l).toArray (NoP Q) ((floatL fl m l).drop m)) ((floatL fl m l).take m) ss L M R)
    (hfl : FlY Z P n L ((floatL fl m l).take m) ss fl) (hns : Region.noSelect l.toArray = true) (hbk : backB l = true) (htl : tailF fl (masks l []) m l.length = true) (hfs : freesB l fl = true) :
    ∀ (fuel : Nat) (listed : Array Bool) (a : Act) (w : World), J W n D L M R (floatL fl m l).toArray ((floatL fl m l).take m) ss listed a w → unl l.length listed ≤ fuel → wpAnyZ Z P l.toArray (NoP Q) fuel listed a w := by
  have hflat := hfl.at
  have hFat := floatL_at fl m l
  have hFlen := floatL_len fl m l
  generalize hF : floatL fl m l = F at *
  have hsplit : F.take m ++ F.drop m = F := List.take_append_drop m F
  have hmF : (F.take m).length = m := by rw [List.length_take]; omega
  have hlow : ∀ j, j < m → F[j]? = l[j]? := fun j hj => by
    rw [hFat j]; cases l[j]? with
    | none => rfl
    | some o => simp [hj]
  have hfree : ∀ j, j < m → (F.take m)[j]? = l[j]? := fun j hj => by rw [List.getElem?_take, if_pos hj, hlow j hj]
  have hlate : LateOK (F.take m ++ F.drop m).toArray ss := by rw [hsplit]; exact hL
  have hst' : ∀ i o s, (F.take m)[i]? = some o → ss[i]? = some s → Step1 P W n M R (F.take m ++ F.drop m).toArray ss i o s (detL ((F.take m).take i) (ss.take i) L) := by rw [hsplit]; exact hstep
  have hclosed : ∀ listed, Closed F.toArray listed → Closed l.toArray listed := fun listed hc j o ho hj e he hb => by
    have ho : l[j]? = some o := by simpa using ho
    refine hc j (if j < m then o else addE fl o) (by rw [List.getElem?_toArray, hFat, ho]; rfl) hj e ?_ hb
    split
    · exact he
    · unfold addE; exact Array.mem_append_left _ he
  have hback : ∀ i o, l[i]? = some o → ∀ e ∈ o.after, Region.binds .any e = true → e.on < i := by
    intro i o ho e he hbi
    have hlt : i < l.length := (List.getElem?_eq_some_iff.1 ho).1
    have := List.all_eq_true.1 hbk i (List.mem_range.2 hlt)
    rw [ho] at this
    have := Array.all_eq_true_iff_forall_mem.1 this e he
    simpa [hbi] using this
  intro fuel
  induction fuel with
  | zero =>
    intro listed a w hJ hu
    have hsz : listed.size = l.length := by rw [hJ.size]; simp [hFlen]
    have hall : ∀ i ∈ fl, listed.getD i false = true := fun i hi => by
      obtain ⟨o, v, d, ho, _⟩ := hflat i hi
      have hi' : i < m := by have := (List.getElem?_eq_some_iff.1 ho).1; omega
      cases h : listed.getD i true with
      | true =>
        have : i < listed.size := by omega
        simp [this] at h ⊢; exact h
      | false =>
        have := unl_set (N := l.length) (i := i) (by omega) hsz h
        omega
    refine floatZ_any (fl := fl) (m := m) 0 listed a w hall ?_
    rw [hF, ← hsplit]
    replace hJ : J W n D L M R (F.take m ++ F.drop m).toArray (F.take m) ss listed a w := by rw [hsplit]; exact hJ
    exact parZ_any hZ hpb hlen hfr hlate hab hst' (by rw [hsplit]; exact hfin) 0 listed a w hJ (by rw [hsplit, hFlen]; exact hu)
  | succ fuel ih =>
    intro listed a w hJ hu
    have hsz : listed.size = l.length := by rw [hJ.size]; simp [hFlen]
    have hboth : ∀ j, j < l.length → listed.getD j true = listed.getD j false := fun j hj => by
      have : j < listed.size := by omega
      simp [this]
    by_cases hall : ∀ i ∈ fl, listed.getD i false = true
    · refine floatZ_any (fl := fl) (m := m) (fuel + 1) listed a w hall ?_
      rw [hF, ← hsplit]
      replace hJ : J W n D L M R (F.take m ++ F.drop m).toArray (F.take m) ss listed a w := by rw [hsplit]; exact hJ
      exact parZ_any hZ hpb hlen hfr hlate hab hst' (by rw [hsplit]; exact hfin) (fuel + 1) listed a w hJ (by rw [hsplit, hFlen]; exact hu)
    · by_cases hrd : ∃ i ∈ fl, i ∈ Region.ready .any l.toArray listed
      · obtain ⟨i, hi, hir⟩ := hrd
        obtain ⟨o, s, d, ho, hs, hg, hdst, hdn, hof, hpre0, hrs0, hcase⟩ := hflat i hi
        have him : i < m := by have := (List.getElem?_eq_some_iff.1 ho).1; omega
        have hol : l[i]? = some o := by rw [← hfree i him]; exact ho
        obtain ⟨h0, o', ho', hp⟩ := mem_ready.1 hir
        have ho' : l[i]? = some o' := by simpa using ho'
        rw [hol] at ho'; cases ho'
        have hJ' : J W n D L M R (F.take m ++ F.drop m).toArray (F.take m) ss listed a w := by rw [hsplit]; exact hJ
        obtain ⟨a', g, hag, f1, hex, hgv, hS⟩ := frameY_at hpb hlen hfr hlate hab hst' hJ' ho hp
        have hirF : i ∈ Region.ready .any (F.take m ++ F.drop m).toArray listed := by
          rw [hsplit]
          exact mem_ready.2 ⟨h0, o, by rw [List.getElem?_toArray, hlow i him]; exact hol, hp⟩
        have hnd : Inj (F.take m) := by
          simp only [parB, Bool.and_eq_true] at hpb
          exact injB_sound hpb.1.1.2
        obtain ⟨v, hsv, hfv, hpure⟩ : ∃ v, s.val v ∧ (∀ φ ∈ s.fs v, φ ∈ fctOf ss listed g (F.take m).length) ∧ ∀ w, Z w → (execOp a'.eval o).run P w = .ok (.value v) w := by
          rcases hcase with ⟨v, rfl, hv⟩ | ⟨hsd, j, oj, sj, f, hoj, hsj, hdj, hdep, hsome, hf⟩
          · exact ⟨v, rfl, fun φ hφ => (List.not_mem_nil hφ).elim, hv a' f1⟩
          · obtain ⟨e, he, hbi, hon⟩ := depOn_spec hdep
            have hlj : listed.getD j false = true := by have := hp e he hbi; rwa [hon] at this
            obtain ⟨k1, k2⟩ := hgv j oj sj hoj hsj hlj
            have hpv : sj.pval (g j) := by simpa [Spc.val, hdj] using k1
            obtain ⟨dj, hdj'⟩ := Option.isSome_iff_exists.1 hsome
            have hka : a'.tmps[oj.dst.getD 1000000]? = some (g j) := by
              rw [hag (oj.dst.getD 1000000) (fun j' p e1 e2 _ => by
                have := hnd j j' _ _ hoj e1 hsome e2.symm
                rw [← this]; exact hlj)]
              rw [show oj.dst.getD 1000000 = dj from by simp [hdj']]
              exact k2 dj hdj'
            obtain ⟨q1, q2, q3⟩ := hf (g j) hpv
            refine ⟨f (g j), by simpa [Spc.val, hsd] using q1, fun φ hφ => ?_, q3 a' (f1.add hka)⟩
            unfold fctOf
            refine List.mem_flatMap.2 ⟨j, List.mem_range.2 (List.getElem?_eq_some_iff.1 hoj).1, ?_⟩
            rw [hlj, hsj]
            exact q2 φ hφ
        have hy : YieldsZ Z P l.toArray o v a := ⟨by simp [Region.wanted, hg], fun w hz => by rw [hex]; exact hpure w hz⟩
        refine wpAnyZ_first (i := i) (oi := o) (v := v) (by simpa using hol) (Region.noSelect_spec hns) fuel listed a w (freeAt_spec hol (List.all_eq_true.1 hfs i hi) hp) hir hy ?_
        · have hset : (resOf ss listed g (F.take m).length ++ M).Perm (restOf ss listed g (F.take m).length i ++ M) := by
            refine List.Perm.append_right M (List.Perm.of_eq ?_)
            refine flatMap_same _ _ _ fun j hj => ?_
            by_cases e : j = i
            · subst e
              have : listed.getD j false = false := by rw [← hboth j (by omega)]; exact h0
              rw [if_pos rfl, this, hs]; exact hpre0
            · rw [if_neg e]
          have hS3 : St W (s.rs v ++ (restOf ss listed g (F.take m).length i ++ M)) (s.fs v ++ (fctOf ss listed g (F.take m).length ++ R)) w := by
            rw [hrs0 v]
            refine (hS.perm hset).weak fun φ hφ => ?_
            rcases List.mem_append.1 hφ with hφ | hφ
            · exact List.mem_append_left _ (hfv φ hφ)
            · exact hφ
          have hJn := hJ.next (v := v) (o := o) (s := s) (i := i) (w' := w) hnd hfr (by simp [hFlen, hmF]; omega) (by rw [← hsplit]; exact hirF) (by rw [List.getElem?_toArray, hlow i him]; exact hol) ho hs (by rw [hdst]; exact hdn) hsv hof hL hgv hS3
          refine ih _ _ _ hJn ?_
          have := unl_set (N := l.length) (i := i) (by omega) hsz h0
          omega
      · have hex : ∃ i, (i ∈ fl ∧ listed.getD i false = false) := by
          apply Classical.byContradiction
          intro hne
          refine hall fun i hi => ?_
          cases h : listed.getD i false
          · exact absurd ⟨i, hi, h⟩ hne
          · rfl
        obtain ⟨k, ⟨hk, hkf⟩, hkm⟩ := least hex
        obtain ⟨ok, vk, dk, hok, _⟩ := hflat k hk
        have hkm' : k < m := by have := (List.getElem?_eq_some_iff.1 hok).1; omega
        have hokl : l[k]? = some ok := by rw [← hfree k hkm']; exact hok
        have hlt : ∀ j, j ∈ Region.ready .any l.toArray listed → j < m := by
          intro j hj
          rcases Nat.lt_or_ge j m with h | h
          · exact h
          · exfalso
            obtain ⟨j0, o, hoj, hp⟩ := mem_ready.1 hj
            have hoj' : l[j]? = some o := by simpa using hoj
            have hjl : j < l.length := (List.getElem?_eq_some_iff.1 hoj').1
            have h1 := List.all_eq_true.1 htl j (List.mem_range.2 hjl)
            simp only [Bool.or_eq_true] at h1
            have hnon : ∀ t, t < j → t ∉ fl → listed.getD t false = true := fun t ht hnf => by
              rcases h1 with h1 | h1
              · have : j < m := by simpa using h1
                omega
              · have h2 := List.all_eq_true.1 h1 t (List.mem_range.2 ht)
                simp only [Bool.or_eq_true, List.contains_eq_mem, decide_eq_true_eq] at h2
                rcases h2 with h2 | h2
                · exact absurd h2 hnf
                · exact (masks_sound (ops := l.toArray) (hclosed listed hJ.closed) l [] (fun j => by simp) (fun i hi => by simp at hi)).1 j o (Nat.zero_le _) hoj hp t h2
            refine hrd ⟨k, hk, mem_ready.2 ⟨by rw [hboth k (by omega)]; exact hkf, ok, by simpa using hokl, fun e he hb => ?_⟩⟩
            have hek := hback k ok hokl e he hb
            by_cases hef : e.on ∈ fl
            · cases h : listed.getD e.on false
              · exact absurd ⟨hef, h⟩ (hkm e.on hek)
              · rfl
            · exact hnon e.on (by omega) hef
        refine ⟨(by obtain ⟨g, _, hS⟩ := hJ.vals; exact hZ _ _ w hS), fun hr => ?_, fun j hj => ?_⟩
        · exfalso
          have hex2 : ∃ t, t < l.length ∧ listed.getD t false = false := ⟨k, by omega, hkf⟩
          obtain ⟨t, ⟨ht, htf⟩, htm⟩ := least hex2
          have : t ∈ Region.ready .any l.toArray listed := mem_ready.2 ⟨by rw [hboth t ht]; exact htf, l[t], by simp, fun e he hb => by
            have hlt2 := hback t l[t] (List.getElem?_eq_getElem ht) e he hb
            cases h : listed.getD e.on false
            · exact absurd ⟨by omega, h⟩ (htm e.on hlt2)
            · rfl⟩
          rw [hr] at this; cases this
        · have hjm := hlt j hj
          obtain ⟨j0, o, hoj, hp⟩ := mem_ready.1 hj
          have hoj' : l[j]? = some o := by simpa using hoj
          refine float_op (fl := fl) (m := m) ?_
          rw [hF, ← hsplit]
          replace hJ : J W n D L M R (F.take m ++ F.drop m).toArray (F.take m) ss listed a w := by rw [hsplit]; exact hJ
          refine par_step hpb hlen hfr hlate hab hst' hJ (mem_ready.2 ⟨j0, o, ?_, hp⟩) (by omega) _ fun a' w' hJ' => ih _ _ _ (by rw [hsplit] at hJ'; exact hJ') ?_
          · rw [List.getElem?_toArray, hsplit, hlow j hjm]; exact hoj'
          · have := unl_set (N := l.length) (i := j) (by have := (List.getElem?_eq_some_iff.1 hoj').1; omega) hsz j0
            omega
theorem r_parY {id : Nat} {l : List Oper} (Z : World → Prop) (hZ : ∀ X F w, St W (X ++ M) (F ++ R) w → Z w) (fl : List Nat) (m : Nat) (hml : Nat.ble m l.length = true) (hns : Region.noSelect l.toArray = true) (hbk : backB l = true) (htl : tailF fl (masks l []) m l.length = true) (hfs : freesB l fl = true)
    (hm : P.follows .mixedOrders = true) (hpb : parB ((floatL fl m l).take m) ((floatL fl m l).drop m) = true) (hfr : freshB L ((floatL fl m l).take m) = true)
    (h : ParO P W n M R (floatL fl m l).toArray (fun ss => FlY Z P n L ((floatL fl m l).take m) ss fl ∧ preOf ss = [] ∧ lateX (floatL fl m l).toArray ss = true ∧ Fin W n D (wpListZ Z P (floatL fl m l).toArray (NoP Q) ((floatL fl m l).drop m)) ((floatL fl m l).take m) ss L M R) ((floatL fl m l).take m) [] L) : Imp W n D L M R ((Code.region id l.toArray true).wp P Q) := by
  have hml : m ≤ l.length := by simpa using hml
  intro a w h1 h2 h3
  refine Code.wp_mono (Q := NoP Q) (fun e a' w' he => ?_) ?_
  · cases e with
    | normal => exact he
    | _ => exact he.elim
  refine wp_region_any hm ?_
  obtain ⟨ss, hl, ⟨hsi, hpre, hlx, hfin⟩, hs⟩ := ParO.out ((floatL fl m l).take m) [] L h
  rw [List.nil_append] at hsi hpre hlx hfin
  have hLB : lateB (floatL fl m l).toArray ss 0 ss = true := by simp only [lateX, Bool.and_eq_true] at hlx; exact hlx.1
  have hlk : ∀ o ∈ (floatL fl m l).take m, look L (o.dst.getD 1000000) = none := fun o ho => by
    have := List.all_eq_true.1 hfr o ho
    simpa using this
  refine (floatY_all hZ hml hpb hl hlk (lateOK_of hLB) (fun k s c e1 e2 => (lateX_ab hlx k s c e1 e2).elim) (fun k o s e1 e2 => by
    have := hs k o s e1 e2
    rw [List.nil_append, List.length_nil, Nat.zero_add] at this
    exact this) hfin hsi hns hbk htl hfs _ _ _ _ ⟨?_, ?_, ?_, h1, h2, fun _ => undef, ?_, ?_⟩ ?_).any
  · simp [floatL_len]
  · intro j o _ hj
    rw [rep_false] at hj; cases hj
  · intro t _ ht
    have : t < l.length := by simpa [floatL_len] using ht
    simp [this]
  · intro i o s e1 _ hj
    rw [rep_false] at hj; cases hj
  · have e1 : resOf ss (Array.replicate l.toArray.size false) (fun _ => undef) ((floatL fl m l).take m).length = [] := by
      rw [← hpre, ← preOf_range, hl]
      refine flatMap_same _ _ _ fun j hj => ?_
      rw [rep_false]; rfl
    have e2 : ∀ k, fctOf ss (Array.replicate l.toArray.size false) (fun _ => undef) k = [] := by
      intro k
      unfold fctOf
      induction k with
      | zero => rfl
      | succ k ih => rw [List.range_succ, List.flatMap_append, ih, List.nil_append, List.flatMap_cons, List.flatMap_nil, List.append_nil, rep_false]; rfl
    rw [e1, e2]
    exact h3.heap rfl rfl rfl rfl
  · have := unl_tail (N := l.length) (m := 0) (listed := Array.replicate l.length false) (fun i hi => by omega)
    simpa using this
/-- What waits for one that panics is never carried out: it hands back nothing. -/
theorem p_deadS {ops : Array Oper} {K : List Spc → Prop} {rest : List Oper} {acc : List Spc} {sj : Spc} (j : Nat) {oj : Oper} (hoj : ops[j]? = some oj) (hsj : acc[j]? = some sj) (hdj : sj.det = none) (hF : ∀ u, ¬ sj.pval u) (hdep : depD ops o j = true) (hg : o.guard = none) (hdst : o.dst = none)
    (hr : ParO P W n M R ops K rest (acc ++ [Spc.g (fun _ => False) (fun _ => []) (fun _ => [])]) L) : ParO P W n M R ops K (o :: rest) acc L :=
  ⟨Spc.g (fun _ => False) (fun _ => []) (fun _ => []), by simp [hdst, Spc.g], .inl ⟨rfl, .inr (.inr (.inl ⟨hg, j, oj, sj, hoj, hsj, hdj, hdep, fun u hu => absurd hu (hF u)⟩))⟩, by simpa [addL, Spc.g] using hr⟩
end Go.G


namespace Go.Proofs.YtpfgiednfjfdmaaDoor
open Go.G Debt10
set_option maxRecDepth 1000000
attribute [local irreducible] G.ParO G.Fin
/-- What is left of a person, and what would settle it. -/
def leftT (D : Debt) (who : Int) (d : Nat) : Debt10.Span := ⟨total (progA D 0 who (d + 1)).1, total (progA D 1 who (d + 1)).1⟩
def needT (D : Debt) (who : Int) (d : Nat) : Int := total (progB D 1 who d).1
def aheadT (D : Debt) (who : Int) (d : Nat) : Debt10.Span := ⟨(progA D 1 who (d + 1)).2, (progA D 0 who (d + 1)).2⟩
def gradeS (s : Debt10.Span) : Int := if s.hi = 0 then 2 else if s.lo = 0 then 1 else 0
def setT (l : List Opn) : Nat := setK l l.length
@[reducible] def vT (v w : Value) : Value := .tuple #[v, w]
abbrev Wh := Option Addr × Nat
variable (D : Debt) (uo po : Option Addr) (uc pc : Nat)
variable (lb mb : Nat)
theorem account_A (G : Cont) (who : Int) (e d : Nat) (hg : GoodD D) (hw : -1000 ≤ who ∧ who ≤ 1000) (he : e < 2) (hk : d ≤ 30) : FnS Tryd.prog 74 [pt lb 0, .agg #[i64 who, i64 (e : Int), i64 (d : Int), .bool true]] [mapG Tryd.prog 113 mb G] [entF D G, boxF lb 108 [i64 D.people, .slice uo D.dues.length uc, .slice po D.paid.length pc, .map (some mb)], rowD uo 5 encD D.dues, rowD po 4 encP D.paid, rowD (some ⟨0, 0, none⟩) 1 encE ([0, 1] : List Nat)] (fun ed M' R' => ∃ x : Cont × Option Addr × Nat, ed = .returned (vA x.2.1 (progA D e who (d + 1)).1.length x.2.2 (progA D e who (d + 1)).2) ∧ True ∧ M' = [mapG Tryd.prog 113 mb x.1] ∧ R' = [entF D x.1, rowD x.2.1 4 encO (progA D e who (d + 1)).1]) := account_s D uo po uc pc lb mb G who e d true hg hw he hk
theorem account_B (G : Cont) (who : Int) (e d : Nat) (hg : GoodD D) (hw : -1000 ≤ who ∧ who ≤ 1000) (he : e < 2) (hk : d ≤ 30) : FnS Tryd.prog 74 [pt lb 0, .agg #[i64 who, i64 (e : Int), i64 (d : Int), .bool false]] [mapG Tryd.prog 113 mb G] [entF D G, boxF lb 108 [i64 D.people, .slice uo D.dues.length uc, .slice po D.paid.length pc, .map (some mb)], rowD uo 5 encD D.dues, rowD po 4 encP D.paid, rowD (some ⟨0, 0, none⟩) 1 encE ([0, 1] : List Nat)] (fun ed M' R' => ∃ x : Cont × Option Addr × Nat, ed = .returned (vA x.2.1 (progB D e who d).1.length x.2.2 (progB D e who d).2) ∧ True ∧ M' = [mapG Tryd.prog 113 mb x.1] ∧ R' = [entF D x.1, rowD x.2.1 4 encO (progB D e who d).1]) := account_s D uo po uc pc lb mb G who e d false hg hw he hk
set_option maxHeartbeats 4000000 in
theorem both_s (G : Cont) (who : Int) (d : Nat) (hg : GoodD D) (hw : -1000 ≤ who ∧ who ≤ 1000) (hk : d ≤ 30) : FnS Tryd.prog 52 [pt lb 0, i64 who, i64 (d : Int)] [mapG Tryd.prog 113 mb G] [entF D G, boxF lb 108 [i64 D.people, .slice uo D.dues.length uc, .slice po D.paid.length pc, .map (some mb)], rowD uo 5 encD D.dues, rowD po 4 encP D.paid, rowD (some ⟨0, 0, none⟩) 1 encE ([0, 1] : List Nat)] (fun ed M' R' => ∃ x : Cont × Wh × Wh, ed = .returned (vT (vA x.2.1.1 (progA D 0 who (d + 1)).1.length x.2.1.2 (progA D 0 who (d + 1)).2) (vA x.2.2.1 (progA D 1 who (d + 1)).1.length x.2.2.2 (progA D 1 who (d + 1)).2)) ∧ True ∧ M' = [mapG Tryd.prog 113 mb x.1] ∧ R' = [entF D x.1, rowD x.2.1.1 4 encO (progA D 0 who (d + 1)).1, rowD x.2.2.1 4 encO (progA D 1 who (d + 1)).1]) := by
 refine FnS.intro1 Tryd.call52 Tryd.func52 rfl Tryd.ntmps52 rfl ?_
 intro W M Rf
 refine r_seq ?_
 refine r_region ?_
 refine o_alloc rfl inf77 rfl rfl rfl rfl rfl (fun b6 => ?_)
 refine o_alloc rfl inf77 rfl rfl rfl rfl rfl (fun b7 => ?_)
 refine o_nil ?_
 with_reducible refine r_then ?_
 refine r_seq ?_
 refine r_region ?_
 refine o_q _ rfl rfl rfl (v_move rfl rfl) ?_
 refine o_q _ rfl rfl rfl (v_move rfl rfl) ?_
 refine o_q _ rfl rfl rfl (v_move rfl rfl) ?_
 refine o_q _ rfl rfl rfl (v_bS rfl Tryd.underlying113 inf113 plt113 rfl rfl rfl (by repeat (first | exact trivial | refine ⟨rfl, ?_⟩)) (by rfl)) ?_
 refine o_fnX (account_A D uo po uc pc lb mb G who 0 d hg hw (by decide) hk) rfl rfl rfl rfl rfl SubRC.sub (fun x12 _ => ?_)
 refine o_q _ rfl rfl rfl (v_move rfl rfl) ?_
 refine o_q _ rfl rfl rfl (v_move rfl rfl) ?_
 refine o_q _ rfl rfl rfl (v_move rfl rfl) ?_
 refine o_q _ rfl rfl rfl (v_bS rfl Tryd.underlying113 inf113 plt113 rfl rfl rfl (by repeat (first | exact trivial | refine ⟨rfl, ?_⟩)) (by rfl)) ?_
 refine o_fnX (account_A D uo po uc pc lb mb x12.1 who 1 d hg hw (by decide) hk) rfl rfl rfl rfl rfl SubRC.sub (fun x17 _ => ?_)
 refine o_st rfl inf77 rfl rfl rfl rfl rfl rfl rfl rfl ?_
 refine o_st rfl inf77 rfl rfl rfl rfl rfl rfl rfl rfl ?_
 refine o_nil ?_
 with_reducible refine r_then ?_
 refine r_ret ?_
 refine Imp.box_to b6 [.slice x12.2.1 (progA D 0 who (d + 1)).1.length x12.2.2, i64 (progA D 0 who (d + 1)).2] rfl ?_
 refine Imp.box_to b7 [.slice x17.2.1 (progA D 1 who (d + 1)).1.length x17.2.2, i64 (progA D 1 who (d + 1)).2] rfl ?_
 exact r_rete [mapG Tryd.prog 113 mb x17.1] [entF D x17.1, rowD x12.2.1 4 encO (progA D 0 who (d + 1)).1, rowD x17.2.1 4 encO (progA D 1 who (d + 1)).1] (Rd.two rfl (RdI.cellW Tryd.underlying77 rfl inf77 rfl rfl) (RdI.cellW Tryd.underlying77 rfl inf77 rfl rfl)) ⟨(x17.1, x12.2, x17.2), rfl, trivial, rfl, rfl⟩ SelMC.sel SubRC.sub
set_option maxHeartbeats 4000000 in
theorem left_s (G : Cont) (who : Int) (d : Nat) (hg : GoodD D) (hw : -1000 ≤ who ∧ who ≤ 1000) (hk : d ≤ 30) : FnS Tryd.prog 47 [pt lb 0, i64 who, i64 (d : Int)] [mapG Tryd.prog 113 mb G] [entF D G, boxF lb 108 [i64 D.people, .slice uo D.dues.length uc, .slice po D.paid.length pc, .map (some mb)], rowD uo 5 encD D.dues, rowD po 4 encP D.paid, rowD (some ⟨0, 0, none⟩) 1 encE ([0, 1] : List Nat)] (fun ed M' R' => ∃ x : Cont, ed = .returned (vS (leftT D who d)) ∧ True ∧ M' = [mapG Tryd.prog 113 mb x] ∧ R' = [entF D x]) := by
 refine FnS.intro1 Tryd.call47 Tryd.func47 rfl Tryd.ntmps47 rfl ?_
 intro W M Rf
 refine r_seq ?_
 refine r_region ?_
 refine o_alloc rfl inf29 rfl rfl rfl rfl rfl (fun b6 => ?_)
 refine o_nil ?_
 with_reducible refine r_then ?_
 refine r_seq ?_
 refine r_region ?_
 refine o_q _ rfl rfl rfl (v_move rfl rfl) ?_
 refine o_q _ rfl rfl rfl (v_move rfl rfl) ?_
 refine o_q _ rfl rfl rfl (v_move rfl rfl) ?_
 refine o_fnX (both_s D uo po uc pc lb mb G who d hg hw hk) rfl rfl rfl rfl rfl SubRC.sub (fun x13 _ => ?_)
 refine o_q _ rfl rfl rfl (v_move rfl rfl) ?_
 refine o_q _ rfl rfl rfl (v_extract rfl rfl rfl) ?_
 refine o_q _ rfl rfl rfl (v_extract rfl rfl rfl) ?_
 refine o_alloc rfl inf77 rfl rfl rfl rfl rfl (fun b7 => ?_)
 refine o_alloc rfl inf77 rfl rfl rfl rfl rfl (fun b8 => ?_)
 refine o_st rfl inf77 rfl rfl rfl rfl rfl rfl rfl rfl ?_
 refine o_st rfl inf77 rfl rfl rfl rfl rfl rfl rfl rfl ?_
 refine o_nil ?_
 with_reducible refine r_then ?_
 refine r_seq ?_
 refine Imp.box_to b7 [.slice x13.2.1.1 (progA D 0 who (d + 1)).1.length x13.2.1.2, i64 (progA D 0 who (d + 1)).2] rfl ?_
 refine Imp.box_to b8 [.slice x13.2.2.1 (progA D 1 who (d + 1)).1.length x13.2.2.2, i64 (progA D 1 who (d + 1)).2] rfl ?_
 refine r_par' 3 mixed (by kernel_rfl) (by rfl) ?_
 refine p_q _ rfl rfl rfl (fun _ _ => v_ldW rfl Tryd.underlying77 rfl inf77 rfl rfl) ?_
 refine p_q _ rfl rfl rfl (fun _ _ => OpQ.fn (left_v (progA D 0 who (d + 1)).1 x13.2.1.1 x13.2.1.2 (progA D 0 who (d + 1)).2 (by have := prog_lenA hg 0 who (d + 1); omega) (fun y hy => by have := ((prog_bd hg 0 who (d + 1) (by omega)).1 y hy).1; omega)) rfl rfl SubRC.sub) ?_
 refine p_q _ rfl rfl rfl (fun _ _ => v_ldW rfl Tryd.underlying77 rfl inf77 rfl rfl) ?_
 refine p_nil2 (by simp only [List.nil_append, List.cons_append]; rfl) rfl ?_
 refine f_q rfl ?_
 refine f_q rfl ?_
 refine f_q rfl ?_
 refine f_nil ?_
 refine o_q _ rfl rfl rfl (OpQ.fn (left_v (progA D 1 who (d + 1)).1 x13.2.2.1 x13.2.2.2 (progA D 1 who (d + 1)).2 (by have := prog_lenA hg 1 who (d + 1); omega) (fun y hy => by have := ((prog_bd hg 1 who (d + 1) (by omega)).1 y hy).1; omega)) rfl rfl SubRC.sub) ?_
 refine o_q _ rfl rfl rfl (v_bS rfl Tryd.underlying29 inf29 plt29 rfl rfl rfl (by repeat (first | exact trivial | refine ⟨rfl, ?_⟩)) (by rfl)) ?_
 refine o_st rfl inf29 rfl rfl rfl rfl rfl rfl rfl rfl ?_
 refine o_nil ?_
 with_reducible refine r_then ?_
 refine r_ret ?_
 refine Imp.box_to b6 [i64 (leftT D who d).lo, i64 (leftT D who d).hi] rfl ?_
 exact r_rete [mapG Tryd.prog 113 mb x13.1] [entF D x13.1] (Rd.one rfl (RdI.cellW Tryd.underlying29 rfl inf29 rfl rfl)) ⟨x13.1, rfl, trivial, rfl, rfl⟩ SelMC.sel SubRC.sub
set_option maxHeartbeats 4000000 in
theorem need_s (G : Cont) (who : Int) (d : Nat) (hg : GoodD D) (hw : -1000 ≤ who ∧ who ≤ 1000) (hk : d ≤ 30) : FnS Tryd.prog 56 [pt lb 0, i64 who, i64 (d : Int)] [mapG Tryd.prog 113 mb G] [entF D G, boxF lb 108 [i64 D.people, .slice uo D.dues.length uc, .slice po D.paid.length pc, .map (some mb)], rowD uo 5 encD D.dues, rowD po 4 encP D.paid, rowD (some ⟨0, 0, none⟩) 1 encE ([0, 1] : List Nat)] (fun ed M' R' => ∃ x : Cont, ed = .returned (i64 (needT D who d)) ∧ True ∧ M' = [mapG Tryd.prog 113 mb x] ∧ R' = [entF D x]) := by
 refine FnS.intro1 Tryd.call56 Tryd.func56 rfl Tryd.ntmps56 rfl ?_
 intro W M Rf
 refine r_seq ?_
 refine r_region ?_
 refine o_q _ rfl rfl rfl (v_assign rfl rfl) ?_
 refine o_nil ?_
 with_reducible refine r_then ?_
 refine r_seq ?_
 refine r_region ?_
 refine o_q _ rfl rfl rfl (v_move rfl rfl) ?_
 refine o_q _ rfl rfl rfl (v_move rfl rfl) ?_
 refine o_q _ rfl rfl rfl (v_move rfl rfl) ?_
 refine o_q _ rfl rfl rfl (v_bS rfl Tryd.underlying113 inf113 plt113 rfl rfl rfl (by repeat (first | exact trivial | refine ⟨rfl, ?_⟩)) (by rfl)) ?_
 refine o_fnX (account_B D uo po uc pc lb mb G who 1 d hg hw (by decide) hk) rfl rfl rfl rfl rfl SubRC.sub (fun x11 _ => ?_)
 refine o_q _ rfl rfl rfl (OpQ.fn (left_v (progB D 1 who d).1 x11.2.1 x11.2.2 (progB D 1 who d).2 (by have := prog_lenB hg 1 who d; omega) (fun y hy => by have := ((prog_bdB hg 1 who d (by omega)).1 y hy).1; omega)) rfl rfl SubRC.sub) ?_
 refine o_q _ rfl rfl rfl (v_assign rfl rfl) ?_
 refine o_nil ?_
 with_reducible refine r_then ?_
 refine r_ret ?_
 exact r_rete [mapG Tryd.prog 113 mb x11.1] [entF D x11.1] (Rd.tmp rfl rfl) ⟨x11.1, rfl, trivial, rfl, rfl⟩ SelMC.sel SubRC.sub
/-- A ledger that has just been laid. -/
theorem opened {W : World} {n : Nat} {Df : List Deferred} {L : Tm} {M M' : List Res} {R : List Fact} {X : Act → World → Prop} [hM : DelC M (ledR D uo po uc pc lb) M']
    (h : ∀ mb, Imp W n Df L (mapG Tryd.prog 113 mb (fun _ => none) :: M') (entF D (fun _ => none) :: boxF lb 108 [i64 D.people, .slice uo D.dues.length uc, .slice po D.paid.length pc, .map (some mb)] :: R) X) : Imp W n Df L M R X := by
  have h2 : Imp W n Df L (ledR D uo po uc pc lb :: M') R X := by
    refine Imp.unpk (fun mb => ?_)
    show Imp W n Df L (mapG Tryd.prog 113 mb (fun _ => none) :: bx lb 108 [i64 D.people, .slice uo D.dues.length uc, .slice po D.paid.length pc, .map (some mb)] :: M') R X
    refine Imp.sealB lb ?_
    refine Imp.derive (ψ := entF D (fun _ => none)) (h mb) (fun V _ => ?_)
    intro who e d g v hv; cases hv
  exact fun a w h1 h3 h4 => h2 a w h1 h3 (h4.perm hM.del.perm)
theorem led_left (who : Int) (d : Nat) (hg : GoodD D) (hw : -1000 ≤ who ∧ who ≤ 1000) (hk : d ≤ 30) (b : Nat) : FnS Tryd.prog 47 [pt b 0, i64 who, i64 (d : Int)] [ledR D uo po uc pc b] [rowD uo 5 encD D.dues, rowD po 4 encP D.paid, rowD (some ⟨0, 0, none⟩) 1 encE ([0, 1] : List Nat)] (fun e M' R' => e = .returned (vS (leftT D who d)) ∧ M' = [] ∧ R' = []) := by
  refine ⟨Tryd.call47, fun W M Rf w hw' => Imp.run (Z := fun w => Calls Tryd.prog 47 ([pt b 0, i64 who, i64 (d : Int)] : List Value).toArray w _) ?_ hw'⟩
  show Imp W 0 [] [] (ledR D uo po uc pc b :: M) _ _
  refine opened D uo po uc pc b (fun mb => ?_)
  intro a w' _ _ h
  refine ((left_s D uo po uc pc b mb (fun _ => none) who d hg hw hk).calls W M _ w' (h.both SubRC.sub)).mono ?_
  rintro e w2 ⟨M1, R1, ⟨x, rfl, _, rfl, rfl⟩, h5⟩
  exact ⟨[], [], ⟨rfl, rfl, rfl⟩, (St.drop (r := mapG Tryd.prog 113 mb x) h5).weak (fun φ hφ => List.mem_append_right _ (List.mem_append_right _ (List.mem_cons_of_mem _ (List.mem_cons_of_mem _ hφ))))⟩
theorem led_need (who : Int) (d : Nat) (hg : GoodD D) (hw : -1000 ≤ who ∧ who ≤ 1000) (hk : d ≤ 30) (b : Nat) : FnS Tryd.prog 56 [pt b 0, i64 who, i64 (d : Int)] [ledR D uo po uc pc b] [rowD uo 5 encD D.dues, rowD po 4 encP D.paid, rowD (some ⟨0, 0, none⟩) 1 encE ([0, 1] : List Nat)] (fun e M' R' => e = .returned (i64 (needT D who d)) ∧ M' = [] ∧ R' = []) := by
  refine ⟨Tryd.call56, fun W M Rf w hw' => Imp.run (Z := fun w => Calls Tryd.prog 56 ([pt b 0, i64 who, i64 (d : Int)] : List Value).toArray w _) ?_ hw'⟩
  show Imp W 0 [] [] (ledR D uo po uc pc b :: M) _ _
  refine opened D uo po uc pc b (fun mb => ?_)
  intro a w' _ _ h
  refine ((need_s D uo po uc pc b mb (fun _ => none) who d hg hw hk).calls W M _ w' (h.both SubRC.sub)).mono ?_
  rintro e w2 ⟨M1, R1, ⟨x, rfl, _, rfl, rfl⟩, h5⟩
  exact ⟨[], [], ⟨rfl, rfl, rfl⟩, (St.drop (r := mapG Tryd.prog 113 mb x) h5).weak (fun φ hφ => List.mem_append_right _ (List.mem_append_right _ (List.mem_cons_of_mem _ (List.mem_cons_of_mem _ hφ))))⟩
def fstT : Value → Value
  | .tuple a => a.getD 0 undef
  | _ => undef
def sndT : Value → Value
  | .tuple a => a.getD 1 undef
  | _ => undef
def isA (P : List Opn × Int) (v : Value) : Prop := ∃ oa c, v = vA oa P.1.length c P.2
def facA (P : List Opn × Int) (v : Value) : List Fact := [rowD (adrAt v 0) 4 encO P.1]
def isAA (P Q : List Opn × Int) (v : Value) : Prop := ∃ x y, isA P x ∧ isA Q y ∧ v = vT x y
def facAA (P Q : List Opn × Int) (v : Value) : List Fact := [rowD (adrAt (fstT v) 0) 4 encO P.1, rowD (adrAt (sndT v) 0) 4 encO Q.1]
theorem led_both (who : Int) (d : Nat) (hg : GoodD D) (hw : -1000 ≤ who ∧ who ≤ 1000) (hk : d ≤ 30) (b : Nat) : FnS Tryd.prog 52 [pt b 0, i64 who, i64 (d : Int)] [ledR D uo po uc pc b] [rowD uo 5 encD D.dues, rowD po 4 encP D.paid, rowD (some ⟨0, 0, none⟩) 1 encE ([0, 1] : List Nat)] (fun e M' R' => ∃ v, e = .returned v ∧ isAA (progA D 0 who (d + 1)) (progA D 1 who (d + 1)) v ∧ M' = [] ∧ R' = facAA (progA D 0 who (d + 1)) (progA D 1 who (d + 1)) v) := by
  refine ⟨Tryd.call52, fun W M Rf w hw' => Imp.run (Z := fun w => Calls Tryd.prog 52 ([pt b 0, i64 who, i64 (d : Int)] : List Value).toArray w _) ?_ hw'⟩
  show Imp W 0 [] [] (ledR D uo po uc pc b :: M) _ _
  refine opened D uo po uc pc b (fun mb => ?_)
  intro a w' _ _ h
  refine ((both_s D uo po uc pc b mb (fun _ => none) who d hg hw hk).calls W M _ w' (h.both SubRC.sub)).mono ?_
  rintro e w2 ⟨M1, R1, ⟨x, rfl, _, rfl, rfl⟩, h5⟩
  refine ⟨[], _, ⟨_, rfl, ⟨_, _, ⟨_, _, rfl⟩, ⟨_, _, rfl⟩, rfl⟩, rfl, rfl⟩, (St.drop (r := mapG Tryd.prog 113 mb x.1) h5).weak (fun φ hφ => ?_)⟩
  rcases List.mem_append.1 hφ with hφ | hφ
  · exact List.mem_append_left _ (List.mem_cons_of_mem _ hφ)
  · exact List.mem_append_right _ (List.mem_append_right _ (List.mem_cons_of_mem _ (List.mem_cons_of_mem _ hφ)))
end Go.Proofs.YtpfgiednfjfdmaaDoor


namespace Go.Proofs.YtpfgiednfjfdmaaDoor
open Go.G Debt10
set_option maxRecDepth 1000000
attribute [local irreducible] G.ParO G.Fin
/-- Why nothing is known; 0: it is. -/
def chkD (D : Debt) (v : Bool) : Int := if GoodD D then (if v then 0 else 2) else 1
theorem chkD_1 {D : Debt} {v : Bool} (h : ¬ GoodD D) : chkD D v = 1 := if_neg h
theorem chkD_2 {D : Debt} {v : Bool} (h : GoodD D) (hv : v = false) : chkD D v = 2 := by unfold chkD; rw [if_pos h, hv]; rfl
theorem chkD_0 {D : Debt} {v : Bool} (h : GoodD D) (hv : v = true) : chkD D v = 0 := by unfold chkD; rw [if_pos h, hv]; rfl
def ansD {α : Type} (D : Debt) (v : Bool) (z x : α) : α × Int := if chkD D v = 0 then (x, 0) else (z, chkD D v)
theorem ansD_0 {α : Type} {D : Debt} {v : Bool} {z x : α} (h : chkD D v = 0) : ansD D v z x = (x, 0) := if_pos h
theorem ansD_n {α : Type} {D : Debt} {v : Bool} {z x : α} {e : Int} (h : chkD D v = e) (he : e ≠ 0) : ansD D v z x = (z, e) := by unfold ansD; rw [h, if_neg he]
abbrev okWD (D : Debt) (who d : Int) : Bool := isW D who && isDy d
def leftB (D : Debt) (who d : Int) : Debt10.Span × Int := ansD D (okWD D who d) ⟨0, 0⟩ (leftT D who d.toNat)
def needB (D : Debt) (who d : Int) : Int × Int := ansD D (okWD D who d) 0 (needT D who d.toNat)
def setlB (D : Debt) (who d : Int) : Int × Int := ansD D (okWD D who d) 0 (gradeS (leftT D who d.toNat))
def aheadB (D : Debt) (who d : Int) : Debt10.Span × Int := ansD D (okWD D who d) ⟨0, 0⟩ (aheadT D who d.toNat)
def openB (D : Debt) (who d : Int) : (Nat × Nat) × Int := ansD D (okWD D who d) (0, 0) (setT (progA D 0 who (d.toNat + 1)).1, setT (progA D 1 who (d.toNat + 1)).1)
theorem okT {D : Debt} {who d : Int} (h1 : isW D who = true) (h2 : isDy d = true) : okWD D who d = true := by unfold okWD; rw [h1, h2]; rfl
theorem okF1 {D : Debt} {who d : Int} (h1 : isW D who = false) : okWD D who d = false := by unfold okWD; rw [h1]; rfl
theorem okF2 {D : Debt} {who d : Int} (h2 : isDy d = false) : okWD D who d = false := by unfold okWD; rw [h2, Bool.and_false]
theorem grade_2 {s : Debt10.Span} (h : s.hi = 0) : gradeS s = 2 := if_pos h
theorem grade_1 {s : Debt10.Span} (h : ¬ s.hi = 0) (h2 : s.lo = 0) : gradeS s = 1 := by unfold gradeS; rw [if_neg h, if_pos h2]
theorem grade_0 {s : Debt10.Span} (h : ¬ s.hi = 0) (h2 : ¬ s.lo = 0) : gradeS s = 0 := by unfold gradeS; rw [if_neg h, if_neg h2]
variable (D : Debt) (uo po : Option Addr) (uc pc : Nat)
set_option maxHeartbeats 4000000 in
theorem left14_x1a (who d : Int) (hl1 : D.dues.length ≤ 40) (hl2 : D.paid.length ≤ 40) (hng : ¬ GoodD D) (h1 : isW D who = false) : FnV Tryd.prog 14 [valD D uo po uc pc, i64 who, i64 d] [rowD uo 5 encD D.dues, rowD po 4 encP D.paid, rowD (some ⟨0, 0, none⟩) 1 encE ([0, 1] : List Nat)] (.tuple #[vS (leftB D who d).1, i64 (leftB D who d).2]) := by
 refine FnV.introD Tryd.call14 Tryd.func14 rfl Tryd.ntmps14 rfl ?_
 intro W M Rf
 refine r_seq ?_
 refine r_region ?_
 refine o_boxA rfl rfl rfl rfl rfl (fun b3 => ?_)
 refine o_alloc rfl inf29 rfl rfl rfl rfl rfl (fun b6 => ?_)
 refine o_alloc rfl inf30 rfl rfl rfl rfl rfl (fun b7 => ?_)
 refine o_nil ?_
 with_reducible refine r_then ?_
 refine r_seq ?_
 refine r_region ?_
 refine o_defer rfl rfl rfl rfl ?_
 refine o_nil ?_
 with_reducible refine r_then ?_
 refine r_seq ?_
 refine r_parX 11 mixed (by kernel_rfl) (by rfl) ?_
 refine p_q _ rfl rfl rfl (fun _ _ => v_ldW rfl Tryd.underlying25 rfl inf25 rfl rfl) ?_
 refine p_q _ rfl rfl rfl (fun _ _ => v_ldW rfl Tryd.underlying25 rfl inf25 rfl rfl) ?_
 refine p_q _ rfl rfl rfl (fun _ _ => v_move rfl rfl) ?_
 refine p_q _ rfl rfl rfl (fun _ _ => v_cast (v := .bool false) (OpQ.fn (isWho_v D uo po uc pc who) rfl rfl SubRC.sub) (congrArg Value.bool h1)) ?_
 refine p_q _ rfl rfl rfl (fun _ _ => v_move rfl rfl) ?_
 refine p_gn rfl rfl rfl rfl ?_
 refine p_gn rfl rfl rfl rfl ?_
 refine p_q _ rfl rfl rfl (fun _ _ => v_pick_f rfl rfl rfl) ?_
 refine p_deadX (look_x1 D uo po uc pc _ hl1 hl2 hng) rfl rfl rfl rfl rfl SubRC.sub ?_
 refine p_q _ rfl rfl rfl (fun _ _ => v_move rfl rfl) ?_
 refine p_q _ rfl rfl rfl (fun _ _ => v_move rfl rfl) ?_
 refine p_nilX (panOf (.iface 103 (i64 1))) (by simp only [List.nil_append, List.cons_append]; rfl) rfl (by kernel_rfl) rfl ?_ ?_
 ·
  with_reducible refine r_then_panic ?_
  exact d_panv answer_ans (Rd.two rfl (RdI.cellW Tryd.underlying29 rfl inf29 rfl rfl) (RdI.cell1 Tryd.underlying30 rfl rfl rfl)) (by rw [leftB, ansD_n (chkD_1 hng) (by decide)]; try rfl) SelMC.sel SubRC.sub
 ·
  refine f_q rfl ?_
  refine f_q rfl ?_
  refine f_q rfl ?_
  refine f_q rfl ?_
  refine f_q rfl ?_
  refine f_q rfl ?_
  refine f_q rfl ?_
  refine f_q rfl ?_
  exact f_dead
set_option maxHeartbeats 4000000 in
theorem left14_x1b (who d : Int) (hl1 : D.dues.length ≤ 40) (hl2 : D.paid.length ≤ 40) (hng : ¬ GoodD D) (h1 : isW D who = true) : FnV Tryd.prog 14 [valD D uo po uc pc, i64 who, i64 d] [rowD uo 5 encD D.dues, rowD po 4 encP D.paid, rowD (some ⟨0, 0, none⟩) 1 encE ([0, 1] : List Nat)] (.tuple #[vS (leftB D who d).1, i64 (leftB D who d).2]) := by
 refine FnV.introD Tryd.call14 Tryd.func14 rfl Tryd.ntmps14 rfl ?_
 intro W M Rf
 refine r_seq ?_
 refine r_region ?_
 refine o_boxA rfl rfl rfl rfl rfl (fun b3 => ?_)
 refine o_alloc rfl inf29 rfl rfl rfl rfl rfl (fun b6 => ?_)
 refine o_alloc rfl inf30 rfl rfl rfl rfl rfl (fun b7 => ?_)
 refine o_nil ?_
 with_reducible refine r_then ?_
 refine r_seq ?_
 refine r_region ?_
 refine o_defer rfl rfl rfl rfl ?_
 refine o_nil ?_
 with_reducible refine r_then ?_
 refine r_seq ?_
 refine r_parX 11 mixed (by kernel_rfl) (by rfl) ?_
 refine p_q _ rfl rfl rfl (fun _ _ => v_ldW rfl Tryd.underlying25 rfl inf25 rfl rfl) ?_
 refine p_q _ rfl rfl rfl (fun _ _ => v_ldW rfl Tryd.underlying25 rfl inf25 rfl rfl) ?_
 refine p_q _ rfl rfl rfl (fun _ _ => v_move rfl rfl) ?_
 refine p_q _ rfl rfl rfl (fun _ _ => v_cast (v := .bool true) (OpQ.fn (isWho_v D uo po uc pc who) rfl rfl SubRC.sub) (congrArg Value.bool h1)) ?_
 refine p_q _ rfl rfl rfl (fun _ _ => v_move rfl rfl) ?_
 refine p_g _ rfl rfl rfl rfl (fun _ _ => v_move rfl rfl) ?_
 refine p_g _ rfl rfl rfl rfl (fun _ _ => OpQ.fn (isDay_v d) rfl rfl SubRC.sub) ?_
 refine p_q _ rfl rfl rfl (fun _ _ => v_pick_t rfl rfl rfl) ?_
 refine p_deadX (look_x1 D uo po uc pc _ hl1 hl2 hng) rfl rfl rfl rfl rfl SubRC.sub ?_
 refine p_q _ rfl rfl rfl (fun _ _ => v_move rfl rfl) ?_
 refine p_q _ rfl rfl rfl (fun _ _ => v_move rfl rfl) ?_
 refine p_nilX (panOf (.iface 103 (i64 1))) (by simp only [List.nil_append, List.cons_append]; rfl) rfl (by kernel_rfl) rfl ?_ ?_
 ·
  with_reducible refine r_then_panic ?_
  exact d_panv answer_ans (Rd.two rfl (RdI.cellW Tryd.underlying29 rfl inf29 rfl rfl) (RdI.cell1 Tryd.underlying30 rfl rfl rfl)) (by rw [leftB, ansD_n (chkD_1 hng) (by decide)]; try rfl) SelMC.sel SubRC.sub
 ·
  refine f_q rfl ?_
  refine f_q rfl ?_
  refine f_q rfl ?_
  refine f_q rfl ?_
  refine f_q rfl ?_
  refine f_q rfl ?_
  refine f_q rfl ?_
  refine f_q rfl ?_
  exact f_dead
set_option maxHeartbeats 4000000 in
theorem left14_x2a (who d : Int) (hl1 : D.dues.length ≤ 40) (hl2 : D.paid.length ≤ 40) (hg : GoodD D) (h1 : isW D who = false) : FnV Tryd.prog 14 [valD D uo po uc pc, i64 who, i64 d] [rowD uo 5 encD D.dues, rowD po 4 encP D.paid, rowD (some ⟨0, 0, none⟩) 1 encE ([0, 1] : List Nat)] (.tuple #[vS (leftB D who d).1, i64 (leftB D who d).2]) := by
 refine FnV.introD Tryd.call14 Tryd.func14 rfl Tryd.ntmps14 rfl ?_
 intro W M Rf
 refine r_seq ?_
 refine r_region ?_
 refine o_boxA rfl rfl rfl rfl rfl (fun b3 => ?_)
 refine o_alloc rfl inf29 rfl rfl rfl rfl rfl (fun b6 => ?_)
 refine o_alloc rfl inf30 rfl rfl rfl rfl rfl (fun b7 => ?_)
 refine o_nil ?_
 with_reducible refine r_then ?_
 refine r_seq ?_
 refine r_region ?_
 refine o_defer rfl rfl rfl rfl ?_
 refine o_nil ?_
 with_reducible refine r_then ?_
 refine r_seq ?_
 refine r_parX 11 mixed (by kernel_rfl) (by rfl) ?_
 refine p_q _ rfl rfl rfl (fun _ _ => v_ldW rfl Tryd.underlying25 rfl inf25 rfl rfl) ?_
 refine p_q _ rfl rfl rfl (fun _ _ => v_ldW rfl Tryd.underlying25 rfl inf25 rfl rfl) ?_
 refine p_q _ rfl rfl rfl (fun _ _ => v_move rfl rfl) ?_
 refine p_q _ rfl rfl rfl (fun _ _ => v_cast (v := .bool false) (OpQ.fn (isWho_v D uo po uc pc who) rfl rfl SubRC.sub) (congrArg Value.bool h1)) ?_
 refine p_q _ rfl rfl rfl (fun _ _ => v_move rfl rfl) ?_
 refine p_gn rfl rfl rfl rfl ?_
 refine p_gn rfl rfl rfl rfl ?_
 refine p_q _ rfl rfl rfl (fun _ _ => v_pick_f rfl rfl rfl) ?_
 refine p_deadX (look_x2 D uo po uc pc hl1 hl2 hg) rfl rfl rfl rfl rfl SubRC.sub ?_
 refine p_q _ rfl rfl rfl (fun _ _ => v_move rfl rfl) ?_
 refine p_q _ rfl rfl rfl (fun _ _ => v_move rfl rfl) ?_
 refine p_nilX (panOf (.iface 103 (i64 2))) (by simp only [List.nil_append, List.cons_append]; rfl) rfl (by kernel_rfl) rfl ?_ ?_
 ·
  with_reducible refine r_then_panic ?_
  exact d_panv answer_ans (Rd.two rfl (RdI.cellW Tryd.underlying29 rfl inf29 rfl rfl) (RdI.cell1 Tryd.underlying30 rfl rfl rfl)) (by rw [leftB, ansD_n (chkD_2 hg (okF1 h1)) (by decide)]; try rfl) SelMC.sel SubRC.sub
 ·
  refine f_q rfl ?_
  refine f_q rfl ?_
  refine f_q rfl ?_
  refine f_q rfl ?_
  refine f_q rfl ?_
  refine f_q rfl ?_
  refine f_q rfl ?_
  refine f_q rfl ?_
  exact f_dead
set_option maxHeartbeats 4000000 in
theorem left14_x2b (who d : Int) (hl1 : D.dues.length ≤ 40) (hl2 : D.paid.length ≤ 40) (hg : GoodD D) (h1 : isW D who = true) (h2 : isDy d = false) : FnV Tryd.prog 14 [valD D uo po uc pc, i64 who, i64 d] [rowD uo 5 encD D.dues, rowD po 4 encP D.paid, rowD (some ⟨0, 0, none⟩) 1 encE ([0, 1] : List Nat)] (.tuple #[vS (leftB D who d).1, i64 (leftB D who d).2]) := by
 refine FnV.introD Tryd.call14 Tryd.func14 rfl Tryd.ntmps14 rfl ?_
 intro W M Rf
 refine r_seq ?_
 refine r_region ?_
 refine o_boxA rfl rfl rfl rfl rfl (fun b3 => ?_)
 refine o_alloc rfl inf29 rfl rfl rfl rfl rfl (fun b6 => ?_)
 refine o_alloc rfl inf30 rfl rfl rfl rfl rfl (fun b7 => ?_)
 refine o_nil ?_
 with_reducible refine r_then ?_
 refine r_seq ?_
 refine r_region ?_
 refine o_defer rfl rfl rfl rfl ?_
 refine o_nil ?_
 with_reducible refine r_then ?_
 refine r_seq ?_
 refine r_parX 11 mixed (by kernel_rfl) (by rfl) ?_
 refine p_q _ rfl rfl rfl (fun _ _ => v_ldW rfl Tryd.underlying25 rfl inf25 rfl rfl) ?_
 refine p_q _ rfl rfl rfl (fun _ _ => v_ldW rfl Tryd.underlying25 rfl inf25 rfl rfl) ?_
 refine p_q _ rfl rfl rfl (fun _ _ => v_move rfl rfl) ?_
 refine p_q _ rfl rfl rfl (fun _ _ => v_cast (v := .bool true) (OpQ.fn (isWho_v D uo po uc pc who) rfl rfl SubRC.sub) (congrArg Value.bool h1)) ?_
 refine p_q _ rfl rfl rfl (fun _ _ => v_move rfl rfl) ?_
 refine p_g _ rfl rfl rfl rfl (fun _ _ => v_move rfl rfl) ?_
 refine p_g _ rfl rfl rfl rfl (fun _ _ => v_cast (v := .bool false) (OpQ.fn (isDay_v d) rfl rfl SubRC.sub) (congrArg Value.bool h2)) ?_
 refine p_q _ rfl rfl rfl (fun _ _ => v_pick_t rfl rfl rfl) ?_
 refine p_deadX (look_x2 D uo po uc pc hl1 hl2 hg) rfl rfl rfl rfl rfl SubRC.sub ?_
 refine p_q _ rfl rfl rfl (fun _ _ => v_move rfl rfl) ?_
 refine p_q _ rfl rfl rfl (fun _ _ => v_move rfl rfl) ?_
 refine p_nilX (panOf (.iface 103 (i64 2))) (by simp only [List.nil_append, List.cons_append]; rfl) rfl (by kernel_rfl) rfl ?_ ?_
 ·
  with_reducible refine r_then_panic ?_
  exact d_panv answer_ans (Rd.two rfl (RdI.cellW Tryd.underlying29 rfl inf29 rfl rfl) (RdI.cell1 Tryd.underlying30 rfl rfl rfl)) (by rw [leftB, ansD_n (chkD_2 hg (okF2 h2)) (by decide)]; try rfl) SelMC.sel SubRC.sub
 ·
  refine f_q rfl ?_
  refine f_q rfl ?_
  refine f_q rfl ?_
  refine f_q rfl ?_
  refine f_q rfl ?_
  refine f_q rfl ?_
  refine f_q rfl ?_
  refine f_q rfl ?_
  exact f_dead
set_option maxHeartbeats 4000000 in
theorem left14_ok (who d : Int) (hl1 : D.dues.length ≤ 40) (hl2 : D.paid.length ≤ 40) (hg : GoodD D) (h1 : isW D who = true) (h2 : isDy d = true) : FnV Tryd.prog 14 [valD D uo po uc pc, i64 who, i64 d] [rowD uo 5 encD D.dues, rowD po 4 encP D.paid, rowD (some ⟨0, 0, none⟩) 1 encE ([0, 1] : List Nat)] (.tuple #[vS (leftB D who d).1, i64 (leftB D who d).2]) := by
 obtain ⟨dn, rfl⟩ : ∃ n : Nat, d = n := ⟨d.toNat, by have := of_decide_eq_true h2; omega⟩
 have hd := of_decide_eq_true h2
 have hq1 := hg.np
 have hwr : IntKind.i64.wrap (D.people - 1) = D.people - 1 := IntWalk.i64_in _ (by omega)
 have hwh := of_decide_eq_true h1
 have hdn : dn ≤ 30 := by omega
 have hwb : -1000 ≤ who ∧ who ≤ 1000 := by omega
 refine FnV.introD Tryd.call14 Tryd.func14 rfl Tryd.ntmps14 rfl ?_
 intro W M Rf
 refine r_seq ?_
 refine r_region ?_
 refine o_boxA rfl rfl rfl rfl rfl (fun b3 => ?_)
 refine o_alloc rfl inf29 rfl rfl rfl rfl rfl (fun b6 => ?_)
 refine o_alloc rfl inf30 rfl rfl rfl rfl rfl (fun b7 => ?_)
 refine o_nil ?_
 with_reducible refine r_then ?_
 refine r_seq ?_
 refine r_region ?_
 refine o_defer rfl rfl rfl rfl ?_
 refine o_nil ?_
 with_reducible refine r_then ?_
 refine r_seq ?_
 refine r_par' 12 mixed (by kernel_rfl) (by rfl) ?_
 refine p_q _ rfl rfl rfl (fun _ _ => v_ldW rfl Tryd.underlying25 rfl inf25 rfl rfl) ?_
 refine p_q _ rfl rfl rfl (fun _ _ => v_ldW rfl Tryd.underlying25 rfl inf25 rfl rfl) ?_
 refine p_q _ rfl rfl rfl (fun _ _ => v_move rfl rfl) ?_
 refine p_q _ rfl rfl rfl (fun _ _ => v_cast (v := .bool true) (OpQ.fn (isWho_v D uo po uc pc who) rfl rfl SubRC.sub) (congrArg Value.bool h1)) ?_
 refine p_q _ rfl rfl rfl (fun _ _ => v_move rfl rfl) ?_
 refine p_g _ rfl rfl rfl rfl (fun _ _ => v_move rfl rfl) ?_
 refine p_g _ rfl rfl rfl rfl (fun _ _ => v_cast (v := .bool true) (OpQ.fn (isDay_v _) rfl rfl SubRC.sub) (congrArg Value.bool h2)) ?_
 refine p_q _ rfl rfl rfl (fun _ _ => v_pick_t rfl rfl rfl) ?_
 refine p_openL 11 (look_ok D uo po uc pc hl1 hl2 hg) rfl rfl rfl rfl rfl SubRC.sub ?_
 refine p_q _ rfl rfl rfl (fun _ _ => v_move rfl rfl) ?_
 refine p_q _ rfl rfl rfl (fun _ _ => v_move rfl rfl) ?_
 refine p_acc (by simp only [List.nil_append, List.cons_append]; rfl) ?_
 refine p_takeN 8 (led_left D uo po uc pc who dn hg hwb hdn) rfl rfl rfl (fun b => rfl) rfl (by kernel_rfl) rfl rfl rfl SubRC.sub ?_
 refine p_nil2 (by simp only [List.nil_append, List.cons_append]; rfl) rfl ?_ (by kernel_rfl)
 refine f_q rfl ?_
 refine f_q rfl ?_
 refine f_q rfl ?_
 refine f_q rfl ?_
 refine f_q rfl ?_
 refine f_q rfl ?_
 refine f_q rfl ?_
 refine f_q rfl ?_
 refine f_openL rfl (fun b16 => ?_)
 refine f_q rfl ?_
 refine f_q rfl ?_
 refine f_take rfl ?_
 refine f_nil ?_
 refine o_st rfl inf29 rfl rfl rfl rfl rfl rfl rfl rfl ?_
 refine o_st rfl inf30 rfl rfl rfl rfl rfl rfl rfl rfl ?_
 refine o_nil ?_
 with_reducible refine r_then ?_
 refine r_ret ?_
 exact d_retv answer_ans (Rd.two rfl (RdI.cellW Tryd.underlying29 rfl inf29 rfl rfl) (RdI.cell1 Tryd.underlying30 rfl rfl rfl)) (by rw [leftB, ansD_0 (chkD_0 hg (okT h1 h2)), Int.toNat_natCast]; try rfl) SelMC.sel SubRC.sub
theorem left14_v (who d : Int) (hl1 : D.dues.length ≤ 40) (hl2 : D.paid.length ≤ 40) : FnV Tryd.prog 14 [valD D uo po uc pc, i64 who, i64 d] [rowD uo 5 encD D.dues, rowD po 4 encP D.paid, rowD (some ⟨0, 0, none⟩) 1 encE ([0, 1] : List Nat)] (.tuple #[vS (leftB D who d).1, i64 (leftB D who d).2]) := by
  by_cases hg : GoodD D
  · cases h1 : isW D who
    · exact left14_x2a D uo po uc pc who d hl1 hl2 hg h1
    · cases h2 : isDy d
      · exact left14_x2b D uo po uc pc who d hl1 hl2 hg h1 h2
      · exact left14_ok D uo po uc pc who d hl1 hl2 hg h1 h2
  · cases h1 : isW D who
    · exact left14_x1a D uo po uc pc who d hl1 hl2 hg h1
    · exact left14_x1b D uo po uc pc who d hl1 hl2 hg h1
set_option maxHeartbeats 4000000 in
theorem need22_x1a (who d : Int) (hl1 : D.dues.length ≤ 40) (hl2 : D.paid.length ≤ 40) (hng : ¬ GoodD D) (h1 : isW D who = false) : FnV Tryd.prog 22 [valD D uo po uc pc, i64 who, i64 d] [rowD uo 5 encD D.dues, rowD po 4 encP D.paid, rowD (some ⟨0, 0, none⟩) 1 encE ([0, 1] : List Nat)] (.tuple #[i64 (needB D who d).1, i64 (needB D who d).2]) := by
 refine FnV.introD Tryd.call22 Tryd.func22 rfl Tryd.ntmps22 rfl ?_
 intro W M Rf
 refine r_seq ?_
 refine r_region ?_
 refine o_boxA rfl rfl rfl rfl rfl (fun b3 => ?_)
 refine o_q _ rfl rfl rfl (v_assign rfl rfl) ?_
 refine o_alloc rfl inf30 rfl rfl rfl rfl rfl (fun b7 => ?_)
 refine o_nil ?_
 with_reducible refine r_then ?_
 refine r_seq ?_
 refine r_region ?_
 refine o_defer rfl rfl rfl rfl ?_
 refine o_nil ?_
 with_reducible refine r_then ?_
 refine r_seq ?_
 refine r_parX 11 mixed (by kernel_rfl) (by rfl) ?_
 refine p_q _ rfl rfl rfl (fun _ _ => v_ldW rfl Tryd.underlying25 rfl inf25 rfl rfl) ?_
 refine p_q _ rfl rfl rfl (fun _ _ => v_ldW rfl Tryd.underlying25 rfl inf25 rfl rfl) ?_
 refine p_q _ rfl rfl rfl (fun _ _ => v_move rfl rfl) ?_
 refine p_q _ rfl rfl rfl (fun _ _ => v_cast (v := .bool false) (OpQ.fn (isWho_v D uo po uc pc who) rfl rfl SubRC.sub) (congrArg Value.bool h1)) ?_
 refine p_q _ rfl rfl rfl (fun _ _ => v_move rfl rfl) ?_
 refine p_gn rfl rfl rfl rfl ?_
 refine p_gn rfl rfl rfl rfl ?_
 refine p_q _ rfl rfl rfl (fun _ _ => v_pick_f rfl rfl rfl) ?_
 refine p_deadX (look_x1 D uo po uc pc _ hl1 hl2 hng) rfl rfl rfl rfl rfl SubRC.sub ?_
 refine p_q _ rfl rfl rfl (fun _ _ => v_move rfl rfl) ?_
 refine p_q _ rfl rfl rfl (fun _ _ => v_move rfl rfl) ?_
 refine p_nilX (panOf (.iface 103 (i64 1))) (by simp only [List.nil_append, List.cons_append]; rfl) rfl (by kernel_rfl) rfl ?_ ?_
 ·
  with_reducible refine r_then_panic ?_
  exact d_panv answer_ans (Rd.two rfl (RdI.tmp rfl) (RdI.cell1 Tryd.underlying30 rfl rfl rfl)) (by rw [needB, ansD_n (chkD_1 hng) (by decide)]; try rfl) SelMC.sel SubRC.sub
 ·
  refine f_q rfl ?_
  refine f_q rfl ?_
  refine f_q rfl ?_
  refine f_q rfl ?_
  refine f_q rfl ?_
  refine f_q rfl ?_
  refine f_q rfl ?_
  refine f_q rfl ?_
  exact f_dead
set_option maxHeartbeats 4000000 in
theorem need22_x1b (who d : Int) (hl1 : D.dues.length ≤ 40) (hl2 : D.paid.length ≤ 40) (hng : ¬ GoodD D) (h1 : isW D who = true) : FnV Tryd.prog 22 [valD D uo po uc pc, i64 who, i64 d] [rowD uo 5 encD D.dues, rowD po 4 encP D.paid, rowD (some ⟨0, 0, none⟩) 1 encE ([0, 1] : List Nat)] (.tuple #[i64 (needB D who d).1, i64 (needB D who d).2]) := by
 refine FnV.introD Tryd.call22 Tryd.func22 rfl Tryd.ntmps22 rfl ?_
 intro W M Rf
 refine r_seq ?_
 refine r_region ?_
 refine o_boxA rfl rfl rfl rfl rfl (fun b3 => ?_)
 refine o_q _ rfl rfl rfl (v_assign rfl rfl) ?_
 refine o_alloc rfl inf30 rfl rfl rfl rfl rfl (fun b7 => ?_)
 refine o_nil ?_
 with_reducible refine r_then ?_
 refine r_seq ?_
 refine r_region ?_
 refine o_defer rfl rfl rfl rfl ?_
 refine o_nil ?_
 with_reducible refine r_then ?_
 refine r_seq ?_
 refine r_parX 11 mixed (by kernel_rfl) (by rfl) ?_
 refine p_q _ rfl rfl rfl (fun _ _ => v_ldW rfl Tryd.underlying25 rfl inf25 rfl rfl) ?_
 refine p_q _ rfl rfl rfl (fun _ _ => v_ldW rfl Tryd.underlying25 rfl inf25 rfl rfl) ?_
 refine p_q _ rfl rfl rfl (fun _ _ => v_move rfl rfl) ?_
 refine p_q _ rfl rfl rfl (fun _ _ => v_cast (v := .bool true) (OpQ.fn (isWho_v D uo po uc pc who) rfl rfl SubRC.sub) (congrArg Value.bool h1)) ?_
 refine p_q _ rfl rfl rfl (fun _ _ => v_move rfl rfl) ?_
 refine p_g _ rfl rfl rfl rfl (fun _ _ => v_move rfl rfl) ?_
 refine p_g _ rfl rfl rfl rfl (fun _ _ => OpQ.fn (isDay_v d) rfl rfl SubRC.sub) ?_
 refine p_q _ rfl rfl rfl (fun _ _ => v_pick_t rfl rfl rfl) ?_
 refine p_deadX (look_x1 D uo po uc pc _ hl1 hl2 hng) rfl rfl rfl rfl rfl SubRC.sub ?_
 refine p_q _ rfl rfl rfl (fun _ _ => v_move rfl rfl) ?_
 refine p_q _ rfl rfl rfl (fun _ _ => v_move rfl rfl) ?_
 refine p_nilX (panOf (.iface 103 (i64 1))) (by simp only [List.nil_append, List.cons_append]; rfl) rfl (by kernel_rfl) rfl ?_ ?_
 ·
  with_reducible refine r_then_panic ?_
  exact d_panv answer_ans (Rd.two rfl (RdI.tmp rfl) (RdI.cell1 Tryd.underlying30 rfl rfl rfl)) (by rw [needB, ansD_n (chkD_1 hng) (by decide)]; try rfl) SelMC.sel SubRC.sub
 ·
  refine f_q rfl ?_
  refine f_q rfl ?_
  refine f_q rfl ?_
  refine f_q rfl ?_
  refine f_q rfl ?_
  refine f_q rfl ?_
  refine f_q rfl ?_
  refine f_q rfl ?_
  exact f_dead
set_option maxHeartbeats 4000000 in
theorem need22_x2a (who d : Int) (hl1 : D.dues.length ≤ 40) (hl2 : D.paid.length ≤ 40) (hg : GoodD D) (h1 : isW D who = false) : FnV Tryd.prog 22 [valD D uo po uc pc, i64 who, i64 d] [rowD uo 5 encD D.dues, rowD po 4 encP D.paid, rowD (some ⟨0, 0, none⟩) 1 encE ([0, 1] : List Nat)] (.tuple #[i64 (needB D who d).1, i64 (needB D who d).2]) := by
 refine FnV.introD Tryd.call22 Tryd.func22 rfl Tryd.ntmps22 rfl ?_
 intro W M Rf
 refine r_seq ?_
 refine r_region ?_
 refine o_boxA rfl rfl rfl rfl rfl (fun b3 => ?_)
 refine o_q _ rfl rfl rfl (v_assign rfl rfl) ?_
 refine o_alloc rfl inf30 rfl rfl rfl rfl rfl (fun b7 => ?_)
 refine o_nil ?_
 with_reducible refine r_then ?_
 refine r_seq ?_
 refine r_region ?_
 refine o_defer rfl rfl rfl rfl ?_
 refine o_nil ?_
 with_reducible refine r_then ?_
 refine r_seq ?_
 refine r_parX 11 mixed (by kernel_rfl) (by rfl) ?_
 refine p_q _ rfl rfl rfl (fun _ _ => v_ldW rfl Tryd.underlying25 rfl inf25 rfl rfl) ?_
 refine p_q _ rfl rfl rfl (fun _ _ => v_ldW rfl Tryd.underlying25 rfl inf25 rfl rfl) ?_
 refine p_q _ rfl rfl rfl (fun _ _ => v_move rfl rfl) ?_
 refine p_q _ rfl rfl rfl (fun _ _ => v_cast (v := .bool false) (OpQ.fn (isWho_v D uo po uc pc who) rfl rfl SubRC.sub) (congrArg Value.bool h1)) ?_
 refine p_q _ rfl rfl rfl (fun _ _ => v_move rfl rfl) ?_
 refine p_gn rfl rfl rfl rfl ?_
 refine p_gn rfl rfl rfl rfl ?_
 refine p_q _ rfl rfl rfl (fun _ _ => v_pick_f rfl rfl rfl) ?_
 refine p_deadX (look_x2 D uo po uc pc hl1 hl2 hg) rfl rfl rfl rfl rfl SubRC.sub ?_
 refine p_q _ rfl rfl rfl (fun _ _ => v_move rfl rfl) ?_
 refine p_q _ rfl rfl rfl (fun _ _ => v_move rfl rfl) ?_
 refine p_nilX (panOf (.iface 103 (i64 2))) (by simp only [List.nil_append, List.cons_append]; rfl) rfl (by kernel_rfl) rfl ?_ ?_
 ·
  with_reducible refine r_then_panic ?_
  exact d_panv answer_ans (Rd.two rfl (RdI.tmp rfl) (RdI.cell1 Tryd.underlying30 rfl rfl rfl)) (by rw [needB, ansD_n (chkD_2 hg (okF1 h1)) (by decide)]; try rfl) SelMC.sel SubRC.sub
 ·
  refine f_q rfl ?_
  refine f_q rfl ?_
  refine f_q rfl ?_
  refine f_q rfl ?_
  refine f_q rfl ?_
  refine f_q rfl ?_
  refine f_q rfl ?_
  refine f_q rfl ?_
  exact f_dead
set_option maxHeartbeats 4000000 in
theorem need22_x2b (who d : Int) (hl1 : D.dues.length ≤ 40) (hl2 : D.paid.length ≤ 40) (hg : GoodD D) (h1 : isW D who = true) (h2 : isDy d = false) : FnV Tryd.prog 22 [valD D uo po uc pc, i64 who, i64 d] [rowD uo 5 encD D.dues, rowD po 4 encP D.paid, rowD (some ⟨0, 0, none⟩) 1 encE ([0, 1] : List Nat)] (.tuple #[i64 (needB D who d).1, i64 (needB D who d).2]) := by
 refine FnV.introD Tryd.call22 Tryd.func22 rfl Tryd.ntmps22 rfl ?_
 intro W M Rf
 refine r_seq ?_
 refine r_region ?_
 refine o_boxA rfl rfl rfl rfl rfl (fun b3 => ?_)
 refine o_q _ rfl rfl rfl (v_assign rfl rfl) ?_
 refine o_alloc rfl inf30 rfl rfl rfl rfl rfl (fun b7 => ?_)
 refine o_nil ?_
 with_reducible refine r_then ?_
 refine r_seq ?_
 refine r_region ?_
 refine o_defer rfl rfl rfl rfl ?_
 refine o_nil ?_
 with_reducible refine r_then ?_
 refine r_seq ?_
 refine r_parX 11 mixed (by kernel_rfl) (by rfl) ?_
 refine p_q _ rfl rfl rfl (fun _ _ => v_ldW rfl Tryd.underlying25 rfl inf25 rfl rfl) ?_
 refine p_q _ rfl rfl rfl (fun _ _ => v_ldW rfl Tryd.underlying25 rfl inf25 rfl rfl) ?_
 refine p_q _ rfl rfl rfl (fun _ _ => v_move rfl rfl) ?_
 refine p_q _ rfl rfl rfl (fun _ _ => v_cast (v := .bool true) (OpQ.fn (isWho_v D uo po uc pc who) rfl rfl SubRC.sub) (congrArg Value.bool h1)) ?_
 refine p_q _ rfl rfl rfl (fun _ _ => v_move rfl rfl) ?_
 refine p_g _ rfl rfl rfl rfl (fun _ _ => v_move rfl rfl) ?_
 refine p_g _ rfl rfl rfl rfl (fun _ _ => v_cast (v := .bool false) (OpQ.fn (isDay_v d) rfl rfl SubRC.sub) (congrArg Value.bool h2)) ?_
 refine p_q _ rfl rfl rfl (fun _ _ => v_pick_t rfl rfl rfl) ?_
 refine p_deadX (look_x2 D uo po uc pc hl1 hl2 hg) rfl rfl rfl rfl rfl SubRC.sub ?_
 refine p_q _ rfl rfl rfl (fun _ _ => v_move rfl rfl) ?_
 refine p_q _ rfl rfl rfl (fun _ _ => v_move rfl rfl) ?_
 refine p_nilX (panOf (.iface 103 (i64 2))) (by simp only [List.nil_append, List.cons_append]; rfl) rfl (by kernel_rfl) rfl ?_ ?_
 ·
  with_reducible refine r_then_panic ?_
  exact d_panv answer_ans (Rd.two rfl (RdI.tmp rfl) (RdI.cell1 Tryd.underlying30 rfl rfl rfl)) (by rw [needB, ansD_n (chkD_2 hg (okF2 h2)) (by decide)]; try rfl) SelMC.sel SubRC.sub
 ·
  refine f_q rfl ?_
  refine f_q rfl ?_
  refine f_q rfl ?_
  refine f_q rfl ?_
  refine f_q rfl ?_
  refine f_q rfl ?_
  refine f_q rfl ?_
  refine f_q rfl ?_
  exact f_dead
set_option maxHeartbeats 4000000 in
theorem need22_ok (who d : Int) (hl1 : D.dues.length ≤ 40) (hl2 : D.paid.length ≤ 40) (hg : GoodD D) (h1 : isW D who = true) (h2 : isDy d = true) : FnV Tryd.prog 22 [valD D uo po uc pc, i64 who, i64 d] [rowD uo 5 encD D.dues, rowD po 4 encP D.paid, rowD (some ⟨0, 0, none⟩) 1 encE ([0, 1] : List Nat)] (.tuple #[i64 (needB D who d).1, i64 (needB D who d).2]) := by
 obtain ⟨dn, rfl⟩ : ∃ n : Nat, d = n := ⟨d.toNat, by have := of_decide_eq_true h2; omega⟩
 have hd := of_decide_eq_true h2
 have hq1 := hg.np
 have hwr : IntKind.i64.wrap (D.people - 1) = D.people - 1 := IntWalk.i64_in _ (by omega)
 have hwh := of_decide_eq_true h1
 have hdn : dn ≤ 30 := by omega
 have hwb : -1000 ≤ who ∧ who ≤ 1000 := by omega
 refine FnV.introD Tryd.call22 Tryd.func22 rfl Tryd.ntmps22 rfl ?_
 intro W M Rf
 refine r_seq ?_
 refine r_region ?_
 refine o_boxA rfl rfl rfl rfl rfl (fun b3 => ?_)
 refine o_q _ rfl rfl rfl (v_assign rfl rfl) ?_
 refine o_alloc rfl inf30 rfl rfl rfl rfl rfl (fun b7 => ?_)
 refine o_nil ?_
 with_reducible refine r_then ?_
 refine r_seq ?_
 refine r_region ?_
 refine o_defer rfl rfl rfl rfl ?_
 refine o_nil ?_
 with_reducible refine r_then ?_
 refine r_seq ?_
 refine r_par' 12 mixed (by kernel_rfl) (by rfl) ?_
 refine p_q _ rfl rfl rfl (fun _ _ => v_ldW rfl Tryd.underlying25 rfl inf25 rfl rfl) ?_
 refine p_q _ rfl rfl rfl (fun _ _ => v_ldW rfl Tryd.underlying25 rfl inf25 rfl rfl) ?_
 refine p_q _ rfl rfl rfl (fun _ _ => v_move rfl rfl) ?_
 refine p_q _ rfl rfl rfl (fun _ _ => v_cast (v := .bool true) (OpQ.fn (isWho_v D uo po uc pc who) rfl rfl SubRC.sub) (congrArg Value.bool h1)) ?_
 refine p_q _ rfl rfl rfl (fun _ _ => v_move rfl rfl) ?_
 refine p_g _ rfl rfl rfl rfl (fun _ _ => v_move rfl rfl) ?_
 refine p_g _ rfl rfl rfl rfl (fun _ _ => v_cast (v := .bool true) (OpQ.fn (isDay_v _) rfl rfl SubRC.sub) (congrArg Value.bool h2)) ?_
 refine p_q _ rfl rfl rfl (fun _ _ => v_pick_t rfl rfl rfl) ?_
 refine p_openL 11 (look_ok D uo po uc pc hl1 hl2 hg) rfl rfl rfl rfl rfl SubRC.sub ?_
 refine p_q _ rfl rfl rfl (fun _ _ => v_move rfl rfl) ?_
 refine p_q _ rfl rfl rfl (fun _ _ => v_move rfl rfl) ?_
 refine p_acc (by simp only [List.nil_append, List.cons_append]; rfl) ?_
 refine p_takeN 8 (led_need D uo po uc pc who dn hg hwb hdn) rfl rfl rfl (fun b => rfl) rfl (by kernel_rfl) rfl rfl rfl SubRC.sub ?_
 refine p_nil2 (by simp only [List.nil_append, List.cons_append]; rfl) rfl ?_ (by kernel_rfl)
 refine f_q rfl ?_
 refine f_q rfl ?_
 refine f_q rfl ?_
 refine f_q rfl ?_
 refine f_q rfl ?_
 refine f_q rfl ?_
 refine f_q rfl ?_
 refine f_q rfl ?_
 refine f_openL rfl (fun b16 => ?_)
 refine f_q rfl ?_
 refine f_q rfl ?_
 refine f_take rfl ?_
 refine f_nil ?_
 refine o_q _ rfl rfl rfl (v_assign rfl rfl) ?_
 refine o_st rfl inf30 rfl rfl rfl rfl rfl rfl rfl rfl ?_
 refine o_nil ?_
 with_reducible refine r_then ?_
 refine r_ret ?_
 exact d_retv answer_ans (Rd.two rfl (RdI.tmp rfl) (RdI.cell1 Tryd.underlying30 rfl rfl rfl)) (by rw [needB, ansD_0 (chkD_0 hg (okT h1 h2)), Int.toNat_natCast]; try rfl) SelMC.sel SubRC.sub
theorem need22_v (who d : Int) (hl1 : D.dues.length ≤ 40) (hl2 : D.paid.length ≤ 40) : FnV Tryd.prog 22 [valD D uo po uc pc, i64 who, i64 d] [rowD uo 5 encD D.dues, rowD po 4 encP D.paid, rowD (some ⟨0, 0, none⟩) 1 encE ([0, 1] : List Nat)] (.tuple #[i64 (needB D who d).1, i64 (needB D who d).2]) := by
  by_cases hg : GoodD D
  · cases h1 : isW D who
    · exact need22_x2a D uo po uc pc who d hl1 hl2 hg h1
    · cases h2 : isDy d
      · exact need22_x2b D uo po uc pc who d hl1 hl2 hg h1 h2
      · exact need22_ok D uo po uc pc who d hl1 hl2 hg h1 h2
  · cases h1 : isW D who
    · exact need22_x1a D uo po uc pc who d hl1 hl2 hg h1
    · exact need22_x1b D uo po uc pc who d hl1 hl2 hg h1
set_option maxHeartbeats 4000000 in
theorem setl18_x1a (who d : Int) (hl1 : D.dues.length ≤ 40) (hl2 : D.paid.length ≤ 40) (hng : ¬ GoodD D) (h1 : isW D who = false) : FnV Tryd.prog 18 [valD D uo po uc pc, i64 who, i64 d] [rowD uo 5 encD D.dues, rowD po 4 encP D.paid, rowD (some ⟨0, 0, none⟩) 1 encE ([0, 1] : List Nat)] (.tuple #[i64 (setlB D who d).1, i64 (setlB D who d).2]) := by
 refine FnV.introD Tryd.call18 Tryd.func18 rfl Tryd.ntmps18 rfl ?_
 intro W M Rf
 refine r_seq ?_
 refine r_region ?_
 refine o_boxA rfl rfl rfl rfl rfl (fun b3 => ?_)
 refine o_q _ rfl rfl rfl (v_assign rfl rfl) ?_
 refine o_alloc rfl inf30 rfl rfl rfl rfl rfl (fun b7 => ?_)
 refine o_nil ?_
 with_reducible refine r_then ?_
 refine r_seq ?_
 refine r_region ?_
 refine o_defer rfl rfl rfl rfl ?_
 refine o_nil ?_
 with_reducible refine r_then ?_
 refine r_seq ?_
 refine r_parX 13 mixed (by kernel_rfl) (by rfl) ?_
 refine p_q _ rfl rfl rfl (fun _ _ => v_ldW rfl Tryd.underlying25 rfl inf25 rfl rfl) ?_
 refine p_q _ rfl rfl rfl (fun _ _ => v_ldW rfl Tryd.underlying25 rfl inf25 rfl rfl) ?_
 refine p_q _ rfl rfl rfl (fun _ _ => v_move rfl rfl) ?_
 refine p_q _ rfl rfl rfl (fun _ _ => v_cast (v := .bool false) (OpQ.fn (isWho_v D uo po uc pc who) rfl rfl SubRC.sub) (congrArg Value.bool h1)) ?_
 refine p_q _ rfl rfl rfl (fun _ _ => v_move rfl rfl) ?_
 refine p_gn rfl rfl rfl rfl ?_
 refine p_gn rfl rfl rfl rfl ?_
 refine p_q _ rfl rfl rfl (fun _ _ => v_pick_f rfl rfl rfl) ?_
 refine p_deadX (look_x1 D uo po uc pc _ hl1 hl2 hng) rfl rfl rfl rfl rfl SubRC.sub ?_
 refine p_q _ rfl rfl rfl (fun _ _ => v_move rfl rfl) ?_
 refine p_q _ rfl rfl rfl (fun _ _ => v_move rfl rfl) ?_
 refine p_acc (by simp only [List.nil_append, List.cons_append]; rfl) ?_
 refine p_dead 8 rfl rfl rfl (fun _ h => h) (by kernel_rfl) rfl rfl rfl ?_
 refine p_alloc rfl inf29 rfl rfl rfl rfl rfl ?_
 refine p_nilX (panOf (.iface 103 (i64 1))) (by simp only [List.nil_append, List.cons_append]; rfl) rfl (by kernel_rfl) rfl ?_ ?_
 ·
  with_reducible refine r_then_panic ?_
  exact d_panv answer_ans (Rd.two rfl (RdI.tmp rfl) (RdI.cell1 Tryd.underlying30 rfl rfl rfl)) (by rw [setlB, ansD_n (chkD_1 hng) (by decide)]; try rfl) SelMC.sel SubRC.sub
 ·
  refine f_q rfl ?_
  refine f_q rfl ?_
  refine f_q rfl ?_
  refine f_q rfl ?_
  refine f_q rfl ?_
  refine f_q rfl ?_
  refine f_q rfl ?_
  refine f_q rfl ?_
  exact f_dead
set_option maxHeartbeats 4000000 in
theorem setl18_x1b (who d : Int) (hl1 : D.dues.length ≤ 40) (hl2 : D.paid.length ≤ 40) (hng : ¬ GoodD D) (h1 : isW D who = true) : FnV Tryd.prog 18 [valD D uo po uc pc, i64 who, i64 d] [rowD uo 5 encD D.dues, rowD po 4 encP D.paid, rowD (some ⟨0, 0, none⟩) 1 encE ([0, 1] : List Nat)] (.tuple #[i64 (setlB D who d).1, i64 (setlB D who d).2]) := by
 refine FnV.introD Tryd.call18 Tryd.func18 rfl Tryd.ntmps18 rfl ?_
 intro W M Rf
 refine r_seq ?_
 refine r_region ?_
 refine o_boxA rfl rfl rfl rfl rfl (fun b3 => ?_)
 refine o_q _ rfl rfl rfl (v_assign rfl rfl) ?_
 refine o_alloc rfl inf30 rfl rfl rfl rfl rfl (fun b7 => ?_)
 refine o_nil ?_
 with_reducible refine r_then ?_
 refine r_seq ?_
 refine r_region ?_
 refine o_defer rfl rfl rfl rfl ?_
 refine o_nil ?_
 with_reducible refine r_then ?_
 refine r_seq ?_
 refine r_parX 13 mixed (by kernel_rfl) (by rfl) ?_
 refine p_q _ rfl rfl rfl (fun _ _ => v_ldW rfl Tryd.underlying25 rfl inf25 rfl rfl) ?_
 refine p_q _ rfl rfl rfl (fun _ _ => v_ldW rfl Tryd.underlying25 rfl inf25 rfl rfl) ?_
 refine p_q _ rfl rfl rfl (fun _ _ => v_move rfl rfl) ?_
 refine p_q _ rfl rfl rfl (fun _ _ => v_cast (v := .bool true) (OpQ.fn (isWho_v D uo po uc pc who) rfl rfl SubRC.sub) (congrArg Value.bool h1)) ?_
 refine p_q _ rfl rfl rfl (fun _ _ => v_move rfl rfl) ?_
 refine p_g _ rfl rfl rfl rfl (fun _ _ => v_move rfl rfl) ?_
 refine p_g _ rfl rfl rfl rfl (fun _ _ => OpQ.fn (isDay_v d) rfl rfl SubRC.sub) ?_
 refine p_q _ rfl rfl rfl (fun _ _ => v_pick_t rfl rfl rfl) ?_
 refine p_deadX (look_x1 D uo po uc pc _ hl1 hl2 hng) rfl rfl rfl rfl rfl SubRC.sub ?_
 refine p_q _ rfl rfl rfl (fun _ _ => v_move rfl rfl) ?_
 refine p_q _ rfl rfl rfl (fun _ _ => v_move rfl rfl) ?_
 refine p_acc (by simp only [List.nil_append, List.cons_append]; rfl) ?_
 refine p_dead 8 rfl rfl rfl (fun _ h => h) (by kernel_rfl) rfl rfl rfl ?_
 refine p_alloc rfl inf29 rfl rfl rfl rfl rfl ?_
 refine p_nilX (panOf (.iface 103 (i64 1))) (by simp only [List.nil_append, List.cons_append]; rfl) rfl (by kernel_rfl) rfl ?_ ?_
 ·
  with_reducible refine r_then_panic ?_
  exact d_panv answer_ans (Rd.two rfl (RdI.tmp rfl) (RdI.cell1 Tryd.underlying30 rfl rfl rfl)) (by rw [setlB, ansD_n (chkD_1 hng) (by decide)]; try rfl) SelMC.sel SubRC.sub
 ·
  refine f_q rfl ?_
  refine f_q rfl ?_
  refine f_q rfl ?_
  refine f_q rfl ?_
  refine f_q rfl ?_
  refine f_q rfl ?_
  refine f_q rfl ?_
  refine f_q rfl ?_
  exact f_dead
set_option maxHeartbeats 4000000 in
theorem setl18_x2a (who d : Int) (hl1 : D.dues.length ≤ 40) (hl2 : D.paid.length ≤ 40) (hg : GoodD D) (h1 : isW D who = false) : FnV Tryd.prog 18 [valD D uo po uc pc, i64 who, i64 d] [rowD uo 5 encD D.dues, rowD po 4 encP D.paid, rowD (some ⟨0, 0, none⟩) 1 encE ([0, 1] : List Nat)] (.tuple #[i64 (setlB D who d).1, i64 (setlB D who d).2]) := by
 refine FnV.introD Tryd.call18 Tryd.func18 rfl Tryd.ntmps18 rfl ?_
 intro W M Rf
 refine r_seq ?_
 refine r_region ?_
 refine o_boxA rfl rfl rfl rfl rfl (fun b3 => ?_)
 refine o_q _ rfl rfl rfl (v_assign rfl rfl) ?_
 refine o_alloc rfl inf30 rfl rfl rfl rfl rfl (fun b7 => ?_)
 refine o_nil ?_
 with_reducible refine r_then ?_
 refine r_seq ?_
 refine r_region ?_
 refine o_defer rfl rfl rfl rfl ?_
 refine o_nil ?_
 with_reducible refine r_then ?_
 refine r_seq ?_
 refine r_parX 13 mixed (by kernel_rfl) (by rfl) ?_
 refine p_q _ rfl rfl rfl (fun _ _ => v_ldW rfl Tryd.underlying25 rfl inf25 rfl rfl) ?_
 refine p_q _ rfl rfl rfl (fun _ _ => v_ldW rfl Tryd.underlying25 rfl inf25 rfl rfl) ?_
 refine p_q _ rfl rfl rfl (fun _ _ => v_move rfl rfl) ?_
 refine p_q _ rfl rfl rfl (fun _ _ => v_cast (v := .bool false) (OpQ.fn (isWho_v D uo po uc pc who) rfl rfl SubRC.sub) (congrArg Value.bool h1)) ?_
 refine p_q _ rfl rfl rfl (fun _ _ => v_move rfl rfl) ?_
 refine p_gn rfl rfl rfl rfl ?_
 refine p_gn rfl rfl rfl rfl ?_
 refine p_q _ rfl rfl rfl (fun _ _ => v_pick_f rfl rfl rfl) ?_
 refine p_deadX (look_x2 D uo po uc pc hl1 hl2 hg) rfl rfl rfl rfl rfl SubRC.sub ?_
 refine p_q _ rfl rfl rfl (fun _ _ => v_move rfl rfl) ?_
 refine p_q _ rfl rfl rfl (fun _ _ => v_move rfl rfl) ?_
 refine p_acc (by simp only [List.nil_append, List.cons_append]; rfl) ?_
 refine p_dead 8 rfl rfl rfl (fun _ h => h) (by kernel_rfl) rfl rfl rfl ?_
 refine p_alloc rfl inf29 rfl rfl rfl rfl rfl ?_
 refine p_nilX (panOf (.iface 103 (i64 2))) (by simp only [List.nil_append, List.cons_append]; rfl) rfl (by kernel_rfl) rfl ?_ ?_
 ·
  with_reducible refine r_then_panic ?_
  exact d_panv answer_ans (Rd.two rfl (RdI.tmp rfl) (RdI.cell1 Tryd.underlying30 rfl rfl rfl)) (by rw [setlB, ansD_n (chkD_2 hg (okF1 h1)) (by decide)]; try rfl) SelMC.sel SubRC.sub
 ·
  refine f_q rfl ?_
  refine f_q rfl ?_
  refine f_q rfl ?_
  refine f_q rfl ?_
  refine f_q rfl ?_
  refine f_q rfl ?_
  refine f_q rfl ?_
  refine f_q rfl ?_
  exact f_dead
set_option maxHeartbeats 4000000 in
theorem setl18_x2b (who d : Int) (hl1 : D.dues.length ≤ 40) (hl2 : D.paid.length ≤ 40) (hg : GoodD D) (h1 : isW D who = true) (h2 : isDy d = false) : FnV Tryd.prog 18 [valD D uo po uc pc, i64 who, i64 d] [rowD uo 5 encD D.dues, rowD po 4 encP D.paid, rowD (some ⟨0, 0, none⟩) 1 encE ([0, 1] : List Nat)] (.tuple #[i64 (setlB D who d).1, i64 (setlB D who d).2]) := by
 refine FnV.introD Tryd.call18 Tryd.func18 rfl Tryd.ntmps18 rfl ?_
 intro W M Rf
 refine r_seq ?_
 refine r_region ?_
 refine o_boxA rfl rfl rfl rfl rfl (fun b3 => ?_)
 refine o_q _ rfl rfl rfl (v_assign rfl rfl) ?_
 refine o_alloc rfl inf30 rfl rfl rfl rfl rfl (fun b7 => ?_)
 refine o_nil ?_
 with_reducible refine r_then ?_
 refine r_seq ?_
 refine r_region ?_
 refine o_defer rfl rfl rfl rfl ?_
 refine o_nil ?_
 with_reducible refine r_then ?_
 refine r_seq ?_
 refine r_parX 13 mixed (by kernel_rfl) (by rfl) ?_
 refine p_q _ rfl rfl rfl (fun _ _ => v_ldW rfl Tryd.underlying25 rfl inf25 rfl rfl) ?_
 refine p_q _ rfl rfl rfl (fun _ _ => v_ldW rfl Tryd.underlying25 rfl inf25 rfl rfl) ?_
 refine p_q _ rfl rfl rfl (fun _ _ => v_move rfl rfl) ?_
 refine p_q _ rfl rfl rfl (fun _ _ => v_cast (v := .bool true) (OpQ.fn (isWho_v D uo po uc pc who) rfl rfl SubRC.sub) (congrArg Value.bool h1)) ?_
 refine p_q _ rfl rfl rfl (fun _ _ => v_move rfl rfl) ?_
 refine p_g _ rfl rfl rfl rfl (fun _ _ => v_move rfl rfl) ?_
 refine p_g _ rfl rfl rfl rfl (fun _ _ => v_cast (v := .bool false) (OpQ.fn (isDay_v d) rfl rfl SubRC.sub) (congrArg Value.bool h2)) ?_
 refine p_q _ rfl rfl rfl (fun _ _ => v_pick_t rfl rfl rfl) ?_
 refine p_deadX (look_x2 D uo po uc pc hl1 hl2 hg) rfl rfl rfl rfl rfl SubRC.sub ?_
 refine p_q _ rfl rfl rfl (fun _ _ => v_move rfl rfl) ?_
 refine p_q _ rfl rfl rfl (fun _ _ => v_move rfl rfl) ?_
 refine p_acc (by simp only [List.nil_append, List.cons_append]; rfl) ?_
 refine p_dead 8 rfl rfl rfl (fun _ h => h) (by kernel_rfl) rfl rfl rfl ?_
 refine p_alloc rfl inf29 rfl rfl rfl rfl rfl ?_
 refine p_nilX (panOf (.iface 103 (i64 2))) (by simp only [List.nil_append, List.cons_append]; rfl) rfl (by kernel_rfl) rfl ?_ ?_
 ·
  with_reducible refine r_then_panic ?_
  exact d_panv answer_ans (Rd.two rfl (RdI.tmp rfl) (RdI.cell1 Tryd.underlying30 rfl rfl rfl)) (by rw [setlB, ansD_n (chkD_2 hg (okF2 h2)) (by decide)]; try rfl) SelMC.sel SubRC.sub
 ·
  refine f_q rfl ?_
  refine f_q rfl ?_
  refine f_q rfl ?_
  refine f_q rfl ?_
  refine f_q rfl ?_
  refine f_q rfl ?_
  refine f_q rfl ?_
  refine f_q rfl ?_
  exact f_dead
set_option maxHeartbeats 4000000 in
theorem setl18_ok (who d : Int) (hl1 : D.dues.length ≤ 40) (hl2 : D.paid.length ≤ 40) (hg : GoodD D) (h1 : isW D who = true) (h2 : isDy d = true) : FnV Tryd.prog 18 [valD D uo po uc pc, i64 who, i64 d] [rowD uo 5 encD D.dues, rowD po 4 encP D.paid, rowD (some ⟨0, 0, none⟩) 1 encE ([0, 1] : List Nat)] (.tuple #[i64 (setlB D who d).1, i64 (setlB D who d).2]) := by
 obtain ⟨dn, rfl⟩ : ∃ n : Nat, d = n := ⟨d.toNat, by have := of_decide_eq_true h2; omega⟩
 have hd := of_decide_eq_true h2
 have hq1 := hg.np
 have hwr : IntKind.i64.wrap (D.people - 1) = D.people - 1 := IntWalk.i64_in _ (by omega)
 have hwh := of_decide_eq_true h1
 have hdn : dn ≤ 30 := by omega
 have hwb : -1000 ≤ who ∧ who ≤ 1000 := by omega
 refine FnV.introD Tryd.call18 Tryd.func18 rfl Tryd.ntmps18 rfl ?_
 intro W M Rf
 refine r_seq ?_
 refine r_region ?_
 refine o_boxA rfl rfl rfl rfl rfl (fun b3 => ?_)
 refine o_q _ rfl rfl rfl (v_assign rfl rfl) ?_
 refine o_alloc rfl inf30 rfl rfl rfl rfl rfl (fun b7 => ?_)
 refine o_nil ?_
 with_reducible refine r_then ?_
 refine r_seq ?_
 refine r_region ?_
 refine o_defer rfl rfl rfl rfl ?_
 refine o_nil ?_
 with_reducible refine r_then ?_
 refine r_seq ?_
 refine r_par' 13 mixed (by kernel_rfl) (by rfl) ?_
 refine p_q _ rfl rfl rfl (fun _ _ => v_ldW rfl Tryd.underlying25 rfl inf25 rfl rfl) ?_
 refine p_q _ rfl rfl rfl (fun _ _ => v_ldW rfl Tryd.underlying25 rfl inf25 rfl rfl) ?_
 refine p_q _ rfl rfl rfl (fun _ _ => v_move rfl rfl) ?_
 refine p_q _ rfl rfl rfl (fun _ _ => v_cast (v := .bool true) (OpQ.fn (isWho_v D uo po uc pc who) rfl rfl SubRC.sub) (congrArg Value.bool h1)) ?_
 refine p_q _ rfl rfl rfl (fun _ _ => v_move rfl rfl) ?_
 refine p_g _ rfl rfl rfl rfl (fun _ _ => v_move rfl rfl) ?_
 refine p_g _ rfl rfl rfl rfl (fun _ _ => v_cast (v := .bool true) (OpQ.fn (isDay_v _) rfl rfl SubRC.sub) (congrArg Value.bool h2)) ?_
 refine p_q _ rfl rfl rfl (fun _ _ => v_pick_t rfl rfl rfl) ?_
 refine p_openL 11 (look_ok D uo po uc pc hl1 hl2 hg) rfl rfl rfl rfl rfl SubRC.sub ?_
 refine p_q _ rfl rfl rfl (fun _ _ => v_move rfl rfl) ?_
 refine p_q _ rfl rfl rfl (fun _ _ => v_move rfl rfl) ?_
 refine p_acc (by simp only [List.nil_append, List.cons_append]; rfl) ?_
 refine p_takeN 8 (led_left D uo po uc pc who dn hg hwb hdn) rfl rfl rfl (fun b => rfl) rfl (by kernel_rfl) rfl rfl rfl SubRC.sub ?_
 refine p_alloc rfl inf29 rfl rfl rfl rfl rfl ?_
 refine p_nil2 (by simp only [List.nil_append, List.cons_append]; rfl) rfl ?_ (by kernel_rfl)
 refine f_q rfl ?_
 refine f_q rfl ?_
 refine f_q rfl ?_
 refine f_q rfl ?_
 refine f_q rfl ?_
 refine f_q rfl ?_
 refine f_q rfl ?_
 refine f_q rfl ?_
 refine f_openL rfl (fun b17 => ?_)
 refine f_q rfl ?_
 refine f_q rfl ?_
 refine f_take rfl ?_
 refine f_alloc rfl (fun b8 => ?_)
 refine f_nil ?_
 refine o_st rfl inf29 rfl rfl rfl rfl rfl rfl rfl rfl ?_
 refine o_nil ?_
 with_reducible refine r_then ?_
 refine r_seq ?_
 refine r_block ?_
 refine r_seq ?_
 refine Imp.box_to b8 [i64 (leftT D who dn).lo, i64 (leftT D who dn).hi] rfl ?_
 refine r_region ?_
 refine o_q _ rfl rfl rfl (v_fieldAddr rfl Tryd.underlying29 inf3 rfl rfl rfl rfl) ?_
 refine o_q _ rfl rfl rfl (v_ld1 rfl Tryd.underlying3 rfl rfl rfl) ?_
 refine o_q _ rfl rfl rfl (v_eql rfl rfl rfl) ?_
 refine o_q _ rfl rfl rfl (v_assign rfl rfl) ?_
 refine o_nil ?_
 with_reducible refine r_then ?_
 refine r_condd rfl (fun hc21 => ?_) (fun hc21 => ?_)
 ·
  refine r_seq ?_
  refine r_region ?_
  refine o_q _ rfl rfl rfl (v_assign rfl rfl) ?_
  refine o_st rfl inf30 rfl rfl rfl rfl rfl rfl rfl rfl ?_
  refine o_nil ?_
  with_reducible refine r_then ?_
  refine r_ret ?_
  with_reducible refine r_in_ret ?_; refine r_then_ret ?_
  exact d_retv answer_ans (Rd.two rfl (RdI.tmp rfl) (RdI.cell1 Tryd.underlying30 rfl rfl rfl)) (by rw [setlB, ansD_0 (chkD_0 hg (okT h1 h2)), Int.toNat_natCast, grade_2 (by omega)]; try rfl) SelMC.sel SubRC.sub
 ·
  refine r_seq ?_
  refine r_region ?_
  refine o_q _ rfl rfl rfl (v_fieldAddr rfl Tryd.underlying29 inf3 rfl rfl rfl rfl) ?_
  refine o_q _ rfl rfl rfl (v_ld1 rfl Tryd.underlying3 rfl rfl rfl) ?_
  refine o_q _ rfl rfl rfl (v_eql rfl rfl rfl) ?_
  refine o_q _ rfl rfl rfl (v_assign rfl rfl) ?_
  refine o_nil ?_
  with_reducible refine r_then ?_
  refine r_condd rfl (fun hc25 => ?_) (fun hc25 => ?_)
  ·
   refine r_seq ?_
   refine r_region ?_
   refine o_q _ rfl rfl rfl (v_assign rfl rfl) ?_
   refine o_st rfl inf30 rfl rfl rfl rfl rfl rfl rfl rfl ?_
   refine o_nil ?_
   with_reducible refine r_then ?_
   refine r_ret ?_
   with_reducible refine r_in_ret ?_; refine r_then_ret ?_
   exact d_retv answer_ans (Rd.two rfl (RdI.tmp rfl) (RdI.cell1 Tryd.underlying30 rfl rfl rfl)) (by rw [setlB, ansD_0 (chkD_0 hg (okT h1 h2)), Int.toNat_natCast, grade_1 (by omega) (by omega)]; try rfl) SelMC.sel SubRC.sub
  ·
   refine r_skip ?_
   with_reducible refine r_in_normal ?_; refine r_then ?_
   refine r_seq ?_
   refine r_region ?_
   refine o_q _ rfl rfl rfl (v_assign rfl rfl) ?_
   refine o_st rfl inf30 rfl rfl rfl rfl rfl rfl rfl rfl ?_
   refine o_nil ?_
   with_reducible refine r_then ?_
   refine r_ret ?_
   exact d_retv answer_ans (Rd.two rfl (RdI.tmp rfl) (RdI.cell1 Tryd.underlying30 rfl rfl rfl)) (by rw [setlB, ansD_0 (chkD_0 hg (okT h1 h2)), Int.toNat_natCast, grade_0 (by omega) (by omega)]; try rfl) SelMC.sel SubRC.sub
theorem setl18_v (who d : Int) (hl1 : D.dues.length ≤ 40) (hl2 : D.paid.length ≤ 40) : FnV Tryd.prog 18 [valD D uo po uc pc, i64 who, i64 d] [rowD uo 5 encD D.dues, rowD po 4 encP D.paid, rowD (some ⟨0, 0, none⟩) 1 encE ([0, 1] : List Nat)] (.tuple #[i64 (setlB D who d).1, i64 (setlB D who d).2]) := by
  by_cases hg : GoodD D
  · cases h1 : isW D who
    · exact setl18_x2a D uo po uc pc who d hl1 hl2 hg h1
    · cases h2 : isDy d
      · exact setl18_x2b D uo po uc pc who d hl1 hl2 hg h1 h2
      · exact setl18_ok D uo po uc pc who d hl1 hl2 hg h1 h2
  · cases h1 : isW D who
    · exact setl18_x1a D uo po uc pc who d hl1 hl2 hg h1
    · exact setl18_x1b D uo po uc pc who d hl1 hl2 hg h1
theorem depF {P Q : List Opn × Int} {u : Value} (h : isAA P Q u) : isA P (fstT u) ∧ ∀ φ ∈ facA P (fstT u), φ ∈ facAA P Q u := by
  obtain ⟨x, y, hx, _, rfl⟩ := h
  exact ⟨hx, fun φ hφ => by rw [List.mem_singleton.1 hφ]; exact List.mem_cons_self ..⟩
theorem depS {P Q : List Opn × Int} {u : Value} (h : isAA P Q u) : isA Q (sndT u) ∧ ∀ φ ∈ facA Q (sndT u), φ ∈ facAA P Q u := by
  obtain ⟨x, y, _, hy, rfl⟩ := h
  exact ⟨hy, fun φ hφ => by rw [List.mem_singleton.1 hφ]; exact List.mem_cons_of_mem _ (List.mem_cons_self ..)⟩
theorem depX {P Q : List Opn × Int} {u : Value} {W : World} {n : Nat} {L : Tm} {M : List Res} {R : List Fact} {o : Oper} {x : Operand} (h : isAA P Q u) (ho : o.op = .extract x 0) (hx : ev L x = some u) : OpQ Tryd.prog W n L M R o (fstT u) := by
  obtain ⟨a, b, _, _, rfl⟩ := h
  exact v_extract ho hx rfl
theorem depY {P Q : List Opn × Int} {u : Value} {W : World} {n : Nat} {L : Tm} {M : List Res} {R : List Fact} {o : Oper} {x : Operand} (h : isAA P Q u) (ho : o.op = .extract x 1) (hx : ev L x = some u) : OpQ Tryd.prog W n L M R o (sndT u) := by
  obtain ⟨a, b, _, _, rfl⟩ := h
  exact v_extract ho hx rfl
theorem float_ext {n : Nat} {L : Tm} {o : Oper} {x : Operand} {j : Nat} {vs : List Value} {v : Value} (ho : o.op = .extract x j) (hx : ev L x = some (.tuple vs.toArray)) (hv : vs[j]? = some v) : ∀ a, FSat n L a → ∀ w, True → (execOp a.eval o).run Tryd.prog w = .ok (.value v) w := fun g h1 w _ => by simp [execOp, ho, h1.ev hx, Instr.extract, hv]
theorem floatS {P Q : List Opn × Int} {u : Value} {n : Nat} {L : Tm} {o : Oper} {x : Operand} (h : isAA P Q u) (ho : o.op = .extract x 1) (hx : ev L x = some u) : ∀ a, FSat n L a → ∀ w, True → (execOp a.eval o).run Tryd.prog w = .ok (.value (sndT u)) w := by
  obtain ⟨a, b, _, _, rfl⟩ := h
  exact float_ext (vs := [a, b]) ho hx rfl
set_option maxHeartbeats 4000000 in
theorem ahead16_x1a (who d : Int) (hl1 : D.dues.length ≤ 40) (hl2 : D.paid.length ≤ 40) (hng : ¬ GoodD D) (h1 : isW D who = false) : FnV Tryd.prog 16 [valD D uo po uc pc, i64 who, i64 d] [rowD uo 5 encD D.dues, rowD po 4 encP D.paid, rowD (some ⟨0, 0, none⟩) 1 encE ([0, 1] : List Nat)] (.tuple #[vS (aheadB D who d).1, i64 (aheadB D who d).2]) := by
 refine FnV.introD Tryd.call16 Tryd.func16 rfl Tryd.ntmps16 rfl ?_
 intro W M Rf
 refine r_seq ?_
 refine r_region ?_
 refine o_boxA rfl rfl rfl rfl rfl (fun b3 => ?_)
 refine o_alloc rfl inf29 rfl rfl rfl rfl rfl (fun b6 => ?_)
 refine o_alloc rfl inf30 rfl rfl rfl rfl rfl (fun b7 => ?_)
 refine o_nil ?_
 with_reducible refine r_then ?_
 refine r_seq ?_
 refine r_region ?_
 refine o_defer rfl rfl rfl rfl ?_
 refine o_nil ?_
 with_reducible refine r_then ?_
 refine r_seq ?_
 refine r_parX 19 mixed (by kernel_rfl) (by rfl) ?_
 refine p_q _ rfl rfl rfl (fun _ _ => v_ldW rfl Tryd.underlying25 rfl inf25 rfl rfl) ?_
 refine p_q _ rfl rfl rfl (fun _ _ => v_ldW rfl Tryd.underlying25 rfl inf25 rfl rfl) ?_
 refine p_q _ rfl rfl rfl (fun _ _ => v_move rfl rfl) ?_
 refine p_q _ rfl rfl rfl (fun _ _ => v_cast (v := .bool false) (OpQ.fn (isWho_v D uo po uc pc who) rfl rfl SubRC.sub) (congrArg Value.bool h1)) ?_
 refine p_q _ rfl rfl rfl (fun _ _ => v_move rfl rfl) ?_
 refine p_gn rfl rfl rfl rfl ?_
 refine p_gn rfl rfl rfl rfl ?_
 refine p_q _ rfl rfl rfl (fun _ _ => v_pick_f rfl rfl rfl) ?_
 refine p_deadX (look_x1 D uo po uc pc _ hl1 hl2 hng) rfl rfl rfl rfl rfl SubRC.sub ?_
 refine p_q _ rfl rfl rfl (fun _ _ => v_move rfl rfl) ?_
 refine p_q _ rfl rfl rfl (fun _ _ => v_move rfl rfl) ?_
 refine p_acc (by simp only [List.nil_append, List.cons_append]; rfl) ?_
 refine p_dead 8 rfl rfl rfl (fun _ h => h) (by kernel_rfl) rfl rfl rfl ?_
 refine p_acc (by simp only [List.nil_append, List.cons_append]; rfl) ?_
 refine p_dead 11 rfl rfl rfl (fun _ h => h) (by kernel_rfl) rfl rfl rfl ?_
 refine p_acc (by simp only [List.nil_append, List.cons_append]; rfl) ?_
 refine p_dead 12 rfl rfl rfl (fun _ h => h) (by kernel_rfl) rfl rfl rfl ?_
 refine p_acc (by simp only [List.nil_append, List.cons_append]; rfl) ?_
 refine p_dead 12 rfl rfl rfl (fun _ h => h) (by kernel_rfl) rfl rfl rfl ?_
 refine p_alloc rfl inf77 rfl rfl rfl rfl rfl ?_
 refine p_alloc rfl inf77 rfl rfl rfl rfl rfl ?_
 refine p_acc (by simp only [List.nil_append, List.cons_append]; rfl) ?_
 refine p_deadS 13 rfl rfl rfl (fun _ h => h) (by kernel_rfl) rfl rfl ?_
 refine p_acc (by simp only [List.nil_append, List.cons_append]; rfl) ?_
 refine p_deadS 14 rfl rfl rfl (fun _ h => h) (by kernel_rfl) rfl rfl ?_
 refine p_nilX (panOf (.iface 103 (i64 1))) (by simp only [List.nil_append, List.cons_append]; rfl) rfl (by kernel_rfl) rfl ?_ ?_
 ·
  with_reducible refine r_then_panic ?_
  exact d_panv answer_ans (Rd.two rfl (RdI.cellW Tryd.underlying29 rfl inf29 rfl rfl) (RdI.cell1 Tryd.underlying30 rfl rfl rfl)) (by rw [aheadB, ansD_n (chkD_1 hng) (by decide)]; try rfl) SelMC.sel SubRC.sub
 ·
  refine f_q rfl ?_
  refine f_q rfl ?_
  refine f_q rfl ?_
  refine f_q rfl ?_
  refine f_q rfl ?_
  refine f_q rfl ?_
  refine f_q rfl ?_
  refine f_q rfl ?_
  exact f_dead
set_option maxHeartbeats 4000000 in
theorem ahead16_x1b (who d : Int) (hl1 : D.dues.length ≤ 40) (hl2 : D.paid.length ≤ 40) (hng : ¬ GoodD D) (h1 : isW D who = true) : FnV Tryd.prog 16 [valD D uo po uc pc, i64 who, i64 d] [rowD uo 5 encD D.dues, rowD po 4 encP D.paid, rowD (some ⟨0, 0, none⟩) 1 encE ([0, 1] : List Nat)] (.tuple #[vS (aheadB D who d).1, i64 (aheadB D who d).2]) := by
 refine FnV.introD Tryd.call16 Tryd.func16 rfl Tryd.ntmps16 rfl ?_
 intro W M Rf
 refine r_seq ?_
 refine r_region ?_
 refine o_boxA rfl rfl rfl rfl rfl (fun b3 => ?_)
 refine o_alloc rfl inf29 rfl rfl rfl rfl rfl (fun b6 => ?_)
 refine o_alloc rfl inf30 rfl rfl rfl rfl rfl (fun b7 => ?_)
 refine o_nil ?_
 with_reducible refine r_then ?_
 refine r_seq ?_
 refine r_region ?_
 refine o_defer rfl rfl rfl rfl ?_
 refine o_nil ?_
 with_reducible refine r_then ?_
 refine r_seq ?_
 refine r_parX 19 mixed (by kernel_rfl) (by rfl) ?_
 refine p_q _ rfl rfl rfl (fun _ _ => v_ldW rfl Tryd.underlying25 rfl inf25 rfl rfl) ?_
 refine p_q _ rfl rfl rfl (fun _ _ => v_ldW rfl Tryd.underlying25 rfl inf25 rfl rfl) ?_
 refine p_q _ rfl rfl rfl (fun _ _ => v_move rfl rfl) ?_
 refine p_q _ rfl rfl rfl (fun _ _ => v_cast (v := .bool true) (OpQ.fn (isWho_v D uo po uc pc who) rfl rfl SubRC.sub) (congrArg Value.bool h1)) ?_
 refine p_q _ rfl rfl rfl (fun _ _ => v_move rfl rfl) ?_
 refine p_g _ rfl rfl rfl rfl (fun _ _ => v_move rfl rfl) ?_
 refine p_g _ rfl rfl rfl rfl (fun _ _ => OpQ.fn (isDay_v d) rfl rfl SubRC.sub) ?_
 refine p_q _ rfl rfl rfl (fun _ _ => v_pick_t rfl rfl rfl) ?_
 refine p_deadX (look_x1 D uo po uc pc _ hl1 hl2 hng) rfl rfl rfl rfl rfl SubRC.sub ?_
 refine p_q _ rfl rfl rfl (fun _ _ => v_move rfl rfl) ?_
 refine p_q _ rfl rfl rfl (fun _ _ => v_move rfl rfl) ?_
 refine p_acc (by simp only [List.nil_append, List.cons_append]; rfl) ?_
 refine p_dead 8 rfl rfl rfl (fun _ h => h) (by kernel_rfl) rfl rfl rfl ?_
 refine p_acc (by simp only [List.nil_append, List.cons_append]; rfl) ?_
 refine p_dead 11 rfl rfl rfl (fun _ h => h) (by kernel_rfl) rfl rfl rfl ?_
 refine p_acc (by simp only [List.nil_append, List.cons_append]; rfl) ?_
 refine p_dead 12 rfl rfl rfl (fun _ h => h) (by kernel_rfl) rfl rfl rfl ?_
 refine p_acc (by simp only [List.nil_append, List.cons_append]; rfl) ?_
 refine p_dead 12 rfl rfl rfl (fun _ h => h) (by kernel_rfl) rfl rfl rfl ?_
 refine p_alloc rfl inf77 rfl rfl rfl rfl rfl ?_
 refine p_alloc rfl inf77 rfl rfl rfl rfl rfl ?_
 refine p_acc (by simp only [List.nil_append, List.cons_append]; rfl) ?_
 refine p_deadS 13 rfl rfl rfl (fun _ h => h) (by kernel_rfl) rfl rfl ?_
 refine p_acc (by simp only [List.nil_append, List.cons_append]; rfl) ?_
 refine p_deadS 14 rfl rfl rfl (fun _ h => h) (by kernel_rfl) rfl rfl ?_
 refine p_nilX (panOf (.iface 103 (i64 1))) (by simp only [List.nil_append, List.cons_append]; rfl) rfl (by kernel_rfl) rfl ?_ ?_
 ·
  with_reducible refine r_then_panic ?_
  exact d_panv answer_ans (Rd.two rfl (RdI.cellW Tryd.underlying29 rfl inf29 rfl rfl) (RdI.cell1 Tryd.underlying30 rfl rfl rfl)) (by rw [aheadB, ansD_n (chkD_1 hng) (by decide)]; try rfl) SelMC.sel SubRC.sub
 ·
  refine f_q rfl ?_
  refine f_q rfl ?_
  refine f_q rfl ?_
  refine f_q rfl ?_
  refine f_q rfl ?_
  refine f_q rfl ?_
  refine f_q rfl ?_
  refine f_q rfl ?_
  exact f_dead
set_option maxHeartbeats 4000000 in
theorem ahead16_x2a (who d : Int) (hl1 : D.dues.length ≤ 40) (hl2 : D.paid.length ≤ 40) (hg : GoodD D) (h1 : isW D who = false) : FnV Tryd.prog 16 [valD D uo po uc pc, i64 who, i64 d] [rowD uo 5 encD D.dues, rowD po 4 encP D.paid, rowD (some ⟨0, 0, none⟩) 1 encE ([0, 1] : List Nat)] (.tuple #[vS (aheadB D who d).1, i64 (aheadB D who d).2]) := by
 refine FnV.introD Tryd.call16 Tryd.func16 rfl Tryd.ntmps16 rfl ?_
 intro W M Rf
 refine r_seq ?_
 refine r_region ?_
 refine o_boxA rfl rfl rfl rfl rfl (fun b3 => ?_)
 refine o_alloc rfl inf29 rfl rfl rfl rfl rfl (fun b6 => ?_)
 refine o_alloc rfl inf30 rfl rfl rfl rfl rfl (fun b7 => ?_)
 refine o_nil ?_
 with_reducible refine r_then ?_
 refine r_seq ?_
 refine r_region ?_
 refine o_defer rfl rfl rfl rfl ?_
 refine o_nil ?_
 with_reducible refine r_then ?_
 refine r_seq ?_
 refine r_parX 19 mixed (by kernel_rfl) (by rfl) ?_
 refine p_q _ rfl rfl rfl (fun _ _ => v_ldW rfl Tryd.underlying25 rfl inf25 rfl rfl) ?_
 refine p_q _ rfl rfl rfl (fun _ _ => v_ldW rfl Tryd.underlying25 rfl inf25 rfl rfl) ?_
 refine p_q _ rfl rfl rfl (fun _ _ => v_move rfl rfl) ?_
 refine p_q _ rfl rfl rfl (fun _ _ => v_cast (v := .bool false) (OpQ.fn (isWho_v D uo po uc pc who) rfl rfl SubRC.sub) (congrArg Value.bool h1)) ?_
 refine p_q _ rfl rfl rfl (fun _ _ => v_move rfl rfl) ?_
 refine p_gn rfl rfl rfl rfl ?_
 refine p_gn rfl rfl rfl rfl ?_
 refine p_q _ rfl rfl rfl (fun _ _ => v_pick_f rfl rfl rfl) ?_
 refine p_deadX (look_x2 D uo po uc pc hl1 hl2 hg) rfl rfl rfl rfl rfl SubRC.sub ?_
 refine p_q _ rfl rfl rfl (fun _ _ => v_move rfl rfl) ?_
 refine p_q _ rfl rfl rfl (fun _ _ => v_move rfl rfl) ?_
 refine p_acc (by simp only [List.nil_append, List.cons_append]; rfl) ?_
 refine p_dead 8 rfl rfl rfl (fun _ h => h) (by kernel_rfl) rfl rfl rfl ?_
 refine p_acc (by simp only [List.nil_append, List.cons_append]; rfl) ?_
 refine p_dead 11 rfl rfl rfl (fun _ h => h) (by kernel_rfl) rfl rfl rfl ?_
 refine p_acc (by simp only [List.nil_append, List.cons_append]; rfl) ?_
 refine p_dead 12 rfl rfl rfl (fun _ h => h) (by kernel_rfl) rfl rfl rfl ?_
 refine p_acc (by simp only [List.nil_append, List.cons_append]; rfl) ?_
 refine p_dead 12 rfl rfl rfl (fun _ h => h) (by kernel_rfl) rfl rfl rfl ?_
 refine p_alloc rfl inf77 rfl rfl rfl rfl rfl ?_
 refine p_alloc rfl inf77 rfl rfl rfl rfl rfl ?_
 refine p_acc (by simp only [List.nil_append, List.cons_append]; rfl) ?_
 refine p_deadS 13 rfl rfl rfl (fun _ h => h) (by kernel_rfl) rfl rfl ?_
 refine p_acc (by simp only [List.nil_append, List.cons_append]; rfl) ?_
 refine p_deadS 14 rfl rfl rfl (fun _ h => h) (by kernel_rfl) rfl rfl ?_
 refine p_nilX (panOf (.iface 103 (i64 2))) (by simp only [List.nil_append, List.cons_append]; rfl) rfl (by kernel_rfl) rfl ?_ ?_
 ·
  with_reducible refine r_then_panic ?_
  exact d_panv answer_ans (Rd.two rfl (RdI.cellW Tryd.underlying29 rfl inf29 rfl rfl) (RdI.cell1 Tryd.underlying30 rfl rfl rfl)) (by rw [aheadB, ansD_n (chkD_2 hg (okF1 h1)) (by decide)]; try rfl) SelMC.sel SubRC.sub
 ·
  refine f_q rfl ?_
  refine f_q rfl ?_
  refine f_q rfl ?_
  refine f_q rfl ?_
  refine f_q rfl ?_
  refine f_q rfl ?_
  refine f_q rfl ?_
  refine f_q rfl ?_
  exact f_dead
set_option maxHeartbeats 4000000 in
theorem ahead16_x2b (who d : Int) (hl1 : D.dues.length ≤ 40) (hl2 : D.paid.length ≤ 40) (hg : GoodD D) (h1 : isW D who = true) (h2 : isDy d = false) : FnV Tryd.prog 16 [valD D uo po uc pc, i64 who, i64 d] [rowD uo 5 encD D.dues, rowD po 4 encP D.paid, rowD (some ⟨0, 0, none⟩) 1 encE ([0, 1] : List Nat)] (.tuple #[vS (aheadB D who d).1, i64 (aheadB D who d).2]) := by
 refine FnV.introD Tryd.call16 Tryd.func16 rfl Tryd.ntmps16 rfl ?_
 intro W M Rf
 refine r_seq ?_
 refine r_region ?_
 refine o_boxA rfl rfl rfl rfl rfl (fun b3 => ?_)
 refine o_alloc rfl inf29 rfl rfl rfl rfl rfl (fun b6 => ?_)
 refine o_alloc rfl inf30 rfl rfl rfl rfl rfl (fun b7 => ?_)
 refine o_nil ?_
 with_reducible refine r_then ?_
 refine r_seq ?_
 refine r_region ?_
 refine o_defer rfl rfl rfl rfl ?_
 refine o_nil ?_
 with_reducible refine r_then ?_
 refine r_seq ?_
 refine r_parX 19 mixed (by kernel_rfl) (by rfl) ?_
 refine p_q _ rfl rfl rfl (fun _ _ => v_ldW rfl Tryd.underlying25 rfl inf25 rfl rfl) ?_
 refine p_q _ rfl rfl rfl (fun _ _ => v_ldW rfl Tryd.underlying25 rfl inf25 rfl rfl) ?_
 refine p_q _ rfl rfl rfl (fun _ _ => v_move rfl rfl) ?_
 refine p_q _ rfl rfl rfl (fun _ _ => v_cast (v := .bool true) (OpQ.fn (isWho_v D uo po uc pc who) rfl rfl SubRC.sub) (congrArg Value.bool h1)) ?_
 refine p_q _ rfl rfl rfl (fun _ _ => v_move rfl rfl) ?_
 refine p_g _ rfl rfl rfl rfl (fun _ _ => v_move rfl rfl) ?_
 refine p_g _ rfl rfl rfl rfl (fun _ _ => v_cast (v := .bool false) (OpQ.fn (isDay_v d) rfl rfl SubRC.sub) (congrArg Value.bool h2)) ?_
 refine p_q _ rfl rfl rfl (fun _ _ => v_pick_t rfl rfl rfl) ?_
 refine p_deadX (look_x2 D uo po uc pc hl1 hl2 hg) rfl rfl rfl rfl rfl SubRC.sub ?_
 refine p_q _ rfl rfl rfl (fun _ _ => v_move rfl rfl) ?_
 refine p_q _ rfl rfl rfl (fun _ _ => v_move rfl rfl) ?_
 refine p_acc (by simp only [List.nil_append, List.cons_append]; rfl) ?_
 refine p_dead 8 rfl rfl rfl (fun _ h => h) (by kernel_rfl) rfl rfl rfl ?_
 refine p_acc (by simp only [List.nil_append, List.cons_append]; rfl) ?_
 refine p_dead 11 rfl rfl rfl (fun _ h => h) (by kernel_rfl) rfl rfl rfl ?_
 refine p_acc (by simp only [List.nil_append, List.cons_append]; rfl) ?_
 refine p_dead 12 rfl rfl rfl (fun _ h => h) (by kernel_rfl) rfl rfl rfl ?_
 refine p_acc (by simp only [List.nil_append, List.cons_append]; rfl) ?_
 refine p_dead 12 rfl rfl rfl (fun _ h => h) (by kernel_rfl) rfl rfl rfl ?_
 refine p_alloc rfl inf77 rfl rfl rfl rfl rfl ?_
 refine p_alloc rfl inf77 rfl rfl rfl rfl rfl ?_
 refine p_acc (by simp only [List.nil_append, List.cons_append]; rfl) ?_
 refine p_deadS 13 rfl rfl rfl (fun _ h => h) (by kernel_rfl) rfl rfl ?_
 refine p_acc (by simp only [List.nil_append, List.cons_append]; rfl) ?_
 refine p_deadS 14 rfl rfl rfl (fun _ h => h) (by kernel_rfl) rfl rfl ?_
 refine p_nilX (panOf (.iface 103 (i64 2))) (by simp only [List.nil_append, List.cons_append]; rfl) rfl (by kernel_rfl) rfl ?_ ?_
 ·
  with_reducible refine r_then_panic ?_
  exact d_panv answer_ans (Rd.two rfl (RdI.cellW Tryd.underlying29 rfl inf29 rfl rfl) (RdI.cell1 Tryd.underlying30 rfl rfl rfl)) (by rw [aheadB, ansD_n (chkD_2 hg (okF2 h2)) (by decide)]; try rfl) SelMC.sel SubRC.sub
 ·
  refine f_q rfl ?_
  refine f_q rfl ?_
  refine f_q rfl ?_
  refine f_q rfl ?_
  refine f_q rfl ?_
  refine f_q rfl ?_
  refine f_q rfl ?_
  refine f_q rfl ?_
  exact f_dead
set_option maxHeartbeats 4000000 in
theorem ahead16_ok (who d : Int) (hl1 : D.dues.length ≤ 40) (hl2 : D.paid.length ≤ 40) (hg : GoodD D) (h1 : isW D who = true) (h2 : isDy d = true) : FnV Tryd.prog 16 [valD D uo po uc pc, i64 who, i64 d] [rowD uo 5 encD D.dues, rowD po 4 encP D.paid, rowD (some ⟨0, 0, none⟩) 1 encE ([0, 1] : List Nat)] (.tuple #[vS (aheadB D who d).1, i64 (aheadB D who d).2]) := by
 obtain ⟨dn, rfl⟩ : ∃ n : Nat, d = n := ⟨d.toNat, by have := of_decide_eq_true h2; omega⟩
 have hd := of_decide_eq_true h2
 have hq1 := hg.np
 have hwr : IntKind.i64.wrap (D.people - 1) = D.people - 1 := IntWalk.i64_in _ (by omega)
 have hwh := of_decide_eq_true h1
 have hdn : dn ≤ 30 := by omega
 have hwb : -1000 ≤ who ∧ who ≤ 1000 := by omega
 refine FnV.introD Tryd.call16 Tryd.func16 rfl Tryd.ntmps16 rfl ?_
 intro W M Rf
 refine r_seq ?_
 refine r_region ?_
 refine o_boxA rfl rfl rfl rfl rfl (fun b3 => ?_)
 refine o_alloc rfl inf29 rfl rfl rfl rfl rfl (fun b6 => ?_)
 refine o_alloc rfl inf30 rfl rfl rfl rfl rfl (fun b7 => ?_)
 refine o_nil ?_
 with_reducible refine r_then ?_
 refine r_seq ?_
 refine r_region ?_
 refine o_defer rfl rfl rfl rfl ?_
 refine o_nil ?_
 with_reducible refine r_then ?_
 refine r_seq ?_
 refine r_parY (fun _ => True) (fun _ _ _ _ => trivial) [14] 17 (by kernel_rfl) (by kernel_rfl) (by kernel_rfl) (by kernel_rfl) (by kernel_rfl) mixed (by kernel_rfl) (by rfl) ?_
 refine p_q _ rfl rfl rfl (fun _ _ => v_ldW rfl Tryd.underlying25 rfl inf25 rfl rfl) ?_
 refine p_q _ rfl rfl rfl (fun _ _ => v_ldW rfl Tryd.underlying25 rfl inf25 rfl rfl) ?_
 refine p_q _ rfl rfl rfl (fun _ _ => v_move rfl rfl) ?_
 refine p_q _ rfl rfl rfl (fun _ _ => v_cast (v := .bool true) (OpQ.fn (isWho_v D uo po uc pc who) rfl rfl SubRC.sub) (congrArg Value.bool h1)) ?_
 refine p_q _ rfl rfl rfl (fun _ _ => v_move rfl rfl) ?_
 refine p_g _ rfl rfl rfl rfl (fun _ _ => v_move rfl rfl) ?_
 refine p_g _ rfl rfl rfl rfl (fun _ _ => v_cast (v := .bool true) (OpQ.fn (isDay_v _) rfl rfl SubRC.sub) (congrArg Value.bool h2)) ?_
 refine p_q _ rfl rfl rfl (fun _ _ => v_pick_t rfl rfl rfl) ?_
 refine p_openL 11 (look_ok D uo po uc pc hl1 hl2 hg) rfl rfl rfl rfl rfl SubRC.sub ?_
 refine p_q _ rfl rfl rfl (fun _ _ => v_move rfl rfl) ?_
 refine p_q _ rfl rfl rfl (fun _ _ => v_move rfl rfl) ?_
 refine p_acc (by simp only [List.nil_append, List.cons_append]; rfl) ?_
 refine p_takeG 8 (led_both D uo po uc pc who dn hg hwb hdn) rfl rfl rfl (fun b => rfl) rfl (by kernel_rfl) rfl rfl rfl SubRC.sub ?_
 refine p_acc (by simp only [List.nil_append, List.cons_append]; rfl) ?_
 refine p_depU (pv := isAA (progA D 0 who (dn + 1)) (progA D 1 who (dn + 1))) (fc := facAA (progA D 0 who (dn + 1)) (progA D 1 who (dn + 1))) 11 (fun u => u) rfl rfl rfl rfl (by kernel_rfl) rfl rfl rfl (fun u h => ⟨h, fun _ h => h⟩) (fun u _ _ _ => v_move rfl rfl) ?_
 refine p_acc (by simp only [List.nil_append, List.cons_append]; rfl) ?_
 refine p_depU (pv := isA (progA D 0 who (dn + 1))) (fc := facA (progA D 0 who (dn + 1))) 12 (fstT) rfl rfl rfl rfl (by kernel_rfl) rfl rfl rfl (fun u h => depF h) (fun u h _ _ => depX h rfl rfl) ?_
 refine p_acc (by simp only [List.nil_append, List.cons_append]; rfl) ?_
 refine p_depU (pv := isA (progA D 1 who (dn + 1))) (fc := facA (progA D 1 who (dn + 1))) 12 (sndT) rfl rfl rfl rfl (by kernel_rfl) rfl rfl rfl (fun u h => depS h) (fun u h _ _ => depY h rfl rfl) ?_
 refine p_alloc rfl inf77 rfl rfl rfl rfl rfl ?_
 refine p_alloc rfl inf77 rfl rfl rfl rfl rfl ?_
 refine p_nilF (by simp only [List.nil_append, List.cons_append]; rfl) rfl ⟨⟨_, _, _, rfl, rfl, rfl, rfl, rfl, rfl, rfl, fun _ => rfl, .inr ⟨rfl, 12, _, _, sndT, rfl, rfl, rfl, (by kernel_rfl), rfl, fun u h => ⟨(depS h).1, (depS h).2, floatS h rfl rfl⟩⟩⟩, trivial⟩ ?_ (by kernel_rfl)
 refine f_q rfl ?_
 refine f_q rfl ?_
 refine f_q rfl ?_
 refine f_q rfl ?_
 refine f_q rfl ?_
 refine f_q rfl ?_
 refine f_q rfl ?_
 refine f_q rfl ?_
 refine f_openL rfl (fun b19 => ?_)
 refine f_q rfl ?_
 refine f_q rfl ?_
 refine f_takeG rfl (fun v22 hv22 => ?_)
 refine f_gf rfl (fun v12 hv12 => ?_)
 refine f_gf rfl (fun v13 hv13 => ?_)
 refine f_gf rfl (fun v14 hv14 => ?_)
 refine f_alloc rfl (fun b8 => ?_)
 refine f_alloc rfl (fun b9 => ?_)
 refine f_nil ?_
 obtain ⟨oa, ca, rfl⟩ := hv13
 obtain ⟨ob, cb, rfl⟩ := hv14
 refine Imp.derive (ψ := rowD ob 4 encO (progA D 1 who (dn + 1)).1) ?_ (fun V hV => hV _ (List.mem_append_left _ (List.mem_singleton.2 rfl)))
 refine Imp.derive (ψ := rowD oa 4 encO (progA D 0 who (dn + 1)).1) ?_ (fun V hV => hV _ (List.mem_cons_of_mem _ (List.mem_append_right _ (List.mem_append_left _ (List.mem_singleton.2 rfl)))))
 refine oz_lift (fun _ _ => trivial) ?_
 refine o_st rfl inf77 rfl rfl rfl rfl rfl rfl rfl rfl ?_
 refine o_nil ?_
 refine r_then ?_
 refine oz_lift (fun _ _ => trivial) ?_
 refine o_st rfl inf77 rfl rfl rfl rfl rfl rfl rfl rfl ?_
 refine o_nil ?_
 refine r_then ?_
 refine oz_nil (fun _ _ => trivial) ?_
 refine r_nop ?_
 with_reducible refine r_then ?_
 refine r_seq ?_
 refine Imp.box_to b8 [.slice oa (progA D 0 who (dn + 1)).1.length ca, i64 (progA D 0 who (dn + 1)).2] rfl ?_
 refine Imp.box_to b9 [.slice ob (progA D 1 who (dn + 1)).1.length cb, i64 (progA D 1 who (dn + 1)).2] rfl ?_
 refine r_region ?_
 refine o_q _ rfl rfl rfl (v_fieldAddr rfl Tryd.underlying77 inf75 rfl rfl rfl rfl) ?_
 refine o_q _ rfl rfl rfl (v_ld1 rfl Tryd.underlying75 rfl rfl rfl) ?_
 refine o_q _ rfl rfl rfl (v_fieldAddr rfl Tryd.underlying77 inf75 rfl rfl rfl rfl) ?_
 refine o_q _ rfl rfl rfl (v_ld1 rfl Tryd.underlying75 rfl rfl rfl) ?_
 refine o_q _ rfl rfl rfl (v_bS rfl Tryd.underlying29 inf29 plt29 rfl rfl rfl (by repeat (first | exact trivial | refine ⟨rfl, ?_⟩)) (by rfl)) ?_
 refine o_st rfl inf29 rfl rfl rfl rfl rfl rfl rfl rfl ?_
 refine o_st rfl inf30 rfl rfl rfl rfl rfl rfl rfl rfl ?_
 refine o_nil ?_
 with_reducible refine r_then ?_
 refine r_ret ?_
 exact d_retv answer_ans (Rd.two rfl (RdI.cellW Tryd.underlying29 rfl inf29 rfl rfl) (RdI.cell1 Tryd.underlying30 rfl rfl rfl)) (by rw [aheadB, ansD_0 (chkD_0 hg (okT h1 h2)), Int.toNat_natCast]; try rfl) SelMC.sel SubRC.sub
theorem ahead16_v (who d : Int) (hl1 : D.dues.length ≤ 40) (hl2 : D.paid.length ≤ 40) : FnV Tryd.prog 16 [valD D uo po uc pc, i64 who, i64 d] [rowD uo 5 encD D.dues, rowD po 4 encP D.paid, rowD (some ⟨0, 0, none⟩) 1 encE ([0, 1] : List Nat)] (.tuple #[vS (aheadB D who d).1, i64 (aheadB D who d).2]) := by
  by_cases hg : GoodD D
  · cases h1 : isW D who
    · exact ahead16_x2a D uo po uc pc who d hl1 hl2 hg h1
    · cases h2 : isDy d
      · exact ahead16_x2b D uo po uc pc who d hl1 hl2 hg h1 h2
      · exact ahead16_ok D uo po uc pc who d hl1 hl2 hg h1 h2
  · cases h1 : isW D who
    · exact ahead16_x1a D uo po uc pc who d hl1 hl2 hg h1
    · exact ahead16_x1b D uo po uc pc who d hl1 hl2 hg h1
set_option maxHeartbeats 4000000 in
theorem open20_x1a (who d : Int) (hl1 : D.dues.length ≤ 40) (hl2 : D.paid.length ≤ 40) (hng : ¬ GoodD D) (h1 : isW D who = false) : FnV Tryd.prog 20 [valD D uo po uc pc, i64 who, i64 d] [rowD uo 5 encD D.dues, rowD po 4 encP D.paid, rowD (some ⟨0, 0, none⟩) 1 encE ([0, 1] : List Nat)] (.tuple #[i64 ((openB D who d).1.1 : Nat), i64 ((openB D who d).1.2 : Nat), i64 (openB D who d).2]) := by
 refine FnV.introD Tryd.call20 Tryd.func20 rfl Tryd.ntmps20 rfl ?_
 intro W M Rf
 refine r_seq ?_
 refine r_region ?_
 refine o_boxA rfl rfl rfl rfl rfl (fun b3 => ?_)
 refine o_q _ rfl rfl rfl (v_assign rfl rfl) ?_
 refine o_q _ rfl rfl rfl (v_assign rfl rfl) ?_
 refine o_alloc rfl inf30 rfl rfl rfl rfl rfl (fun b8 => ?_)
 refine o_nil ?_
 with_reducible refine r_then ?_
 refine r_seq ?_
 refine r_region ?_
 refine o_defer rfl rfl rfl rfl ?_
 refine o_nil ?_
 with_reducible refine r_then ?_
 refine r_seq ?_
 refine r_parX 19 mixed (by kernel_rfl) (by rfl) ?_
 refine p_q _ rfl rfl rfl (fun _ _ => v_ldW rfl Tryd.underlying25 rfl inf25 rfl rfl) ?_
 refine p_q _ rfl rfl rfl (fun _ _ => v_ldW rfl Tryd.underlying25 rfl inf25 rfl rfl) ?_
 refine p_q _ rfl rfl rfl (fun _ _ => v_move rfl rfl) ?_
 refine p_q _ rfl rfl rfl (fun _ _ => v_cast (v := .bool false) (OpQ.fn (isWho_v D uo po uc pc who) rfl rfl SubRC.sub) (congrArg Value.bool h1)) ?_
 refine p_q _ rfl rfl rfl (fun _ _ => v_move rfl rfl) ?_
 refine p_gn rfl rfl rfl rfl ?_
 refine p_gn rfl rfl rfl rfl ?_
 refine p_q _ rfl rfl rfl (fun _ _ => v_pick_f rfl rfl rfl) ?_
 refine p_deadX (look_x1 D uo po uc pc _ hl1 hl2 hng) rfl rfl rfl rfl rfl SubRC.sub ?_
 refine p_q _ rfl rfl rfl (fun _ _ => v_move rfl rfl) ?_
 refine p_q _ rfl rfl rfl (fun _ _ => v_move rfl rfl) ?_
 refine p_acc (by simp only [List.nil_append, List.cons_append]; rfl) ?_
 refine p_dead 8 rfl rfl rfl (fun _ h => h) (by kernel_rfl) rfl rfl rfl ?_
 refine p_acc (by simp only [List.nil_append, List.cons_append]; rfl) ?_
 refine p_dead 11 rfl rfl rfl (fun _ h => h) (by kernel_rfl) rfl rfl rfl ?_
 refine p_acc (by simp only [List.nil_append, List.cons_append]; rfl) ?_
 refine p_dead 12 rfl rfl rfl (fun _ h => h) (by kernel_rfl) rfl rfl rfl ?_
 refine p_acc (by simp only [List.nil_append, List.cons_append]; rfl) ?_
 refine p_dead 12 rfl rfl rfl (fun _ h => h) (by kernel_rfl) rfl rfl rfl ?_
 refine p_alloc rfl inf77 rfl rfl rfl rfl rfl ?_
 refine p_alloc rfl inf77 rfl rfl rfl rfl rfl ?_
 refine p_acc (by simp only [List.nil_append, List.cons_append]; rfl) ?_
 refine p_deadS 13 rfl rfl rfl (fun _ h => h) (by kernel_rfl) rfl rfl ?_
 refine p_acc (by simp only [List.nil_append, List.cons_append]; rfl) ?_
 refine p_deadS 14 rfl rfl rfl (fun _ h => h) (by kernel_rfl) rfl rfl ?_
 refine p_nilX (panOf (.iface 103 (i64 1))) (by simp only [List.nil_append, List.cons_append]; rfl) rfl (by kernel_rfl) rfl ?_ ?_
 ·
  with_reducible refine r_then_panic ?_
  exact d_panv answer_ans (Rd.three rfl (RdI.tmp rfl) (RdI.tmp rfl) (RdI.cell1 Tryd.underlying30 rfl rfl rfl)) (by rw [openB, ansD_n (chkD_1 hng) (by decide)]; try rfl) SelMC.sel SubRC.sub
 ·
  refine f_q rfl ?_
  refine f_q rfl ?_
  refine f_q rfl ?_
  refine f_q rfl ?_
  refine f_q rfl ?_
  refine f_q rfl ?_
  refine f_q rfl ?_
  refine f_q rfl ?_
  exact f_dead
set_option maxHeartbeats 4000000 in
theorem open20_x1b (who d : Int) (hl1 : D.dues.length ≤ 40) (hl2 : D.paid.length ≤ 40) (hng : ¬ GoodD D) (h1 : isW D who = true) : FnV Tryd.prog 20 [valD D uo po uc pc, i64 who, i64 d] [rowD uo 5 encD D.dues, rowD po 4 encP D.paid, rowD (some ⟨0, 0, none⟩) 1 encE ([0, 1] : List Nat)] (.tuple #[i64 ((openB D who d).1.1 : Nat), i64 ((openB D who d).1.2 : Nat), i64 (openB D who d).2]) := by
 refine FnV.introD Tryd.call20 Tryd.func20 rfl Tryd.ntmps20 rfl ?_
 intro W M Rf
 refine r_seq ?_
 refine r_region ?_
 refine o_boxA rfl rfl rfl rfl rfl (fun b3 => ?_)
 refine o_q _ rfl rfl rfl (v_assign rfl rfl) ?_
 refine o_q _ rfl rfl rfl (v_assign rfl rfl) ?_
 refine o_alloc rfl inf30 rfl rfl rfl rfl rfl (fun b8 => ?_)
 refine o_nil ?_
 with_reducible refine r_then ?_
 refine r_seq ?_
 refine r_region ?_
 refine o_defer rfl rfl rfl rfl ?_
 refine o_nil ?_
 with_reducible refine r_then ?_
 refine r_seq ?_
 refine r_parX 19 mixed (by kernel_rfl) (by rfl) ?_
 refine p_q _ rfl rfl rfl (fun _ _ => v_ldW rfl Tryd.underlying25 rfl inf25 rfl rfl) ?_
 refine p_q _ rfl rfl rfl (fun _ _ => v_ldW rfl Tryd.underlying25 rfl inf25 rfl rfl) ?_
 refine p_q _ rfl rfl rfl (fun _ _ => v_move rfl rfl) ?_
 refine p_q _ rfl rfl rfl (fun _ _ => v_cast (v := .bool true) (OpQ.fn (isWho_v D uo po uc pc who) rfl rfl SubRC.sub) (congrArg Value.bool h1)) ?_
 refine p_q _ rfl rfl rfl (fun _ _ => v_move rfl rfl) ?_
 refine p_g _ rfl rfl rfl rfl (fun _ _ => v_move rfl rfl) ?_
 refine p_g _ rfl rfl rfl rfl (fun _ _ => OpQ.fn (isDay_v d) rfl rfl SubRC.sub) ?_
 refine p_q _ rfl rfl rfl (fun _ _ => v_pick_t rfl rfl rfl) ?_
 refine p_deadX (look_x1 D uo po uc pc _ hl1 hl2 hng) rfl rfl rfl rfl rfl SubRC.sub ?_
 refine p_q _ rfl rfl rfl (fun _ _ => v_move rfl rfl) ?_
 refine p_q _ rfl rfl rfl (fun _ _ => v_move rfl rfl) ?_
 refine p_acc (by simp only [List.nil_append, List.cons_append]; rfl) ?_
 refine p_dead 8 rfl rfl rfl (fun _ h => h) (by kernel_rfl) rfl rfl rfl ?_
 refine p_acc (by simp only [List.nil_append, List.cons_append]; rfl) ?_
 refine p_dead 11 rfl rfl rfl (fun _ h => h) (by kernel_rfl) rfl rfl rfl ?_
 refine p_acc (by simp only [List.nil_append, List.cons_append]; rfl) ?_
 refine p_dead 12 rfl rfl rfl (fun _ h => h) (by kernel_rfl) rfl rfl rfl ?_
 refine p_acc (by simp only [List.nil_append, List.cons_append]; rfl) ?_
 refine p_dead 12 rfl rfl rfl (fun _ h => h) (by kernel_rfl) rfl rfl rfl ?_
 refine p_alloc rfl inf77 rfl rfl rfl rfl rfl ?_
 refine p_alloc rfl inf77 rfl rfl rfl rfl rfl ?_
 refine p_acc (by simp only [List.nil_append, List.cons_append]; rfl) ?_
 refine p_deadS 13 rfl rfl rfl (fun _ h => h) (by kernel_rfl) rfl rfl ?_
 refine p_acc (by simp only [List.nil_append, List.cons_append]; rfl) ?_
 refine p_deadS 14 rfl rfl rfl (fun _ h => h) (by kernel_rfl) rfl rfl ?_
 refine p_nilX (panOf (.iface 103 (i64 1))) (by simp only [List.nil_append, List.cons_append]; rfl) rfl (by kernel_rfl) rfl ?_ ?_
 ·
  with_reducible refine r_then_panic ?_
  exact d_panv answer_ans (Rd.three rfl (RdI.tmp rfl) (RdI.tmp rfl) (RdI.cell1 Tryd.underlying30 rfl rfl rfl)) (by rw [openB, ansD_n (chkD_1 hng) (by decide)]; try rfl) SelMC.sel SubRC.sub
 ·
  refine f_q rfl ?_
  refine f_q rfl ?_
  refine f_q rfl ?_
  refine f_q rfl ?_
  refine f_q rfl ?_
  refine f_q rfl ?_
  refine f_q rfl ?_
  refine f_q rfl ?_
  exact f_dead
set_option maxHeartbeats 4000000 in
theorem open20_x2a (who d : Int) (hl1 : D.dues.length ≤ 40) (hl2 : D.paid.length ≤ 40) (hg : GoodD D) (h1 : isW D who = false) : FnV Tryd.prog 20 [valD D uo po uc pc, i64 who, i64 d] [rowD uo 5 encD D.dues, rowD po 4 encP D.paid, rowD (some ⟨0, 0, none⟩) 1 encE ([0, 1] : List Nat)] (.tuple #[i64 ((openB D who d).1.1 : Nat), i64 ((openB D who d).1.2 : Nat), i64 (openB D who d).2]) := by
 refine FnV.introD Tryd.call20 Tryd.func20 rfl Tryd.ntmps20 rfl ?_
 intro W M Rf
 refine r_seq ?_
 refine r_region ?_
 refine o_boxA rfl rfl rfl rfl rfl (fun b3 => ?_)
 refine o_q _ rfl rfl rfl (v_assign rfl rfl) ?_
 refine o_q _ rfl rfl rfl (v_assign rfl rfl) ?_
 refine o_alloc rfl inf30 rfl rfl rfl rfl rfl (fun b8 => ?_)
 refine o_nil ?_
 with_reducible refine r_then ?_
 refine r_seq ?_
 refine r_region ?_
 refine o_defer rfl rfl rfl rfl ?_
 refine o_nil ?_
 with_reducible refine r_then ?_
 refine r_seq ?_
 refine r_parX 19 mixed (by kernel_rfl) (by rfl) ?_
 refine p_q _ rfl rfl rfl (fun _ _ => v_ldW rfl Tryd.underlying25 rfl inf25 rfl rfl) ?_
 refine p_q _ rfl rfl rfl (fun _ _ => v_ldW rfl Tryd.underlying25 rfl inf25 rfl rfl) ?_
 refine p_q _ rfl rfl rfl (fun _ _ => v_move rfl rfl) ?_
 refine p_q _ rfl rfl rfl (fun _ _ => v_cast (v := .bool false) (OpQ.fn (isWho_v D uo po uc pc who) rfl rfl SubRC.sub) (congrArg Value.bool h1)) ?_
 refine p_q _ rfl rfl rfl (fun _ _ => v_move rfl rfl) ?_
 refine p_gn rfl rfl rfl rfl ?_
 refine p_gn rfl rfl rfl rfl ?_
 refine p_q _ rfl rfl rfl (fun _ _ => v_pick_f rfl rfl rfl) ?_
 refine p_deadX (look_x2 D uo po uc pc hl1 hl2 hg) rfl rfl rfl rfl rfl SubRC.sub ?_
 refine p_q _ rfl rfl rfl (fun _ _ => v_move rfl rfl) ?_
 refine p_q _ rfl rfl rfl (fun _ _ => v_move rfl rfl) ?_
 refine p_acc (by simp only [List.nil_append, List.cons_append]; rfl) ?_
 refine p_dead 8 rfl rfl rfl (fun _ h => h) (by kernel_rfl) rfl rfl rfl ?_
 refine p_acc (by simp only [List.nil_append, List.cons_append]; rfl) ?_
 refine p_dead 11 rfl rfl rfl (fun _ h => h) (by kernel_rfl) rfl rfl rfl ?_
 refine p_acc (by simp only [List.nil_append, List.cons_append]; rfl) ?_
 refine p_dead 12 rfl rfl rfl (fun _ h => h) (by kernel_rfl) rfl rfl rfl ?_
 refine p_acc (by simp only [List.nil_append, List.cons_append]; rfl) ?_
 refine p_dead 12 rfl rfl rfl (fun _ h => h) (by kernel_rfl) rfl rfl rfl ?_
 refine p_alloc rfl inf77 rfl rfl rfl rfl rfl ?_
 refine p_alloc rfl inf77 rfl rfl rfl rfl rfl ?_
 refine p_acc (by simp only [List.nil_append, List.cons_append]; rfl) ?_
 refine p_deadS 13 rfl rfl rfl (fun _ h => h) (by kernel_rfl) rfl rfl ?_
 refine p_acc (by simp only [List.nil_append, List.cons_append]; rfl) ?_
 refine p_deadS 14 rfl rfl rfl (fun _ h => h) (by kernel_rfl) rfl rfl ?_
 refine p_nilX (panOf (.iface 103 (i64 2))) (by simp only [List.nil_append, List.cons_append]; rfl) rfl (by kernel_rfl) rfl ?_ ?_
 ·
  with_reducible refine r_then_panic ?_
  exact d_panv answer_ans (Rd.three rfl (RdI.tmp rfl) (RdI.tmp rfl) (RdI.cell1 Tryd.underlying30 rfl rfl rfl)) (by rw [openB, ansD_n (chkD_2 hg (okF1 h1)) (by decide)]; try rfl) SelMC.sel SubRC.sub
 ·
  refine f_q rfl ?_
  refine f_q rfl ?_
  refine f_q rfl ?_
  refine f_q rfl ?_
  refine f_q rfl ?_
  refine f_q rfl ?_
  refine f_q rfl ?_
  refine f_q rfl ?_
  exact f_dead
set_option maxHeartbeats 4000000 in
theorem open20_x2b (who d : Int) (hl1 : D.dues.length ≤ 40) (hl2 : D.paid.length ≤ 40) (hg : GoodD D) (h1 : isW D who = true) (h2 : isDy d = false) : FnV Tryd.prog 20 [valD D uo po uc pc, i64 who, i64 d] [rowD uo 5 encD D.dues, rowD po 4 encP D.paid, rowD (some ⟨0, 0, none⟩) 1 encE ([0, 1] : List Nat)] (.tuple #[i64 ((openB D who d).1.1 : Nat), i64 ((openB D who d).1.2 : Nat), i64 (openB D who d).2]) := by
 refine FnV.introD Tryd.call20 Tryd.func20 rfl Tryd.ntmps20 rfl ?_
 intro W M Rf
 refine r_seq ?_
 refine r_region ?_
 refine o_boxA rfl rfl rfl rfl rfl (fun b3 => ?_)
 refine o_q _ rfl rfl rfl (v_assign rfl rfl) ?_
 refine o_q _ rfl rfl rfl (v_assign rfl rfl) ?_
 refine o_alloc rfl inf30 rfl rfl rfl rfl rfl (fun b8 => ?_)
 refine o_nil ?_
 with_reducible refine r_then ?_
 refine r_seq ?_
 refine r_region ?_
 refine o_defer rfl rfl rfl rfl ?_
 refine o_nil ?_
 with_reducible refine r_then ?_
 refine r_seq ?_
 refine r_parX 19 mixed (by kernel_rfl) (by rfl) ?_
 refine p_q _ rfl rfl rfl (fun _ _ => v_ldW rfl Tryd.underlying25 rfl inf25 rfl rfl) ?_
 refine p_q _ rfl rfl rfl (fun _ _ => v_ldW rfl Tryd.underlying25 rfl inf25 rfl rfl) ?_
 refine p_q _ rfl rfl rfl (fun _ _ => v_move rfl rfl) ?_
 refine p_q _ rfl rfl rfl (fun _ _ => v_cast (v := .bool true) (OpQ.fn (isWho_v D uo po uc pc who) rfl rfl SubRC.sub) (congrArg Value.bool h1)) ?_
 refine p_q _ rfl rfl rfl (fun _ _ => v_move rfl rfl) ?_
 refine p_g _ rfl rfl rfl rfl (fun _ _ => v_move rfl rfl) ?_
 refine p_g _ rfl rfl rfl rfl (fun _ _ => v_cast (v := .bool false) (OpQ.fn (isDay_v d) rfl rfl SubRC.sub) (congrArg Value.bool h2)) ?_
 refine p_q _ rfl rfl rfl (fun _ _ => v_pick_t rfl rfl rfl) ?_
 refine p_deadX (look_x2 D uo po uc pc hl1 hl2 hg) rfl rfl rfl rfl rfl SubRC.sub ?_
 refine p_q _ rfl rfl rfl (fun _ _ => v_move rfl rfl) ?_
 refine p_q _ rfl rfl rfl (fun _ _ => v_move rfl rfl) ?_
 refine p_acc (by simp only [List.nil_append, List.cons_append]; rfl) ?_
 refine p_dead 8 rfl rfl rfl (fun _ h => h) (by kernel_rfl) rfl rfl rfl ?_
 refine p_acc (by simp only [List.nil_append, List.cons_append]; rfl) ?_
 refine p_dead 11 rfl rfl rfl (fun _ h => h) (by kernel_rfl) rfl rfl rfl ?_
 refine p_acc (by simp only [List.nil_append, List.cons_append]; rfl) ?_
 refine p_dead 12 rfl rfl rfl (fun _ h => h) (by kernel_rfl) rfl rfl rfl ?_
 refine p_acc (by simp only [List.nil_append, List.cons_append]; rfl) ?_
 refine p_dead 12 rfl rfl rfl (fun _ h => h) (by kernel_rfl) rfl rfl rfl ?_
 refine p_alloc rfl inf77 rfl rfl rfl rfl rfl ?_
 refine p_alloc rfl inf77 rfl rfl rfl rfl rfl ?_
 refine p_acc (by simp only [List.nil_append, List.cons_append]; rfl) ?_
 refine p_deadS 13 rfl rfl rfl (fun _ h => h) (by kernel_rfl) rfl rfl ?_
 refine p_acc (by simp only [List.nil_append, List.cons_append]; rfl) ?_
 refine p_deadS 14 rfl rfl rfl (fun _ h => h) (by kernel_rfl) rfl rfl ?_
 refine p_nilX (panOf (.iface 103 (i64 2))) (by simp only [List.nil_append, List.cons_append]; rfl) rfl (by kernel_rfl) rfl ?_ ?_
 ·
  with_reducible refine r_then_panic ?_
  exact d_panv answer_ans (Rd.three rfl (RdI.tmp rfl) (RdI.tmp rfl) (RdI.cell1 Tryd.underlying30 rfl rfl rfl)) (by rw [openB, ansD_n (chkD_2 hg (okF2 h2)) (by decide)]; try rfl) SelMC.sel SubRC.sub
 ·
  refine f_q rfl ?_
  refine f_q rfl ?_
  refine f_q rfl ?_
  refine f_q rfl ?_
  refine f_q rfl ?_
  refine f_q rfl ?_
  refine f_q rfl ?_
  refine f_q rfl ?_
  exact f_dead
set_option maxHeartbeats 4000000 in
theorem open20_ok (who d : Int) (hl1 : D.dues.length ≤ 40) (hl2 : D.paid.length ≤ 40) (hg : GoodD D) (h1 : isW D who = true) (h2 : isDy d = true) : FnV Tryd.prog 20 [valD D uo po uc pc, i64 who, i64 d] [rowD uo 5 encD D.dues, rowD po 4 encP D.paid, rowD (some ⟨0, 0, none⟩) 1 encE ([0, 1] : List Nat)] (.tuple #[i64 ((openB D who d).1.1 : Nat), i64 ((openB D who d).1.2 : Nat), i64 (openB D who d).2]) := by
 obtain ⟨dn, rfl⟩ : ∃ n : Nat, d = n := ⟨d.toNat, by have := of_decide_eq_true h2; omega⟩
 have hd := of_decide_eq_true h2
 have hq1 := hg.np
 have hwr : IntKind.i64.wrap (D.people - 1) = D.people - 1 := IntWalk.i64_in _ (by omega)
 have hwh := of_decide_eq_true h1
 have hdn : dn ≤ 30 := by omega
 have hwb : -1000 ≤ who ∧ who ≤ 1000 := by omega
 refine FnV.introD Tryd.call20 Tryd.func20 rfl Tryd.ntmps20 rfl ?_
 intro W M Rf
 refine r_seq ?_
 refine r_region ?_
 refine o_boxA rfl rfl rfl rfl rfl (fun b3 => ?_)
 refine o_q _ rfl rfl rfl (v_assign rfl rfl) ?_
 refine o_q _ rfl rfl rfl (v_assign rfl rfl) ?_
 refine o_alloc rfl inf30 rfl rfl rfl rfl rfl (fun b8 => ?_)
 refine o_nil ?_
 with_reducible refine r_then ?_
 refine r_seq ?_
 refine r_region ?_
 refine o_defer rfl rfl rfl rfl ?_
 refine o_nil ?_
 with_reducible refine r_then ?_
 refine r_seq ?_
 refine r_parY (fun _ => True) (fun _ _ _ _ => trivial) [14] 17 (by kernel_rfl) (by kernel_rfl) (by kernel_rfl) (by kernel_rfl) (by kernel_rfl) mixed (by kernel_rfl) (by rfl) ?_
 refine p_q _ rfl rfl rfl (fun _ _ => v_ldW rfl Tryd.underlying25 rfl inf25 rfl rfl) ?_
 refine p_q _ rfl rfl rfl (fun _ _ => v_ldW rfl Tryd.underlying25 rfl inf25 rfl rfl) ?_
 refine p_q _ rfl rfl rfl (fun _ _ => v_move rfl rfl) ?_
 refine p_q _ rfl rfl rfl (fun _ _ => v_cast (v := .bool true) (OpQ.fn (isWho_v D uo po uc pc who) rfl rfl SubRC.sub) (congrArg Value.bool h1)) ?_
 refine p_q _ rfl rfl rfl (fun _ _ => v_move rfl rfl) ?_
 refine p_g _ rfl rfl rfl rfl (fun _ _ => v_move rfl rfl) ?_
 refine p_g _ rfl rfl rfl rfl (fun _ _ => v_cast (v := .bool true) (OpQ.fn (isDay_v _) rfl rfl SubRC.sub) (congrArg Value.bool h2)) ?_
 refine p_q _ rfl rfl rfl (fun _ _ => v_pick_t rfl rfl rfl) ?_
 refine p_openL 11 (look_ok D uo po uc pc hl1 hl2 hg) rfl rfl rfl rfl rfl SubRC.sub ?_
 refine p_q _ rfl rfl rfl (fun _ _ => v_move rfl rfl) ?_
 refine p_q _ rfl rfl rfl (fun _ _ => v_move rfl rfl) ?_
 refine p_acc (by simp only [List.nil_append, List.cons_append]; rfl) ?_
 refine p_takeG 8 (led_both D uo po uc pc who dn hg hwb hdn) rfl rfl rfl (fun b => rfl) rfl (by kernel_rfl) rfl rfl rfl SubRC.sub ?_
 refine p_acc (by simp only [List.nil_append, List.cons_append]; rfl) ?_
 refine p_depU (pv := isAA (progA D 0 who (dn + 1)) (progA D 1 who (dn + 1))) (fc := facAA (progA D 0 who (dn + 1)) (progA D 1 who (dn + 1))) 11 (fun u => u) rfl rfl rfl rfl (by kernel_rfl) rfl rfl rfl (fun u h => ⟨h, fun _ h => h⟩) (fun u _ _ _ => v_move rfl rfl) ?_
 refine p_acc (by simp only [List.nil_append, List.cons_append]; rfl) ?_
 refine p_depU (pv := isA (progA D 0 who (dn + 1))) (fc := facA (progA D 0 who (dn + 1))) 12 (fstT) rfl rfl rfl rfl (by kernel_rfl) rfl rfl rfl (fun u h => depF h) (fun u h _ _ => depX h rfl rfl) ?_
 refine p_acc (by simp only [List.nil_append, List.cons_append]; rfl) ?_
 refine p_depU (pv := isA (progA D 1 who (dn + 1))) (fc := facA (progA D 1 who (dn + 1))) 12 (sndT) rfl rfl rfl rfl (by kernel_rfl) rfl rfl rfl (fun u h => depS h) (fun u h _ _ => depY h rfl rfl) ?_
 refine p_alloc rfl inf77 rfl rfl rfl rfl rfl ?_
 refine p_alloc rfl inf77 rfl rfl rfl rfl rfl ?_
 refine p_nilF (by simp only [List.nil_append, List.cons_append]; rfl) rfl ⟨⟨_, _, _, rfl, rfl, rfl, rfl, rfl, rfl, rfl, fun _ => rfl, .inr ⟨rfl, 12, _, _, sndT, rfl, rfl, rfl, (by kernel_rfl), rfl, fun u h => ⟨(depS h).1, (depS h).2, floatS h rfl rfl⟩⟩⟩, trivial⟩ ?_ (by kernel_rfl)
 refine f_q rfl ?_
 refine f_q rfl ?_
 refine f_q rfl ?_
 refine f_q rfl ?_
 refine f_q rfl ?_
 refine f_q rfl ?_
 refine f_q rfl ?_
 refine f_q rfl ?_
 refine f_openL rfl (fun b20 => ?_)
 refine f_q rfl ?_
 refine f_q rfl ?_
 refine f_takeG rfl (fun v23 hv23 => ?_)
 refine f_gf rfl (fun v12 hv12 => ?_)
 refine f_gf rfl (fun v13 hv13 => ?_)
 refine f_gf rfl (fun v14 hv14 => ?_)
 refine f_alloc rfl (fun b9 => ?_)
 refine f_alloc rfl (fun b10 => ?_)
 refine f_nil ?_
 obtain ⟨oa, ca, rfl⟩ := hv13
 obtain ⟨ob, cb, rfl⟩ := hv14
 refine Imp.derive (ψ := rowD ob 4 encO (progA D 1 who (dn + 1)).1) ?_ (fun V hV => hV _ (List.mem_append_left _ (List.mem_singleton.2 rfl)))
 refine Imp.derive (ψ := rowD oa 4 encO (progA D 0 who (dn + 1)).1) ?_ (fun V hV => hV _ (List.mem_cons_of_mem _ (List.mem_append_right _ (List.mem_append_left _ (List.mem_singleton.2 rfl)))))
 refine oz_lift (fun _ _ => trivial) ?_
 refine o_st rfl inf77 rfl rfl rfl rfl rfl rfl rfl rfl ?_
 refine o_nil ?_
 refine r_then ?_
 refine oz_lift (fun _ _ => trivial) ?_
 refine o_st rfl inf77 rfl rfl rfl rfl rfl rfl rfl rfl ?_
 refine o_nil ?_
 refine r_then ?_
 refine oz_nil (fun _ _ => trivial) ?_
 refine r_nop ?_
 with_reducible refine r_then ?_
 refine r_seq ?_
 refine Imp.box_to b9 [.slice oa (progA D 0 who (dn + 1)).1.length ca, i64 (progA D 0 who (dn + 1)).2] rfl ?_
 refine Imp.box_to b10 [.slice ob (progA D 1 who (dn + 1)).1.length cb, i64 (progA D 1 who (dn + 1)).2] rfl ?_
 refine r_par' 3 mixed (by kernel_rfl) (by rfl) ?_
 refine p_q _ rfl rfl rfl (fun _ _ => v_ldW rfl Tryd.underlying77 rfl inf77 rfl rfl) ?_
 refine p_q _ rfl rfl rfl (fun _ _ => OpQ.fn (set_v (progA D 0 who (dn + 1)).1 oa ca (progA D 0 who (dn + 1)).2 (by have := prog_lenA hg 0 who (dn + 1); omega) (fun y hy => ((prog_bd hg 0 who (dn + 1) (by omega)).1 y hy).2.2)) rfl rfl SubRC.sub) ?_
 refine p_q _ rfl rfl rfl (fun _ _ => v_ldW rfl Tryd.underlying77 rfl inf77 rfl rfl) ?_
 refine p_nil2 (by simp only [List.nil_append, List.cons_append]; rfl) rfl ?_
 refine f_q rfl ?_
 refine f_q rfl ?_
 refine f_q rfl ?_
 refine f_nil ?_
 refine o_q _ rfl rfl rfl (OpQ.fn (set_v (progA D 1 who (dn + 1)).1 ob cb (progA D 1 who (dn + 1)).2 (by have := prog_lenA hg 1 who (dn + 1); omega) (fun y hy => ((prog_bd hg 1 who (dn + 1) (by omega)).1 y hy).2.2)) rfl rfl SubRC.sub) ?_
 refine o_q _ rfl rfl rfl (v_assign rfl rfl) ?_
 refine o_q _ rfl rfl rfl (v_assign rfl rfl) ?_
 refine o_st rfl inf30 rfl rfl rfl rfl rfl rfl rfl rfl ?_
 refine o_nil ?_
 with_reducible refine r_then ?_
 refine r_ret ?_
 exact d_retv answer_ans (Rd.three rfl (RdI.tmp rfl) (RdI.tmp rfl) (RdI.cell1 Tryd.underlying30 rfl rfl rfl)) (by rw [openB, ansD_0 (chkD_0 hg (okT h1 h2)), Int.toNat_natCast]; try rfl) SelMC.sel SubRC.sub
theorem open20_v (who d : Int) (hl1 : D.dues.length ≤ 40) (hl2 : D.paid.length ≤ 40) : FnV Tryd.prog 20 [valD D uo po uc pc, i64 who, i64 d] [rowD uo 5 encD D.dues, rowD po 4 encP D.paid, rowD (some ⟨0, 0, none⟩) 1 encE ([0, 1] : List Nat)] (.tuple #[i64 ((openB D who d).1.1 : Nat), i64 ((openB D who d).1.2 : Nat), i64 (openB D who d).2]) := by
  by_cases hg : GoodD D
  · cases h1 : isW D who
    · exact open20_x2a D uo po uc pc who d hl1 hl2 hg h1
    · cases h2 : isDy d
      · exact open20_x2b D uo po uc pc who d hl1 hl2 hg h1 h2
      · exact open20_ok D uo po uc pc who d hl1 hl2 hg h1 h2
  · cases h1 : isW D who
    · exact open20_x1a D uo po uc pc who d hl1 hl2 hg h1
    · exact open20_x1b D uo po uc pc who d hl1 hl2 hg h1
end Go.Proofs.YtpfgiednfjfdmaaDoor


namespace Go.G
variable {P : Program} {W : World} {n : Nat} {D : List Deferred} {L : Tm} {M : List Res} {R : List Fact} {Q : Exit → Act → World → Prop} {o : Oper} {Z : World → Prop}
/-- The operation, with its waits told anew. -/
def ren (τ : Nat → Nat) (o : Oper) : Oper := { o with after := o.after.map fun e => { e with on := τ e.on }, guard := o.guard.map fun p => (τ p.1, p.2) }
/-- In the order of a list of their numbers. -/
def permL (σ : List Nat) (l : List Oper) : List Oper := σ.map fun i => match l[i]? with | some o => ren (fun j => σ.idxOf j) o | none => { dst := none, op := .move (.tmp 0), type := 0, pos := "", after := #[], guard := none }
def permB (σ : List Nat) (l : List Oper) : Bool := nodupB σ && Nat.beq σ.length l.length && (List.range l.length).all (fun j => Nat.blt (σ.idxOf j) σ.length) && σ.all (fun i => Nat.blt i l.length) &&
  l.all (fun o => o.after.all (fun e => Nat.blt e.on l.length) && match o.guard with | some (g, _) => Nat.blt g l.length | none => true)
structure PermOK (σ : List Nat) (l : List Oper) : Prop where
  len : σ.length = l.length
  at_ : ∀ j, j < l.length → σ.idxOf j < σ.length ∧ σ[σ.idxOf j]? = some j
  inv : ∀ k (i : Nat), σ[k]? = some i → i < l.length ∧ σ.idxOf i = k
  edge : ∀ o ∈ l, ∀ e ∈ o.after, e.on < l.length
  gd : ∀ o ∈ l, ∀ g b, o.guard = some (g, b) → g < l.length
theorem permOK_of {σ : List Nat} {l : List Oper} (h : permB σ l = true) : PermOK σ l := by
  simp only [permB, Bool.and_eq_true] at h
  obtain ⟨⟨⟨⟨h0, h1⟩, h2⟩, h3⟩, h4⟩ := h
  have hlen : σ.length = l.length := by simpa using h1
  have hat : ∀ j, j < l.length → σ.idxOf j < σ.length ∧ σ[σ.idxOf j]? = some j := fun j hj => by
    have := List.all_eq_true.1 h2 j (List.mem_range.2 hj)
    have hlt : σ.idxOf j < σ.length := by simpa using this
    exact ⟨hlt, by rw [List.getElem?_eq_getElem hlt, List.getElem_idxOf hlt]⟩
  have hmem : ∀ i ∈ σ, i < l.length := fun i hi => by simpa using List.all_eq_true.1 h3 i hi
  have hnd : σ.Nodup := nodupB_sound h0
  refine ⟨hlen, hat, fun k i hk => ?_, fun o ho e he => ?_, fun o ho g b hg => ?_⟩
  · have hi := hmem i (List.mem_of_getElem? hk)
    refine ⟨hi, ?_⟩
    obtain ⟨g1, g2⟩ := hat i hi
    have hk2 := List.getElem?_eq_some_iff.1 hk
    have g3 := List.getElem?_eq_some_iff.1 g2
    exact (List.getElem_inj hnd).1 (g3.2.trans hk2.2.symm)
  · have := List.all_eq_true.1 h4 o ho
    simp only [Bool.and_eq_true] at this
    simpa using Array.all_eq_true_iff_forall_mem.1 this.1 e he
  · have := List.all_eq_true.1 h4 o ho
    simp only [Bool.and_eq_true, hg] at this
    simpa using this.2
section
variable {σ : List Nat} {l : List Oper}
theorem permL_at (h : PermOK σ l) {k i : Nat} (hk : σ[k]? = some i) : ∃ o, l[i]? = some o ∧ (permL σ l)[k]? = some (ren (fun j => σ.idxOf j) o) := by
  obtain ⟨hi, _⟩ := h.inv k i hk
  refine ⟨l[i], List.getElem?_eq_getElem hi, ?_⟩
  unfold permL
  rw [List.getElem?_map, hk, Option.map_some, List.getElem?_eq_getElem hi]
theorem permL_len (σ : List Nat) (l : List Oper) : (permL σ l).length = σ.length := by unfold permL; rw [List.length_map]
/-- What has been carried out, told anew. -/
def SameL (σ : List Nat) (listed listed' : Array Bool) : Prop := listed.size = σ.length ∧ listed'.size = σ.length ∧ ∀ k (i : Nat), σ[k]? = some i → ∀ d, listed'.getD k d = listed.getD i d
theorem perm_ready (h : PermOK σ l) {listed listed' : Array Bool} (hs : SameL σ listed listed') {k i : Nat} (hk : σ[k]? = some i) : k ∈ Region.ready .any (permL σ l).toArray listed' ↔ i ∈ Region.ready .any l.toArray listed := by
  obtain ⟨o, ho, hp⟩ := permL_at h hk
  have hom : o ∈ l := List.mem_of_getElem? ho
  have hedge : ∀ e ∈ o.after, listed'.getD (σ.idxOf e.on) false = listed.getD e.on false := fun e he => by
    have := h.edge o hom e he
    exact hs.2.2 _ _ (h.at_ e.on this).2 false
  constructor
  · intro hr
    obtain ⟨h0, o', ho', hall⟩ := mem_ready.1 hr
    have : o' = ren (fun j => σ.idxOf j) o := Option.some.inj (ho'.symm.trans (by simpa using hp))
    subst this
    refine mem_ready.2 ⟨by rw [← hs.2.2 k i hk true]; exact h0, o, by simpa using ho, fun e he hb => ?_⟩
    have := hall { e with on := σ.idxOf e.on } (Array.mem_map.2 ⟨e, he, rfl⟩) hb
    rw [← hedge e he]; exact this
  · intro hr
    obtain ⟨h0, o', ho', hall⟩ := mem_ready.1 hr
    have : o' = o := Option.some.inj (ho'.symm.trans (by simpa using ho))
    subst this
    refine mem_ready.2 ⟨by rw [hs.2.2 k i hk true]; exact h0, _, by simpa using hp, fun e he hb => ?_⟩
    obtain ⟨e0, he0, rfl⟩ := Array.mem_map.1 he
    show listed'.getD (σ.idxOf e0.on) false = true
    rw [hedge e0 he0]; exact hall e0 he0 hb
theorem perm_yielded (h : PermOK σ l) (tmps : Array Value) {g : Nat} (hg : g < l.length) : yielded (permL σ l).toArray tmps (σ.idxOf g) = yielded l.toArray tmps g := by
  obtain ⟨_, h2⟩ := h.at_ g hg
  obtain ⟨o, ho, hp⟩ := permL_at h h2
  unfold yielded
  rw [List.getElem?_toArray, List.getElem?_toArray, ho, hp]
  rfl
theorem perm_op (h : PermOK σ l) {k i : Nat} (hk : σ[k]? = some i) {K : Act → World → Prop} {a : Act} {w : World} (hw : wpOp P (permL σ l).toArray Q k K a w) : wpOp P l.toArray Q i K a w := by
  obtain ⟨o, ho, hp⟩ := permL_at h hk
  have hom : o ∈ l := List.mem_of_getElem? ho
  unfold wpOp at *
  rw [List.getElem?_toArray] at hw ⊢
  rw [hp] at hw
  rw [ho]
  have hwant : Region.wanted (ren (fun j => σ.idxOf j) o) (yielded (permL σ l).toArray a.tmps) = Region.wanted o (yielded l.toArray a.tmps) := by
    unfold Region.wanted ren
    cases hgd : o.guard with
    | none => rfl
    | some p =>
      obtain ⟨g, b⟩ := p
      dsimp only [Option.map]
      rw [perm_yielded h a.tmps (h.gd o hom g b hgd)]
  dsimp only at hw ⊢
  rw [hwant] at hw
  exact hw
theorem same_set (h : PermOK σ l) {listed listed' : Array Bool} (hs : SameL σ listed listed') {k i : Nat} (hk : σ[k]? = some i) : SameL σ (listed.setIfInBounds i true) (listed'.setIfInBounds k true) := by
  refine ⟨by simp [hs.1], by simp [hs.2.1], fun k' i' hk' d => ?_⟩
  by_cases e : k = k'
  · subst e
    have : i = i' := Option.some.inj (hk.symm.trans hk')
    subst this
    have h1 : k < listed'.size := by rw [hs.2.1]; exact (List.getElem?_eq_some_iff.1 hk).1
    have h2 : i < listed.size := by rw [hs.1, h.len]; exact (h.inv k i hk).1
    simp [h1, h2]
  · have hne : i ≠ i' := fun e2 => by
      subst e2
      exact e ((h.inv k i hk).2.symm.trans (h.inv k' i hk').2)
    rw [getD_set_ne d e, getD_set_ne d hne]
    exact hs.2.2 k' i' hk' d
theorem perm_any (h : PermOK σ l) : ∀ (fuel : Nat) (listed listed' : Array Bool) (a : Act) (w : World), SameL σ listed listed' → wpAny P .any (permL σ l).toArray Q fuel listed' a w → wpAny P .any l.toArray Q fuel listed a w := by
  have nil : ∀ {listed listed' : Array Bool}, SameL σ listed listed' → Region.ready .any l.toArray listed = [] → Region.ready .any (permL σ l).toArray listed' = [] := fun {listed listed'} hs hr => by
    apply List.eq_nil_iff_forall_not_mem.2
    intro k hk
    have hlt : k < σ.length := by
      obtain ⟨_, o, ho, _⟩ := mem_ready.1 hk
      have := (Array.getElem?_eq_some_iff.1 ho).1
      simpa [permL_len] using this
    have := (perm_ready h hs (List.getElem?_eq_getElem hlt)).1 hk
    rw [hr] at this; cases this
  have nil' : ∀ {listed listed' : Array Bool}, SameL σ listed listed' → Region.ready .any (permL σ l).toArray listed' = [] → Region.ready .any l.toArray listed = [] := fun {listed listed'} hs hr => by
    apply List.eq_nil_iff_forall_not_mem.2
    intro i hi
    have hlt : i < l.length := by
      obtain ⟨_, o, ho, _⟩ := mem_ready.1 hi
      simpa using (Array.getElem?_eq_some_iff.1 ho).1
    have := (perm_ready h hs (h.at_ i hlt).2).2 hi
    rw [hr] at this; cases this
  intro fuel
  induction fuel with
  | zero => intro listed listed' a w hs hw; exact ⟨nil' hs hw.1, hw.2⟩
  | succ fuel ih =>
    intro listed listed' a w hs hw
    refine ⟨fun hr => hw.1 (nil hs hr), fun i hi => ?_⟩
    have hlt : i < l.length := by
      obtain ⟨_, o, ho, _⟩ := mem_ready.1 hi
      simpa using (Array.getElem?_eq_some_iff.1 ho).1
    have hk := (h.at_ i hlt).2
    exact wpOp_mono (fun a' w' h' => ih _ _ a' w' (same_set h hs hk) h') (perm_op h hk (hw.2 _ ((perm_ready h hs hk).2 hi)))
end
end Go.G

