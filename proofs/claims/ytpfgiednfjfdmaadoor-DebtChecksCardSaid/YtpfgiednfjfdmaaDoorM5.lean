/- Part 5 of 5 of what the proofs of this seat stand on: a small logic for walks, what the functions come to, and the walks themselves. No condition of its own. -/
import Derived.Test.YtpfgiednfjfdmaaDoorM4
import Derived.Test.YtpfgiednfjfdmaaDoorM2
import Derived.Test.YtpfgiednfjfdmaaDoorM3
import Derived.Test.YtpfgiednfjfdmaaDoorTie
import Derived.Test.YtpfgiednfjfdmaaDoorCards
import Derived.LaidMore
import Derived.LaidLaws
import Derived.Lay
import Derived.SevenTiedAt
import Derived.Stop.Joined
set_option linter.unusedVariables false
set_option linter.unusedSimpArgs false
set_option linter.unusedSectionVars false
namespace Go.Proofs.YtpfgiednfjfdmaaDoor
open Go.G Debt10
set_option maxRecDepth 1000000
attribute [local irreducible] G.ParO G.Fin
/-- The first of some sets of which there is most. -/
def bestU (f : Nat → Nat) (l : List Nat) : Nat → Nat
  | 0 => 0
  | k + 1 => if k = 0 ∨ f (bestU f l k) < f (l.getD k default) then l.getD k default else bestU f l k
theorem bestU_y {f : Nat → Nat} {l : List Nat} {k : Nat} (h : k = 0 ∨ f (bestU f l k) < f (l.getD k default)) : bestU f l (k + 1) = l.getD k default := if_pos h
theorem bestU_n {f : Nat → Nat} {l : List Nat} {k : Nat} (h : ¬ (k = 0 ∨ f (bestU f l k) < f (l.getD k default))) : bestU f l (k + 1) = bestU f l k := if_neg h
theorem bestU_lt {f : Nat → Nat} {l : List Nat} {n : Nat} (hn : 0 < n) (hl : ∀ k, k < l.length → l.getD k default < n) : ∀ k, k ≤ l.length → bestU f l k < n
  | 0, _ => hn
  | k + 1, h => by
    unfold bestU
    split
    · exact hl k (by omega)
    · exact bestU_lt hn hl k (by omega)
theorem getD_all {l : List Nat} {c : Nat} (hc : 0 < c) (h : ∀ x ∈ l, x < c) (k : Nat) : l.getD k default < c := by
  rw [List.getD_eq_getElem?_getD]
  cases hk : l[k]? with
  | none => exact hc
  | some x => exact h x (List.mem_of_getElem? hk)
theorem swapU_all {l : List Nat} {c j : Nat} (hc : 0 < c) (h : ∀ x ∈ l, x < c) : ∀ x ∈ swapU l j, x < c := fun x hx => by
  rcases List.mem_or_eq_of_mem_set hx with hx | rfl
  · rcases List.mem_or_eq_of_mem_set hx with hx | rfl
    · exact h x hx
    · exact getD_all hc h _
  · exact getD_all hc h _
theorem sinkA_all {a c : Nat} (hc : 0 < c) : ∀ (j : Nat) (l : List Nat), (∀ x ∈ l, x < c) → ∀ x ∈ sinkA a j l, x < c
  | 0, _, h => h
  | j + 1, l, h => by
    unfold sinkA
    split
    · exact sinkA_all hc j _ (swapU_all hc h)
    · exact h
theorem insA_all {a c : Nat} {l : List Nat} (hc : 0 < c) (h : ∀ x ∈ l, x < c) : ∀ k, ∀ x ∈ insA a l k, x < c
  | 0 => h
  | k + 1 => sinkA_all hc _ _ (insA_all hc h k)
/-- Those whose needs are covered, in order; and the first of those of which there are most. -/
def setsT (D : Debt) (dn : Nat) (s : Int) : List Nat := onL (needN D dn) D.people.toNat 0 s 0
def sortT (l : List Nat) : List Nat := insA 0 l (l.length - 1)
theorem sortT_len (l : List Nat) : (sortT l).length = l.length := insA_len ..
def mostS (D : Debt) (dn : Nat) (s : Int) : Nat := bestU pop (sortT (setsT D dn s)) (sortT (setsT D dn s)).length
theorem sets_lt {D : Debt} (hg : GoodD D) {dn : Nat} {s : Int} : ∀ x ∈ setsT D dn s, x < 16 := fun x hx => by
  have h1 := onL_lt (needN D dn) D.people.toNat 0 s 0 (by decide) x hx
  have h2 : 2 ^ (0 + D.people.toNat) ≤ 2 ^ 4 := Nat.pow_le_pow_right (by decide) (by have := hg.np; omega)
  omega
theorem sets_len {D : Debt} (hg : GoodD D) {dn : Nat} {s : Int} : (setsT D dn s).length ≤ 16 := by
  have h1 := onL_len (needN D dn) D.people.toNat 0 s 0
  have h2 : 2 ^ D.people.toNat ≤ 2 ^ 4 := Nat.pow_le_pow_right (by decide) (by have := hg.np; omega)
  exact Nat.le_trans h1 h2
theorem sort_lt {D : Debt} (hg : GoodD D) {dn : Nat} {s : Int} (k : Nat) : (sortT (setsT D dn s)).getD k default < 16 := getD_all (by decide) (insA_all (by decide) (sets_lt hg) _) k
theorem most_lt {D : Debt} (hg : GoodD D) {dn : Nat} {s : Int} : mostS D dn s < 16 := bestU_lt (by decide) (fun k _ => sort_lt hg k) _ (Nat.le_refl _)
abbrev isSd (s : Int) : Bool := decide (0 ≤ s ∧ s ≤ 5000)
abbrev okMD (d s : Int) : Bool := isDy d && isSd s
theorem okMT {d s : Int} (h1 : isDy d = true) (h2 : isSd s = true) : okMD d s = true := by unfold okMD; rw [h1, h2]; rfl
theorem okM1 {d s : Int} (h1 : isDy d = false) : okMD d s = false := by unfold okMD; rw [h1]; rfl
theorem okM2 {d s : Int} (h2 : isSd s = false) : okMD d s = false := by unfold okMD; rw [h2, Bool.and_false]
def mostB (D : Debt) (d s : Int) : (Int × Int) × Int := ansD D (okMD d s) (0, 0) ((pop (mostS D d.toNat s) : Int), (mostS D d.toNat s : Int))
set_option maxHeartbeats 4000000 in
theorem best61_v (xs : List Nat) (hl : xs.length ≤ 1000) (hx : ∀ k, k < xs.length → xs.getD k default < 64) (oa : Option Addr) (cc : Nat) : FnV Tryd.prog 61 [.slice oa xs.length cc, .agg #[.func (.func 62) #[] #[]]] [rowD oa 1 encU xs] (u64 (bestU pop xs xs.length)) := by
  refine FnV.intro Tryd.call61 Tryd.func61 rfl Tryd.ntmps61 rfl ?_
  intro W M Rf
  refine r_seq ?_
  refine r_region ?_
  refine o_boxA rfl rfl rfl rfl rfl (fun b3 => ?_)
  refine o_q _ rfl rfl rfl (v_assign rfl rfl) ?_
  refine o_nil ?_
  repeat (first | with_reducible refine r_then ?_ | with_reducible refine r_in_normal ?_ | with_reducible refine r_sc_normal ?_)
  refine r_seq ?_
  refine r_seq ?_
  refine r_region ?_
  refine o_q _ rfl rfl rfl (v_move rfl rfl) ?_
  refine o_q _ rfl rfl rfl (v_len rfl rfl Tryd.underlying87 rfl) ?_
  refine o_q _ rfl rfl rfl (v_move rfl rfl) ?_
  refine o_nil ?_
  repeat (first | with_reducible refine r_then ?_ | with_reducible refine r_in_normal ?_ | with_reducible refine r_sc_normal ?_)
  refine r_block ?_
  refine r_loop (ι := Nat) (fun k => k ≤ xs.length) (fun k => [(3, pt b3 0), (4, u64 (bestU pop xs k)), (7, .slice oa xs.length cc), (8, i64 xs.length), (9, i64 k)]) (fun k => bx b3 95 [.func (.func 62) #[] #[]] :: M) (fun k => [rowD oa 1 encU xs] ++ Rf) (fun k => xs.length - k) 0 ?_ ?_ ?_
  ·
    exact r_here (by repeat (first | exact FSub.nil | refine FSub.cons rfl ?_)) SelMC.sel SubRC.sub
  ·
    omega
  ·
    rintro k hI0
    refine r_seq ?_
    refine r_region ?_
    refine o_q _ rfl rfl rfl (v_lss rfl rfl rfl) ?_
    refine o_nil ?_
    repeat (first | with_reducible refine r_then ?_ | with_reducible refine r_in_normal ?_ | with_reducible refine r_sc_normal ?_)
    refine r_seq ?_
    first | refine r_condd rfl (fun hc10 => ?_) (fun hc10 => ?_) | refine r_cond rfl (fun hc10 => ?_) (fun hc10 => ?_)
    ·
      first
      | (exfalso; revert hc10; decide)
      | (exfalso; omega)
      | skip
        refine r_skip ?_
        repeat (first | with_reducible refine r_then ?_ | with_reducible refine r_in_normal ?_ | with_reducible refine r_sc_normal ?_)
        refine r_seq ?_
        refine r_block ?_
        refine r_seq ?_
        refine r_region ?_
        refine o_q _ rfl rfl rfl (v_move rfl rfl) ?_
        first | refine o_q _ rfl rfl rfl (v_indexAddrSn rfl Tryd.underlying87 inf89 rfl rfl rfl (by omega) rfl) ?_ | refine o_q _ rfl rfl rfl (v_indexAddrS rfl Tryd.underlying87 inf89 rfl rfl rfl (by omega) (by omega) rfl) ?_
        refine o_q _ rfl rfl rfl (v_loadE1 (v := u64 (xs.getD k default)) rfl Tryd.underlying89 rfl rfl (by omega) rfl rfl) ?_
        refine o_q _ rfl rfl rfl (v_assign rfl rfl) ?_
        refine o_q _ rfl rfl rfl (v_assign rfl rfl) ?_
        refine o_nil ?_
        repeat (first | with_reducible refine r_then ?_ | with_reducible refine r_in_normal ?_ | with_reducible refine r_sc_normal ?_)
        refine r_seq ?_
        refine r_region ?_
        refine o_q _ rfl rfl rfl (v_move rfl rfl) ?_
        first | refine o_q _ rfl rfl rfl (v_true (v_eql rfl rfl rfl) (by omega)) ?_ | refine o_q _ rfl rfl rfl (v_false (v_eql rfl rfl rfl) (by omega)) ?_ | refine o_test rfl rfl rfl (v_eql rfl rfl rfl) (fun h15 => ?_) (fun h15 => ?_)
        all_goals
          refine o_q _ rfl rfl rfl (v_move rfl rfl) ?_
          first | refine o_gn rfl rfl rfl rfl ?_ | refine o_g _ rfl rfl rfl rfl (v_fieldAddr rfl Tryd.underlying95 inf93 rfl rfl rfl rfl) ?_ | refine o_g _ rfl rfl rfl rfl (v_fieldAddrE rfl Tryd.underlying95 inf93 rfl rfl rfl rfl) ?_
          first | refine o_gn rfl rfl rfl rfl ?_ | refine o_g _ rfl rfl rfl rfl (v_ld1 rfl Tryd.underlying93 rfl rfl rfl) ?_ | refine o_g _ rfl rfl rfl rfl (v_lf1 rfl Tryd.underlying93 rfl rfl rfl) ?_ | refine o_g _ rfl rfl rfl rfl (v_loadE1 rfl Tryd.underlying93 rfl rfl (by omega) rfl rfl) ?_
          first | refine o_gn rfl rfl rfl rfl ?_ | refine o_g _ rfl rfl rfl rfl (v_move rfl rfl) ?_
          first | refine o_gn rfl rfl rfl rfl ?_ | refine o_g _ rfl rfl rfl rfl (v_move rfl rfl) ?_
          first | refine o_gn rfl rfl rfl rfl ?_ | refine o_g _ rfl rfl rfl rfl (v_true (OpQ.call (most2_v (xs.getD k default) (bestU pop xs k) (hx k (by omega)) (bestU_lt (by decide) hx k (by omega))) rfl [] [] rfl rfl rfl SubRC.sub) (by omega)) ?_ | refine o_g _ rfl rfl rfl rfl (v_false (OpQ.call (most2_v (xs.getD k default) (bestU pop xs k) (hx k (by omega)) (bestU_lt (by decide) hx k (by omega))) rfl [] [] rfl rfl rfl SubRC.sub) (by omega)) ?_ | refine o_gtest rfl rfl rfl rfl (OpQ.call (most2_v (xs.getD k default) (bestU pop xs k) (hx k (by omega)) (bestU_lt (by decide) hx k (by omega))) rfl [] [] rfl rfl rfl SubRC.sub) (fun h21 => ?_) (fun h21 => ?_)
          all_goals
            first | refine o_q _ rfl rfl rfl (v_pick_t rfl rfl rfl) ?_ | refine o_q _ rfl rfl rfl (v_pick_f rfl rfl rfl) ?_
            refine o_nil ?_
            repeat (first | with_reducible refine r_then ?_ | with_reducible refine r_in_normal ?_ | with_reducible refine r_sc_normal ?_)
            first | refine r_condd rfl (fun hc22 => ?_) (fun hc22 => ?_) | refine r_cond rfl (fun hc22 => ?_) (fun hc22 => ?_)
            ·
              first
              | (exfalso; revert hc22; decide)
              | (exfalso; omega)
              | skip
                refine r_region ?_
                refine o_q _ rfl rfl rfl (v_move rfl rfl) ?_
                refine o_q _ rfl rfl rfl (v_assign rfl rfl) ?_
                refine o_nil ?_
                repeat (first | with_reducible refine r_then ?_ | with_reducible refine r_in_normal ?_ | with_reducible refine r_sc_normal ?_)
                refine r_region ?_
                refine o_q _ rfl rfl rfl (v_add rfl rfl rfl (by omega)) ?_
                refine o_q _ rfl rfl rfl (v_move rfl rfl) ?_
                refine o_nil ?_
                repeat (first | with_reducible refine r_then ?_ | with_reducible refine r_in_normal ?_ | with_reducible refine r_sc_normal ?_)
                refine r_next (k + 1) ?_ ?_ ?_
                ·
                  exact r_here (by repeat (first | exact FSub.nil | refine FSub.cons rfl ?_ | refine FSub.cons2 rfl (congrArg (fun x : Nat => u64 x) (by first | rw [bestU_y (Or.inl (by omega))] | rw [bestU_y (Or.inr (by omega))] | (rw [bestU_n (by omega)]))) ?_ | refine FSub.cons2 rfl (congrArg (Value.int .i64) (by omega)) ?_)) SelMC.sel SubRC.sub
                ·
                  omega
                ·
                  omega
            ·
              first
              | (exfalso; revert hc22; decide)
              | (exfalso; omega)
              | skip
                refine r_skip ?_
                repeat (first | with_reducible refine r_then ?_ | with_reducible refine r_in_normal ?_ | with_reducible refine r_sc_normal ?_)
                refine r_region ?_
                refine o_q _ rfl rfl rfl (v_add rfl rfl rfl (by omega)) ?_
                refine o_q _ rfl rfl rfl (v_move rfl rfl) ?_
                refine o_nil ?_
                repeat (first | with_reducible refine r_then ?_ | with_reducible refine r_in_normal ?_ | with_reducible refine r_sc_normal ?_)
                refine r_next (k + 1) ?_ ?_ ?_
                ·
                  exact r_here (by repeat (first | exact FSub.nil | refine FSub.cons rfl ?_ | refine FSub.cons2 rfl (congrArg (fun x : Nat => u64 x) (by first | rw [bestU_y (Or.inl (by omega))] | rw [bestU_y (Or.inr (by omega))] | (rw [bestU_n (by omega)]))) ?_ | refine FSub.cons2 rfl (congrArg (Value.int .i64) (by omega)) ?_)) SelMC.sel SubRC.sub
                ·
                  omega
                ·
                  omega
    ·
      first
      | (exfalso; revert hc10; decide)
      | (exfalso; omega)
      | skip
        refine r_exit ?_
        repeat (first | with_reducible refine r_then_exit ?_ | with_reducible refine r_sc_exit ?_ | with_reducible refine r_in_here ?_ | (with_reducible refine r_in_past (by decide) ?_) | with_reducible refine r_then ?_ | with_reducible refine r_in_normal ?_ | with_reducible refine r_sc_normal ?_)
        refine r_seq ?_
        refine r_region ?_
        refine o_q _ rfl rfl rfl (v_move rfl rfl) ?_
        refine o_q _ rfl rfl rfl (v_assign rfl rfl) ?_
        refine o_nil ?_
        repeat (first | with_reducible refine r_then ?_ | with_reducible refine r_in_normal ?_ | with_reducible refine r_sc_normal ?_)
        refine r_ret ?_
        repeat (first | with_reducible refine r_then_ret ?_ | with_reducible refine r_in_ret ?_ | with_reducible refine r_sc_ret ?_)
        obtain rfl : k = xs.length := by omega
        exact r_retv2 (Rd.tmp rfl rfl) rfl SelMC.sel SubRC.sub
variable (D : Debt) (uo po : Option Addr) (uc pc : Nat)
set_option maxHeartbeats 4000000 in
theorem most26_x1a (d s : Int) (hl1 : D.dues.length ≤ 40) (hl2 : D.paid.length ≤ 40) (hng : ¬ GoodD D) (h1 : isDy d = false) : FnV Tryd.prog 26 [valD D uo po uc pc, i64 d, i64 s] [rowD uo 5 encD D.dues, rowD po 4 encP D.paid, rowD (some ⟨0, 0, none⟩) 1 encE ([0, 1] : List Nat)] (.tuple #[i64 (mostB D d s).1.1, i64 (mostB D d s).1.2, i64 (mostB D d s).2]) := by
  refine FnV.introD Tryd.call26 Tryd.func26 rfl Tryd.ntmps26 rfl ?_
  intro W M Rf
  refine r_seq ?_
  refine r_region ?_
  refine o_boxA rfl rfl rfl rfl rfl (fun b3 => ?_)
  refine o_box1 rfl rfl rfl rfl rfl rfl (fun b4 => ?_)
  refine o_q _ rfl rfl rfl (v_assign rfl rfl) ?_
  refine o_q _ rfl rfl rfl (v_assign rfl rfl) ?_
  refine o_alloc rfl inf30 rfl rfl rfl rfl rfl (fun b8 => ?_)
  refine o_nil ?_
  repeat (first | with_reducible refine r_then ?_ | with_reducible refine r_in_normal ?_ | with_reducible refine r_sc_normal ?_)
  refine r_seq ?_
  refine r_region ?_
  refine o_defer rfl rfl rfl rfl ?_
  refine o_nil ?_
  repeat (first | with_reducible refine r_then ?_ | with_reducible refine r_in_normal ?_ | with_reducible refine r_sc_normal ?_)
  refine r_seq ?_
  refine r_parX 9 mixed (by kernel_rfl) (by rfl) ?_
  first | refine p_q _ rfl rfl rfl (fun _ _ => v_ldW rfl Tryd.underlying25 rfl inf25 rfl rfl) ?_ | refine p_q _ rfl rfl rfl (fun _ _ => v_lfW rfl Tryd.underlying25 rfl inf25 rfl rfl) ?_ | refine p_q _ rfl rfl rfl (fun _ _ => v_lfN rfl Tryd.underlying25 rfl inf25 rfl rfl rfl) ?_ | refine p_q _ rfl rfl rfl (fun _ _ => v_ldN rfl Tryd.underlying25 rfl inf25 rfl rfl rfl) ?_ | refine p_q _ rfl rfl rfl (fun _ _ => v_loadEN rfl Tryd.underlying25 rfl inf25 rfl (by omega) rfl rfl rfl) ?_
  first | refine p_q _ rfl rfl rfl (fun _ _ => v_ld1 rfl Tryd.underlying3 rfl rfl rfl) ?_ | refine p_q _ rfl rfl rfl (fun _ _ => v_lf1 rfl Tryd.underlying3 rfl rfl rfl) ?_ | refine p_q _ rfl rfl rfl (fun _ _ => v_loadE1 rfl Tryd.underlying3 rfl rfl (by omega) rfl rfl) ?_
  refine p_q _ rfl rfl rfl (fun _ _ => v_cast (v := .bool false) (OpQ.fn (isDay_v _) rfl rfl SubRC.sub) (congrArg Value.bool h1)) ?_
  refine p_q _ rfl rfl rfl (fun _ _ => v_move rfl rfl) ?_
  first | refine p_gn rfl rfl rfl rfl ?_ | refine p_g _ rfl rfl rfl rfl (fun _ _ => v_move rfl rfl) ?_
  first | refine p_gn rfl rfl rfl rfl ?_ | refine p_g _ rfl rfl rfl rfl (fun _ _ => OpQ.fn (within_v s 0 5000) rfl rfl SubRC.sub) ?_
  first | refine p_q _ rfl rfl rfl (fun _ _ => v_pick_t rfl rfl rfl) ?_ | refine p_q _ rfl rfl rfl (fun _ _ => v_pick_f rfl rfl rfl) ?_
  refine p_deadX (look_x1 D uo po uc pc _ hl1 hl2 hng) rfl rfl rfl rfl rfl SubRC.sub ?_
  refine p_alloc rfl inf69 rfl rfl rfl rfl rfl ?_
  refine p_nilX (panOf (.iface 103 (i64 1))) (by simp only [List.nil_append, List.cons_append]; rfl) rfl (by kernel_rfl) rfl ?_ ?_
  ·
    repeat (first | with_reducible refine r_then_panic ?_ | with_reducible refine r_in_panic ?_ | with_reducible refine r_sc_panic ?_)
    exact d_panv answer_ans (Rd.three rfl (RdI.tmp rfl) (RdI.tmp rfl) (RdI.cell1 Tryd.underlying30 rfl rfl rfl)) (by rw [mostB, ansD_n (chkD_1 hng) (by decide)]; try rfl) SelMC.sel SubRC.sub
  ·
    refine f_q rfl ?_
    refine f_q rfl ?_
    refine f_q rfl ?_
    refine f_q rfl ?_
    refine f_q rfl ?_
    refine f_q rfl ?_
    refine f_q rfl ?_
    exact f_dead
set_option maxHeartbeats 4000000 in
theorem most26_x1b (d s : Int) (hl1 : D.dues.length ≤ 40) (hl2 : D.paid.length ≤ 40) (hng : ¬ GoodD D) (h1 : isDy d = true) : FnV Tryd.prog 26 [valD D uo po uc pc, i64 d, i64 s] [rowD uo 5 encD D.dues, rowD po 4 encP D.paid, rowD (some ⟨0, 0, none⟩) 1 encE ([0, 1] : List Nat)] (.tuple #[i64 (mostB D d s).1.1, i64 (mostB D d s).1.2, i64 (mostB D d s).2]) := by
  refine FnV.introD Tryd.call26 Tryd.func26 rfl Tryd.ntmps26 rfl ?_
  intro W M Rf
  refine r_seq ?_
  refine r_region ?_
  refine o_boxA rfl rfl rfl rfl rfl (fun b3 => ?_)
  refine o_box1 rfl rfl rfl rfl rfl rfl (fun b4 => ?_)
  refine o_q _ rfl rfl rfl (v_assign rfl rfl) ?_
  refine o_q _ rfl rfl rfl (v_assign rfl rfl) ?_
  refine o_alloc rfl inf30 rfl rfl rfl rfl rfl (fun b8 => ?_)
  refine o_nil ?_
  repeat (first | with_reducible refine r_then ?_ | with_reducible refine r_in_normal ?_ | with_reducible refine r_sc_normal ?_)
  refine r_seq ?_
  refine r_region ?_
  refine o_defer rfl rfl rfl rfl ?_
  refine o_nil ?_
  repeat (first | with_reducible refine r_then ?_ | with_reducible refine r_in_normal ?_ | with_reducible refine r_sc_normal ?_)
  refine r_seq ?_
  refine r_parX 9 mixed (by kernel_rfl) (by rfl) ?_
  first | refine p_q _ rfl rfl rfl (fun _ _ => v_ldW rfl Tryd.underlying25 rfl inf25 rfl rfl) ?_ | refine p_q _ rfl rfl rfl (fun _ _ => v_lfW rfl Tryd.underlying25 rfl inf25 rfl rfl) ?_ | refine p_q _ rfl rfl rfl (fun _ _ => v_lfN rfl Tryd.underlying25 rfl inf25 rfl rfl rfl) ?_ | refine p_q _ rfl rfl rfl (fun _ _ => v_ldN rfl Tryd.underlying25 rfl inf25 rfl rfl rfl) ?_ | refine p_q _ rfl rfl rfl (fun _ _ => v_loadEN rfl Tryd.underlying25 rfl inf25 rfl (by omega) rfl rfl rfl) ?_
  first | refine p_q _ rfl rfl rfl (fun _ _ => v_ld1 rfl Tryd.underlying3 rfl rfl rfl) ?_ | refine p_q _ rfl rfl rfl (fun _ _ => v_lf1 rfl Tryd.underlying3 rfl rfl rfl) ?_ | refine p_q _ rfl rfl rfl (fun _ _ => v_loadE1 rfl Tryd.underlying3 rfl rfl (by omega) rfl rfl) ?_
  refine p_q _ rfl rfl rfl (fun _ _ => v_cast (v := .bool true) (OpQ.fn (isDay_v _) rfl rfl SubRC.sub) (congrArg Value.bool h1)) ?_
  refine p_q _ rfl rfl rfl (fun _ _ => v_move rfl rfl) ?_
  first | refine p_gn rfl rfl rfl rfl ?_ | refine p_g _ rfl rfl rfl rfl (fun _ _ => v_move rfl rfl) ?_
  first | refine p_gn rfl rfl rfl rfl ?_ | refine p_g _ rfl rfl rfl rfl (fun _ _ => OpQ.fn (within_v s 0 5000) rfl rfl SubRC.sub) ?_
  first | refine p_q _ rfl rfl rfl (fun _ _ => v_pick_t rfl rfl rfl) ?_ | refine p_q _ rfl rfl rfl (fun _ _ => v_pick_f rfl rfl rfl) ?_
  refine p_deadX (look_x1 D uo po uc pc _ hl1 hl2 hng) rfl rfl rfl rfl rfl SubRC.sub ?_
  refine p_alloc rfl inf69 rfl rfl rfl rfl rfl ?_
  refine p_nilX (panOf (.iface 103 (i64 1))) (by simp only [List.nil_append, List.cons_append]; rfl) rfl (by kernel_rfl) rfl ?_ ?_
  ·
    repeat (first | with_reducible refine r_then_panic ?_ | with_reducible refine r_in_panic ?_ | with_reducible refine r_sc_panic ?_)
    exact d_panv answer_ans (Rd.three rfl (RdI.tmp rfl) (RdI.tmp rfl) (RdI.cell1 Tryd.underlying30 rfl rfl rfl)) (by rw [mostB, ansD_n (chkD_1 hng) (by decide)]; try rfl) SelMC.sel SubRC.sub
  ·
    refine f_q rfl ?_
    refine f_q rfl ?_
    refine f_q rfl ?_
    refine f_q rfl ?_
    refine f_q rfl ?_
    refine f_q rfl ?_
    refine f_q rfl ?_
    exact f_dead
set_option maxHeartbeats 4000000 in
theorem most26_x2a (d s : Int) (hl1 : D.dues.length ≤ 40) (hl2 : D.paid.length ≤ 40) (hg : GoodD D) (h1 : isDy d = false) : FnV Tryd.prog 26 [valD D uo po uc pc, i64 d, i64 s] [rowD uo 5 encD D.dues, rowD po 4 encP D.paid, rowD (some ⟨0, 0, none⟩) 1 encE ([0, 1] : List Nat)] (.tuple #[i64 (mostB D d s).1.1, i64 (mostB D d s).1.2, i64 (mostB D d s).2]) := by
  refine FnV.introD Tryd.call26 Tryd.func26 rfl Tryd.ntmps26 rfl ?_
  intro W M Rf
  refine r_seq ?_
  refine r_region ?_
  refine o_boxA rfl rfl rfl rfl rfl (fun b3 => ?_)
  refine o_box1 rfl rfl rfl rfl rfl rfl (fun b4 => ?_)
  refine o_q _ rfl rfl rfl (v_assign rfl rfl) ?_
  refine o_q _ rfl rfl rfl (v_assign rfl rfl) ?_
  refine o_alloc rfl inf30 rfl rfl rfl rfl rfl (fun b8 => ?_)
  refine o_nil ?_
  repeat (first | with_reducible refine r_then ?_ | with_reducible refine r_in_normal ?_ | with_reducible refine r_sc_normal ?_)
  refine r_seq ?_
  refine r_region ?_
  refine o_defer rfl rfl rfl rfl ?_
  refine o_nil ?_
  repeat (first | with_reducible refine r_then ?_ | with_reducible refine r_in_normal ?_ | with_reducible refine r_sc_normal ?_)
  refine r_seq ?_
  refine r_parX 9 mixed (by kernel_rfl) (by rfl) ?_
  first | refine p_q _ rfl rfl rfl (fun _ _ => v_ldW rfl Tryd.underlying25 rfl inf25 rfl rfl) ?_ | refine p_q _ rfl rfl rfl (fun _ _ => v_lfW rfl Tryd.underlying25 rfl inf25 rfl rfl) ?_ | refine p_q _ rfl rfl rfl (fun _ _ => v_lfN rfl Tryd.underlying25 rfl inf25 rfl rfl rfl) ?_ | refine p_q _ rfl rfl rfl (fun _ _ => v_ldN rfl Tryd.underlying25 rfl inf25 rfl rfl rfl) ?_ | refine p_q _ rfl rfl rfl (fun _ _ => v_loadEN rfl Tryd.underlying25 rfl inf25 rfl (by omega) rfl rfl rfl) ?_
  first | refine p_q _ rfl rfl rfl (fun _ _ => v_ld1 rfl Tryd.underlying3 rfl rfl rfl) ?_ | refine p_q _ rfl rfl rfl (fun _ _ => v_lf1 rfl Tryd.underlying3 rfl rfl rfl) ?_ | refine p_q _ rfl rfl rfl (fun _ _ => v_loadE1 rfl Tryd.underlying3 rfl rfl (by omega) rfl rfl) ?_
  refine p_q _ rfl rfl rfl (fun _ _ => v_cast (v := .bool false) (OpQ.fn (isDay_v _) rfl rfl SubRC.sub) (congrArg Value.bool h1)) ?_
  refine p_q _ rfl rfl rfl (fun _ _ => v_move rfl rfl) ?_
  first | refine p_gn rfl rfl rfl rfl ?_ | refine p_g _ rfl rfl rfl rfl (fun _ _ => v_move rfl rfl) ?_
  first | refine p_gn rfl rfl rfl rfl ?_ | refine p_g _ rfl rfl rfl rfl (fun _ _ => OpQ.fn (within_v s 0 5000) rfl rfl SubRC.sub) ?_
  first | refine p_q _ rfl rfl rfl (fun _ _ => v_pick_t rfl rfl rfl) ?_ | refine p_q _ rfl rfl rfl (fun _ _ => v_pick_f rfl rfl rfl) ?_
  refine p_deadX (look_x2 D uo po uc pc hl1 hl2 hg) rfl rfl rfl rfl rfl SubRC.sub ?_
  refine p_alloc rfl inf69 rfl rfl rfl rfl rfl ?_
  refine p_nilX (panOf (.iface 103 (i64 2))) (by simp only [List.nil_append, List.cons_append]; rfl) rfl (by kernel_rfl) rfl ?_ ?_
  ·
    repeat (first | with_reducible refine r_then_panic ?_ | with_reducible refine r_in_panic ?_ | with_reducible refine r_sc_panic ?_)
    exact d_panv answer_ans (Rd.three rfl (RdI.tmp rfl) (RdI.tmp rfl) (RdI.cell1 Tryd.underlying30 rfl rfl rfl)) (by rw [mostB, ansD_n (chkD_2 hg (okM1 h1)) (by decide)]; try rfl) SelMC.sel SubRC.sub
  ·
    refine f_q rfl ?_
    refine f_q rfl ?_
    refine f_q rfl ?_
    refine f_q rfl ?_
    refine f_q rfl ?_
    refine f_q rfl ?_
    refine f_q rfl ?_
    exact f_dead
set_option maxHeartbeats 4000000 in
theorem most26_x2b (d s : Int) (hl1 : D.dues.length ≤ 40) (hl2 : D.paid.length ≤ 40) (hg : GoodD D) (h1 : isDy d = true) (h2 : isSd s = false) : FnV Tryd.prog 26 [valD D uo po uc pc, i64 d, i64 s] [rowD uo 5 encD D.dues, rowD po 4 encP D.paid, rowD (some ⟨0, 0, none⟩) 1 encE ([0, 1] : List Nat)] (.tuple #[i64 (mostB D d s).1.1, i64 (mostB D d s).1.2, i64 (mostB D d s).2]) := by
  refine FnV.introD Tryd.call26 Tryd.func26 rfl Tryd.ntmps26 rfl ?_
  intro W M Rf
  refine r_seq ?_
  refine r_region ?_
  refine o_boxA rfl rfl rfl rfl rfl (fun b3 => ?_)
  refine o_box1 rfl rfl rfl rfl rfl rfl (fun b4 => ?_)
  refine o_q _ rfl rfl rfl (v_assign rfl rfl) ?_
  refine o_q _ rfl rfl rfl (v_assign rfl rfl) ?_
  refine o_alloc rfl inf30 rfl rfl rfl rfl rfl (fun b8 => ?_)
  refine o_nil ?_
  repeat (first | with_reducible refine r_then ?_ | with_reducible refine r_in_normal ?_ | with_reducible refine r_sc_normal ?_)
  refine r_seq ?_
  refine r_region ?_
  refine o_defer rfl rfl rfl rfl ?_
  refine o_nil ?_
  repeat (first | with_reducible refine r_then ?_ | with_reducible refine r_in_normal ?_ | with_reducible refine r_sc_normal ?_)
  refine r_seq ?_
  refine r_parX 9 mixed (by kernel_rfl) (by rfl) ?_
  first | refine p_q _ rfl rfl rfl (fun _ _ => v_ldW rfl Tryd.underlying25 rfl inf25 rfl rfl) ?_ | refine p_q _ rfl rfl rfl (fun _ _ => v_lfW rfl Tryd.underlying25 rfl inf25 rfl rfl) ?_ | refine p_q _ rfl rfl rfl (fun _ _ => v_lfN rfl Tryd.underlying25 rfl inf25 rfl rfl rfl) ?_ | refine p_q _ rfl rfl rfl (fun _ _ => v_ldN rfl Tryd.underlying25 rfl inf25 rfl rfl rfl) ?_ | refine p_q _ rfl rfl rfl (fun _ _ => v_loadEN rfl Tryd.underlying25 rfl inf25 rfl (by omega) rfl rfl rfl) ?_
  first | refine p_q _ rfl rfl rfl (fun _ _ => v_ld1 rfl Tryd.underlying3 rfl rfl rfl) ?_ | refine p_q _ rfl rfl rfl (fun _ _ => v_lf1 rfl Tryd.underlying3 rfl rfl rfl) ?_ | refine p_q _ rfl rfl rfl (fun _ _ => v_loadE1 rfl Tryd.underlying3 rfl rfl (by omega) rfl rfl) ?_
  refine p_q _ rfl rfl rfl (fun _ _ => v_cast (v := .bool true) (OpQ.fn (isDay_v _) rfl rfl SubRC.sub) (congrArg Value.bool h1)) ?_
  refine p_q _ rfl rfl rfl (fun _ _ => v_move rfl rfl) ?_
  first | refine p_gn rfl rfl rfl rfl ?_ | refine p_g _ rfl rfl rfl rfl (fun _ _ => v_move rfl rfl) ?_
  first | refine p_gn rfl rfl rfl rfl ?_ | refine p_g _ rfl rfl rfl rfl (fun _ _ => v_cast (v := .bool false) (OpQ.fn (within_v s 0 5000) rfl rfl SubRC.sub) (congrArg Value.bool h2)) ?_
  first | refine p_q _ rfl rfl rfl (fun _ _ => v_pick_t rfl rfl rfl) ?_ | refine p_q _ rfl rfl rfl (fun _ _ => v_pick_f rfl rfl rfl) ?_
  refine p_deadX (look_x2 D uo po uc pc hl1 hl2 hg) rfl rfl rfl rfl rfl SubRC.sub ?_
  refine p_alloc rfl inf69 rfl rfl rfl rfl rfl ?_
  refine p_nilX (panOf (.iface 103 (i64 2))) (by simp only [List.nil_append, List.cons_append]; rfl) rfl (by kernel_rfl) rfl ?_ ?_
  ·
    repeat (first | with_reducible refine r_then_panic ?_ | with_reducible refine r_in_panic ?_ | with_reducible refine r_sc_panic ?_)
    exact d_panv answer_ans (Rd.three rfl (RdI.tmp rfl) (RdI.tmp rfl) (RdI.cell1 Tryd.underlying30 rfl rfl rfl)) (by rw [mostB, ansD_n (chkD_2 hg (okM2 h2)) (by decide)]; try rfl) SelMC.sel SubRC.sub
  ·
    refine f_q rfl ?_
    refine f_q rfl ?_
    refine f_q rfl ?_
    refine f_q rfl ?_
    refine f_q rfl ?_
    refine f_q rfl ?_
    refine f_q rfl ?_
    exact f_dead
set_option maxHeartbeats 4000000 in
theorem most26_ok (d s : Int) (hl1 : D.dues.length ≤ 40) (hl2 : D.paid.length ≤ 40) (hg : GoodD D) (h1 : isDy d = true) (h2 : isSd s = true) (hsrt : ∀ (bb cap : Nat) (sp : List Value), FnC Tryd.prog 60 [.slice (some ⟨bb, 0, none⟩) (setsT D d.toNat s).length cap] (bx bb 89 ((setsT D d.toNat s).flatMap encU ++ sp)) [] (.tuple #[]) (bx bb 89 ((sortT (setsT D d.toNat s)).flatMap encU ++ sp))) : FnV Tryd.prog 26 [valD D uo po uc pc, i64 d, i64 s] [rowD uo 5 encD D.dues, rowD po 4 encP D.paid, rowD (some ⟨0, 0, none⟩) 1 encE ([0, 1] : List Nat)] (.tuple #[i64 (mostB D d s).1.1, i64 (mostB D d s).1.2, i64 (mostB D d s).2]) := by
  obtain ⟨dn, rfl⟩ : ∃ n : Nat, d = n := ⟨d.toNat, by have := of_decide_eq_true h1; omega⟩
  have hd := of_decide_eq_true h1
  have hs5 := of_decide_eq_true h2
  have hq1 := hg.np
  have hdn : dn ≤ 30 := by omega
  rw [Int.toNat_natCast] at hsrt
  refine FnV.introD Tryd.call26 Tryd.func26 rfl Tryd.ntmps26 rfl ?_
  intro W M Rf
  refine r_seq ?_
  refine r_region ?_
  refine o_boxA rfl rfl rfl rfl rfl (fun b3 => ?_)
  refine o_box1 rfl rfl rfl rfl rfl rfl (fun b4 => ?_)
  refine o_q _ rfl rfl rfl (v_assign rfl rfl) ?_
  refine o_q _ rfl rfl rfl (v_assign rfl rfl) ?_
  refine o_alloc rfl inf30 rfl rfl rfl rfl rfl (fun b8 => ?_)
  refine o_nil ?_
  repeat (first | with_reducible refine r_then ?_ | with_reducible refine r_in_normal ?_ | with_reducible refine r_sc_normal ?_)
  refine r_seq ?_
  refine r_region ?_
  refine o_defer rfl rfl rfl rfl ?_
  refine o_nil ?_
  repeat (first | with_reducible refine r_then ?_ | with_reducible refine r_in_normal ?_ | with_reducible refine r_sc_normal ?_)
  refine r_seq ?_
  refine r_par' 9 mixed (by kernel_rfl) (by rfl) ?_
  first | refine p_q _ rfl rfl rfl (fun _ _ => v_ldW rfl Tryd.underlying25 rfl inf25 rfl rfl) ?_ | refine p_q _ rfl rfl rfl (fun _ _ => v_lfW rfl Tryd.underlying25 rfl inf25 rfl rfl) ?_ | refine p_q _ rfl rfl rfl (fun _ _ => v_lfN rfl Tryd.underlying25 rfl inf25 rfl rfl rfl) ?_ | refine p_q _ rfl rfl rfl (fun _ _ => v_ldN rfl Tryd.underlying25 rfl inf25 rfl rfl rfl) ?_ | refine p_q _ rfl rfl rfl (fun _ _ => v_loadEN rfl Tryd.underlying25 rfl inf25 rfl (by omega) rfl rfl rfl) ?_
  first | refine p_q _ rfl rfl rfl (fun _ _ => v_ld1 rfl Tryd.underlying3 rfl rfl rfl) ?_ | refine p_q _ rfl rfl rfl (fun _ _ => v_lf1 rfl Tryd.underlying3 rfl rfl rfl) ?_ | refine p_q _ rfl rfl rfl (fun _ _ => v_loadE1 rfl Tryd.underlying3 rfl rfl (by omega) rfl rfl) ?_
  refine p_q _ rfl rfl rfl (fun _ _ => v_cast (v := .bool true) (OpQ.fn (isDay_v _) rfl rfl SubRC.sub) (congrArg Value.bool h1)) ?_
  refine p_q _ rfl rfl rfl (fun _ _ => v_move rfl rfl) ?_
  first | refine p_gn rfl rfl rfl rfl ?_ | refine p_g _ rfl rfl rfl rfl (fun _ _ => v_move rfl rfl) ?_
  first | refine p_gn rfl rfl rfl rfl ?_ | refine p_g _ rfl rfl rfl rfl (fun _ _ => v_cast (v := .bool true) (OpQ.fn (within_v s 0 5000) rfl rfl SubRC.sub) (congrArg Value.bool h2)) ?_
  first | refine p_q _ rfl rfl rfl (fun _ _ => v_pick_t rfl rfl rfl) ?_ | refine p_q _ rfl rfl rfl (fun _ _ => v_pick_f rfl rfl rfl) ?_
  refine p_open1 (look_ok D uo po uc pc hl1 hl2 hg) rfl rfl rfl rfl rfl SubRC.sub ?_
  refine p_alloc rfl inf69 rfl rfl rfl rfl rfl ?_
  refine p_nil2 (by simp only [List.nil_append, List.cons_append]; rfl) rfl ?_
  refine f_q rfl ?_
  refine f_q rfl ?_
  refine f_q rfl ?_
  refine f_q rfl ?_
  refine f_q rfl ?_
  refine f_q rfl ?_
  refine f_q rfl ?_
  refine f_open1 rfl (fun b20 => ?_)
  refine f_alloc rfl (fun b9 => ?_)
  refine f_nil ?_
  refine o_st rfl inf69 rfl rfl rfl rfl rfl rfl rfl rfl ?_
  refine o_nil ?_
  repeat (first | with_reducible refine r_then ?_ | with_reducible refine r_in_normal ?_ | with_reducible refine r_sc_normal ?_)
  refine r_seq ?_
  refine opened D uo po uc pc b20 (fun mb => ?_)
  refine Imp.box_to b9 [pt b20 0] rfl ?_
  refine r_region ?_
  refine o_alloc rfl inf87 rfl rfl rfl rfl rfl (fun b10 => ?_)
  refine o_nil ?_
  repeat (first | with_reducible refine r_then ?_ | with_reducible refine r_in_normal ?_ | with_reducible refine r_sc_normal ?_)
  refine r_seq ?_
  refine r_region ?_
  refine o_alloc rfl inf88 rfl rfl rfl rfl rfl (fun b11 => ?_)
  refine o_nil ?_
  repeat (first | with_reducible refine r_then ?_ | with_reducible refine r_in_normal ?_ | with_reducible refine r_sc_normal ?_)
  refine r_seq ?_
  refine r_region ?_
  refine o_q _ rfl rfl rfl (v_makeFunc rfl rfl rfl) ?_
  refine o_st rfl inf88 rfl rfl rfl rfl rfl rfl rfl rfl ?_
  refine o_nil ?_
  repeat (first | with_reducible refine r_then ?_ | with_reducible refine r_in_normal ?_ | with_reducible refine r_sc_normal ?_)
  refine r_seq ?_
  refine Imp.box_to b11 [cloV b3 b10 b11 b9 b4] rfl ?_
  refine Imp.box_to b10 [.slice none 0 0] rfl ?_
  refine Imp.box_to b4 [i64 (dn : Int)] rfl ?_
  refine Imp.sealB b3 ?_
  refine Imp.sealB b11 ?_
  refine Imp.sealB b9 ?_
  refine Imp.sealB b4 ?_
  refine Imp.box_to b8 [i64 0] rfl ?_
  refine Imp.nilL 89 1 encU ?_
  refine on_pk (M' := bx b8 30 [i64 0] :: M) (mb := mb) (b4 := b10) (v := .slice none 0 0) (G := fun _ => none) (xs := []) SelMC.sel ?_
  refine r_region ?_
  first | refine o_q _ rfl rfl rfl (v_ld1 rfl Tryd.underlying88 rfl rfl rfl) ?_ | refine o_q _ rfl rfl rfl (v_lf1 rfl Tryd.underlying88 rfl rfl rfl) ?_ | refine o_q _ rfl rfl rfl (v_loadE1 rfl Tryd.underlying88 rfl rfl (by omega) rfl rfl) ?_
  refine o_q _ rfl rfl rfl (v_move rfl rfl) ?_
  refine o_fnXV [pt b3 0, pt b10 0, pt b11 0, pt b9 0, pt b4 0] (on_s D uo po uc pc b20 mb b3 b10 b11 b9 b4 dn hg hdn D.people.toNat (fun _ => none) 0 s 0 [] (by omega) (by omega) (by decide) (by have h4 : 2 ^ D.people.toNat ≤ 2 ^ 4 := Nat.pow_le_pow_right (by decide) (by omega); simp only [List.length_nil]; omega)) rfl rfl rfl rfl rfl rfl rfl SubRC.sub (fun x24 _ => ?_)
  refine o_nil ?_
  repeat (first | with_reducible refine r_then ?_ | with_reducible refine r_in_normal ?_ | with_reducible refine r_sc_normal ?_)
  refine r_seq ?_
  refine on_unpk (mb := mb) (b4 := b10) (G := x24) (xs := [] ++ onL (needN D dn) D.people.toNat 0 s 0) (fun v => ?_)
  refine Imp.own_to v (setsT D dn s) (List.nil_append _) ?_
  refine Imp.unownB (xs := setsT D dn s) v (onL_ne (needN D dn) D.people.toNat 0 s 0 (by omega)) (fun bb cap sp hv => ?_)
  subst hv
  refine r_region ?_
  first | refine o_q _ rfl rfl rfl (v_ld1 rfl Tryd.underlying87 rfl rfl rfl) ?_ | refine o_q _ rfl rfl rfl (v_lf1 rfl Tryd.underlying87 rfl rfl rfl) ?_ | refine o_q _ rfl rfl rfl (v_loadE1 rfl Tryd.underlying87 rfl rfl (by omega) rfl rfl) ?_
  refine o_fnc (hsrt bb cap sp) rfl [] [] rfl rfl rfl rfl rfl rfl SubRC.sub ?_
  refine o_nil ?_
  repeat (first | with_reducible refine r_then ?_ | with_reducible refine r_in_normal ?_ | with_reducible refine r_sc_normal ?_)
  refine r_seq ?_
  refine Imp.sealB bb ?_
  refine Imp.rowP (b := bb) (sortT (setsT D dn s)) encU_len rfl ?_
  refine Imp.box_to b10 [.slice (some ⟨bb, 0, none⟩) (sortT (setsT D dn s)).length cap] (by rw [sortT_len]) ?_
  refine r_region ?_
  first | refine o_q _ rfl rfl rfl (v_ld1 rfl Tryd.underlying87 rfl rfl rfl) ?_ | refine o_q _ rfl rfl rfl (v_lf1 rfl Tryd.underlying87 rfl rfl rfl) ?_ | refine o_q _ rfl rfl rfl (v_loadE1 rfl Tryd.underlying87 rfl rfl (by omega) rfl rfl) ?_
  refine o_q _ rfl rfl rfl (v_bS rfl Tryd.underlying95 inf95 plt95 rfl rfl rfl (by repeat (first | exact trivial | refine ⟨rfl, ?_⟩)) (by rfl)) ?_
  refine o_q _ rfl rfl rfl (OpQ.fn (best61_v (sortT (setsT D dn s)) (by rw [sortT_len]; have := sets_len (dn := dn) (s := s) hg; omega) (fun k _ => Nat.lt_trans (sort_lt hg k) (by decide)) (some ⟨bb, 0, none⟩) cap) rfl rfl SubRC.sub) ?_
  refine o_q _ rfl rfl rfl (v_assign rfl rfl) ?_
  refine o_nil ?_
  repeat (first | with_reducible refine r_then ?_ | with_reducible refine r_in_normal ?_ | with_reducible refine r_sc_normal ?_)
  refine r_seq ?_
  refine r_region ?_
  refine o_q _ rfl rfl rfl (v_move rfl rfl) ?_
  refine o_q _ rfl rfl rfl (OpQ.fn (ones_v (mostS D dn s) (by have := most_lt (dn := dn) (s := s) hg; omega)) rfl rfl SubRC.sub) ?_
  refine o_q _ rfl rfl rfl (v_move rfl rfl) ?_
  refine o_q _ rfl rfl rfl (v_conv rfl Tryd.underlying89 Tryd.underlying3 rfl (IntWalk.i64_in _ (by have h9 : bestU pop (sortT (setsT D dn s)) (sortT (setsT D dn s)).length < 16 := most_lt hg; omega))) ?_
  refine o_q _ rfl rfl rfl (v_assign rfl rfl) ?_
  refine o_q _ rfl rfl rfl (v_assign rfl rfl) ?_
  refine o_st rfl inf30 rfl rfl rfl rfl rfl rfl rfl rfl ?_
  refine o_nil ?_
  repeat (first | with_reducible refine r_then ?_ | with_reducible refine r_in_normal ?_ | with_reducible refine r_sc_normal ?_)
  refine r_ret ?_
  repeat (first | with_reducible refine r_then_ret ?_ | with_reducible refine r_in_ret ?_ | with_reducible refine r_sc_ret ?_)
  refine Imp.box_to b8 [i64 0] rfl ?_
  exact d_retv answer_ans (Rd.three rfl (RdI.tmp rfl) (RdI.tmp rfl) (RdI.cell1 Tryd.underlying30 rfl rfl rfl)) (by rw [mostB, ansD_0 (chkD_0 hg (okMT h1 h2)), Int.toNat_natCast]; try rfl) SelMC.sel SubRC.sub
theorem most26_g (d s : Int) (hl1 : D.dues.length ≤ 40) (hl2 : D.paid.length ≤ 40) (hsrt : GoodD D → isDy d = true → isSd s = true → ∀ (bb cap : Nat) (sp : List Value), FnC Tryd.prog 60 [.slice (some ⟨bb, 0, none⟩) (setsT D d.toNat s).length cap] (bx bb 89 ((setsT D d.toNat s).flatMap encU ++ sp)) [] (.tuple #[]) (bx bb 89 ((sortT (setsT D d.toNat s)).flatMap encU ++ sp))) : FnV Tryd.prog 26 [valD D uo po uc pc, i64 d, i64 s] [rowD uo 5 encD D.dues, rowD po 4 encP D.paid, rowD (some ⟨0, 0, none⟩) 1 encE ([0, 1] : List Nat)] (.tuple #[i64 (mostB D d s).1.1, i64 (mostB D d s).1.2, i64 (mostB D d s).2]) := by
  by_cases hg : GoodD D
  · cases h1 : isDy d
    · exact most26_x2a D uo po uc pc d s hl1 hl2 hg h1
    · cases h2 : isSd s
      · exact most26_x2b D uo po uc pc d s hl1 hl2 hg h1 h2
      · exact most26_ok D uo po uc pc d s hl1 hl2 hg h1 h2 (hsrt hg h1 h2)
  · cases h1 : isDy d
    · exact most26_x1a D uo po uc pc d s hl1 hl2 hg h1
    · exact most26_x1b D uo po uc pc d s hl1 hl2 hg h1
theorem most26_12 (d s : Int) (hl1 : D.dues.length ≤ 40) (hl2 : D.paid.length ≤ 40) (h12 : (setsT D d.toNat s).length ≤ 12) : FnV Tryd.prog 26 [valD D uo po uc pc, i64 d, i64 s] [rowD uo 5 encD D.dues, rowD po 4 encP D.paid, rowD (some ⟨0, 0, none⟩) 1 encE ([0, 1] : List Nat)] (.tuple #[i64 (mostB D d s).1.1, i64 (mostB D d s).1.2, i64 (mostB D d s).2]) := most26_g D uo po uc pc d s hl1 hl2 (fun _ _ _ bb cap sp => sortU_ins (setsT D d.toNat s) (by omega) bb cap sp h12)
end Go.Proofs.YtpfgiednfjfdmaaDoor


namespace Go.Proofs.YtpfgiednfjfdmaaDoor
open Go.G Debt10
set_option maxRecDepth 1000000
attribute [local irreducible] G.ParO G.Fin
theorem guard29 : Tryd.prog.eqGuardType Tryd.prog.depth 29 = false := by kernel_rfl
theorem pc3 {w : World} {us : Array Value} {k : Nat} {v : Value} (h : us[k]? = some v) : (part 3 us k).run Tryd.prog w = .ok v w := run_partC Tryd.underlying3 rfl h
theorem eqIn29 (dd : Nat) (a b c d : Int) (w : World) : (Op.equalIn (dd + 1 + 1) 29 (.agg #[i64 a, i64 b]) (.agg #[i64 c, i64 d])).run Tryd.prog w = .ok (decide (a = c ∧ b = d ∧ True)) w := by
  refine eq_struct Tryd.underlying29 (by kernel_rfl) ?_
  exact fields_cons rfl (pc3 rfl) (pc3 rfl) (eq_int Tryd.underlying3) (fields_cons rfl (pc3 rfl) (pc3 rfl) (eq_int Tryd.underlying3) fields_nil)
theorem eq29 (a b c d : Int) (w : World) : (Op.equal 29 (.agg #[i64 a, i64 b]) (.agg #[i64 c, i64 d])).run Tryd.prog w = .ok (decide ((⟨a, b⟩ : Debt10.Span) = ⟨c, d⟩)) w :=
  eq_to (fun w => eqIn29 9998 a b c d w) (by simp) w
set_option maxHeartbeats 4000000 in
theorem rin_v (a b c : Int) : FnV Tryd.prog 68 [i64 a, i64 b, i64 c] [] (.bool (decide (b ≤ a ∧ a ≤ c))) := by
  refine FnV.intro Tryd.call68 Tryd.func68 rfl Tryd.ntmps68 rfl ?_
  intro W M Rf
  refine r_seq ?_
  refine r_region ?_
  refine o_q _ rfl rfl rfl (v_assign rfl rfl) ?_
  refine o_nil ?_
  repeat (first | with_reducible refine r_then ?_ | with_reducible refine r_in_normal ?_ | with_reducible refine r_sc_normal ?_)
  refine r_seq ?_
  refine r_region ?_
  refine o_q _ rfl rfl rfl (v_move rfl rfl) ?_
  refine o_q _ rfl rfl rfl (v_move rfl rfl) ?_
  first | refine o_q _ rfl rfl rfl (v_true (v_leq rfl rfl rfl) (by omega)) ?_ | refine o_q _ rfl rfl rfl (v_false (v_leq rfl rfl rfl) (by omega)) ?_ | refine o_test rfl rfl rfl (v_leq rfl rfl rfl) (fun h9 => ?_) (fun h9 => ?_)
  all_goals
    refine o_q _ rfl rfl rfl (v_move rfl rfl) ?_
    first | refine o_gn rfl rfl rfl rfl ?_ | refine o_g _ rfl rfl rfl rfl (v_move rfl rfl) ?_
    first | refine o_gn rfl rfl rfl rfl ?_ | refine o_g _ rfl rfl rfl rfl (v_move rfl rfl) ?_
    first | refine o_gn rfl rfl rfl rfl ?_ | refine o_g _ rfl rfl rfl rfl (v_true (v_leq rfl rfl rfl) (by omega)) ?_ | refine o_g _ rfl rfl rfl rfl (v_false (v_leq rfl rfl rfl) (by omega)) ?_ | refine o_gtest rfl rfl rfl rfl (v_leq rfl rfl rfl) (fun h13 => ?_) (fun h13 => ?_)
    all_goals
      first | refine o_q _ rfl rfl rfl (v_pick_t rfl rfl rfl) ?_ | refine o_q _ rfl rfl rfl (v_pick_f rfl rfl rfl) ?_
      refine o_q _ rfl rfl rfl (v_assign rfl rfl) ?_
      refine o_nil ?_
      repeat (first | with_reducible refine r_then ?_ | with_reducible refine r_in_normal ?_ | with_reducible refine r_sc_normal ?_)
      refine r_ret ?_
      repeat (first | with_reducible refine r_then_ret ?_ | with_reducible refine r_in_ret ?_ | with_reducible refine r_sc_ret ?_)
      first | exact r_retv2 (Rd.tmp rfl rfl) rfl SelMC.sel SubRC.sub | exact r_retv2 (Rd.tmp rfl rfl) (congrArg Value.bool (decide_eq_true (by omega)).symm) SelMC.sel SubRC.sub | exact r_retv2 (Rd.tmp rfl rfl) (congrArg Value.bool (decide_eq_false (by omega)).symm) SelMC.sel SubRC.sub
set_option maxHeartbeats 4000000 in
theorem rnum_v (lo hi : Int) : FnV Tryd.prog 69 [.agg #[i64 lo, i64 hi]] [] (.bool (decide (1 ≤ lo ∧ lo ≤ hi ∧ hi ≤ 500 ∧ hi - lo ≤ 20))) := by
  refine FnV.intro Tryd.call69 Tryd.func69 rfl Tryd.ntmps69 rfl ?_
  intro W M Rf
  refine r_seq ?_
  refine r_region ?_
  refine o_boxA rfl rfl rfl rfl rfl (fun b1 => ?_)
  refine o_q _ rfl rfl rfl (v_assign rfl rfl) ?_
  refine o_nil ?_
  repeat (first | with_reducible refine r_then ?_ | with_reducible refine r_in_normal ?_ | with_reducible refine r_sc_normal ?_)
  refine r_seq ?_
  refine r_region ?_
  first | refine o_q _ rfl rfl rfl (v_fieldAddr rfl Tryd.underlying29 inf3 rfl rfl rfl rfl) ?_ | refine o_q _ rfl rfl rfl (v_fieldAddrE rfl Tryd.underlying29 inf3 rfl rfl rfl rfl) ?_
  first | refine o_q _ rfl rfl rfl (v_ld1 rfl Tryd.underlying3 rfl rfl rfl) ?_ | refine o_q _ rfl rfl rfl (v_lf1 rfl Tryd.underlying3 rfl rfl rfl) ?_ | refine o_q _ rfl rfl rfl (v_loadE1 rfl Tryd.underlying3 rfl rfl (by omega) rfl rfl) ?_
  first | refine o_q _ rfl rfl rfl (v_true (v_leq rfl rfl rfl) (by omega)) ?_ | refine o_q _ rfl rfl rfl (v_false (v_leq rfl rfl rfl) (by omega)) ?_ | refine o_test rfl rfl rfl (v_leq rfl rfl rfl) (fun h5 => ?_) (fun h5 => ?_)
  all_goals
    refine o_q _ rfl rfl rfl (v_move rfl rfl) ?_
    first | refine o_gn rfl rfl rfl rfl ?_ | refine o_g _ rfl rfl rfl rfl (v_fieldAddr rfl Tryd.underlying29 inf3 rfl rfl rfl rfl) ?_ | refine o_g _ rfl rfl rfl rfl (v_fieldAddrE rfl Tryd.underlying29 inf3 rfl rfl rfl rfl) ?_
    first | refine o_gn rfl rfl rfl rfl ?_ | refine o_g _ rfl rfl rfl rfl (v_ld1 rfl Tryd.underlying3 rfl rfl rfl) ?_ | refine o_g _ rfl rfl rfl rfl (v_lf1 rfl Tryd.underlying3 rfl rfl rfl) ?_ | refine o_g _ rfl rfl rfl rfl (v_loadE1 rfl Tryd.underlying3 rfl rfl (by omega) rfl rfl) ?_
    first | refine o_gn rfl rfl rfl rfl ?_ | refine o_g _ rfl rfl rfl rfl (v_fieldAddr rfl Tryd.underlying29 inf3 rfl rfl rfl rfl) ?_ | refine o_g _ rfl rfl rfl rfl (v_fieldAddrE rfl Tryd.underlying29 inf3 rfl rfl rfl rfl) ?_
    first | refine o_gn rfl rfl rfl rfl ?_ | refine o_g _ rfl rfl rfl rfl (v_ld1 rfl Tryd.underlying3 rfl rfl rfl) ?_ | refine o_g _ rfl rfl rfl rfl (v_lf1 rfl Tryd.underlying3 rfl rfl rfl) ?_ | refine o_g _ rfl rfl rfl rfl (v_loadE1 rfl Tryd.underlying3 rfl rfl (by omega) rfl rfl) ?_
    first | refine o_gn rfl rfl rfl rfl ?_ | refine o_g _ rfl rfl rfl rfl (v_true (v_leq rfl rfl rfl) (by omega)) ?_ | refine o_g _ rfl rfl rfl rfl (v_false (v_leq rfl rfl rfl) (by omega)) ?_ | refine o_gtest rfl rfl rfl rfl (v_leq rfl rfl rfl) (fun h11 => ?_) (fun h11 => ?_)
    all_goals
      first | refine o_q _ rfl rfl rfl (v_pick_t rfl rfl rfl) ?_ | refine o_q _ rfl rfl rfl (v_pick_f rfl rfl rfl) ?_
      refine o_q _ rfl rfl rfl (v_move rfl rfl) ?_
      first | refine o_gn rfl rfl rfl rfl ?_ | refine o_g _ rfl rfl rfl rfl (v_fieldAddr rfl Tryd.underlying29 inf3 rfl rfl rfl rfl) ?_ | refine o_g _ rfl rfl rfl rfl (v_fieldAddrE rfl Tryd.underlying29 inf3 rfl rfl rfl rfl) ?_
      first | refine o_gn rfl rfl rfl rfl ?_ | refine o_g _ rfl rfl rfl rfl (v_ld1 rfl Tryd.underlying3 rfl rfl rfl) ?_ | refine o_g _ rfl rfl rfl rfl (v_lf1 rfl Tryd.underlying3 rfl rfl rfl) ?_ | refine o_g _ rfl rfl rfl rfl (v_loadE1 rfl Tryd.underlying3 rfl rfl (by omega) rfl rfl) ?_
      first | refine o_gn rfl rfl rfl rfl ?_ | refine o_g _ rfl rfl rfl rfl (v_true (v_leq rfl rfl rfl) (by omega)) ?_ | refine o_g _ rfl rfl rfl rfl (v_false (v_leq rfl rfl rfl) (by omega)) ?_ | refine o_gtest rfl rfl rfl rfl (v_leq rfl rfl rfl) (fun h16 => ?_) (fun h16 => ?_)
      all_goals
        first | refine o_q _ rfl rfl rfl (v_pick_t rfl rfl rfl) ?_ | refine o_q _ rfl rfl rfl (v_pick_f rfl rfl rfl) ?_
        refine o_q _ rfl rfl rfl (v_move rfl rfl) ?_
        first | refine o_gn rfl rfl rfl rfl ?_ | refine o_g _ rfl rfl rfl rfl (v_fieldAddr rfl Tryd.underlying29 inf3 rfl rfl rfl rfl) ?_ | refine o_g _ rfl rfl rfl rfl (v_fieldAddrE rfl Tryd.underlying29 inf3 rfl rfl rfl rfl) ?_
        first | refine o_gn rfl rfl rfl rfl ?_ | refine o_g _ rfl rfl rfl rfl (v_ld1 rfl Tryd.underlying3 rfl rfl rfl) ?_ | refine o_g _ rfl rfl rfl rfl (v_lf1 rfl Tryd.underlying3 rfl rfl rfl) ?_ | refine o_g _ rfl rfl rfl rfl (v_loadE1 rfl Tryd.underlying3 rfl rfl (by omega) rfl rfl) ?_
        first | refine o_gn rfl rfl rfl rfl ?_ | refine o_g _ rfl rfl rfl rfl (v_fieldAddr rfl Tryd.underlying29 inf3 rfl rfl rfl rfl) ?_ | refine o_g _ rfl rfl rfl rfl (v_fieldAddrE rfl Tryd.underlying29 inf3 rfl rfl rfl rfl) ?_
        first | refine o_gn rfl rfl rfl rfl ?_ | refine o_g _ rfl rfl rfl rfl (v_ld1 rfl Tryd.underlying3 rfl rfl rfl) ?_ | refine o_g _ rfl rfl rfl rfl (v_lf1 rfl Tryd.underlying3 rfl rfl rfl) ?_ | refine o_g _ rfl rfl rfl rfl (v_loadE1 rfl Tryd.underlying3 rfl rfl (by omega) rfl rfl) ?_
        first | refine o_gn rfl rfl rfl rfl ?_ | refine o_g _ rfl rfl rfl rfl (v_sub rfl rfl rfl (by omega)) ?_
        first | refine o_gn rfl rfl rfl rfl ?_ | refine o_g _ rfl rfl rfl rfl (v_true (v_leq rfl rfl rfl) (by omega)) ?_ | refine o_g _ rfl rfl rfl rfl (v_false (v_leq rfl rfl rfl) (by omega)) ?_ | refine o_gtest rfl rfl rfl rfl (v_leq rfl rfl rfl) (fun h24 => ?_) (fun h24 => ?_)
        all_goals
          first | refine o_q _ rfl rfl rfl (v_pick_t rfl rfl rfl) ?_ | refine o_q _ rfl rfl rfl (v_pick_f rfl rfl rfl) ?_
          refine o_q _ rfl rfl rfl (v_assign rfl rfl) ?_
          refine o_nil ?_
          repeat (first | with_reducible refine r_then ?_ | with_reducible refine r_in_normal ?_ | with_reducible refine r_sc_normal ?_)
          refine r_ret ?_
          repeat (first | with_reducible refine r_then_ret ?_ | with_reducible refine r_in_ret ?_ | with_reducible refine r_sc_ret ?_)
          first | exact r_retv2 (Rd.tmp rfl rfl) rfl SelMC.sel SubRC.sub | exact r_retv2 (Rd.tmp rfl rfl) (congrArg Value.bool (decide_eq_true (by omega)).symm) SelMC.sel SubRC.sub | exact r_retv2 (Rd.tmp rfl rfl) (congrArg Value.bool (decide_eq_false (by omega)).symm) SelMC.sel SubRC.sub
set_option maxHeartbeats 4000000 in
theorem rDay_v (n : Int) : FnV Tryd.prog 50 [i64 n] [] (.bool (isDy n)) := by
  refine FnV.intro Tryd.call50 Tryd.func50 rfl Tryd.ntmps50 rfl ?_
  intro W M Rf
  refine r_seq ?_
  refine r_region ?_
  refine o_q _ rfl rfl rfl (v_assign rfl rfl) ?_
  refine o_nil ?_
  repeat (first | with_reducible refine r_then ?_ | with_reducible refine r_in_normal ?_ | with_reducible refine r_sc_normal ?_)
  refine r_seq ?_
  refine r_region ?_
  refine o_q _ rfl rfl rfl (v_move rfl rfl) ?_
  refine o_q _ rfl rfl rfl (OpQ.fn (rin_v _ _ _) rfl rfl SubRC.sub) ?_
  refine o_q _ rfl rfl rfl (v_assign rfl rfl) ?_
  refine o_nil ?_
  repeat (first | with_reducible refine r_then ?_ | with_reducible refine r_in_normal ?_ | with_reducible refine r_sc_normal ?_)
  refine r_ret ?_
  repeat (first | with_reducible refine r_then_ret ?_ | with_reducible refine r_in_ret ?_ | with_reducible refine r_sc_ret ?_)
  exact r_retv2 (Rd.tmp rfl rfl) rfl SelMC.sel SubRC.sub
variable (D : Debt) (uo po : Option Addr) (uc pc : Nat)
set_option maxHeartbeats 4000000 in
theorem rWho_v (n : Int) : FnV Tryd.prog 49 [valD D uo po uc pc, i64 n] [] (.bool (isW D n)) := by
  refine FnV.intro Tryd.call49 Tryd.func49 rfl Tryd.ntmps49 rfl ?_
  intro W M Rf
  refine r_seq ?_
  refine r_region ?_
  refine o_boxA rfl rfl rfl rfl rfl (fun b2 => ?_)
  refine o_q _ rfl rfl rfl (v_assign rfl rfl) ?_
  refine o_nil ?_
  repeat (first | with_reducible refine r_then ?_ | with_reducible refine r_in_normal ?_ | with_reducible refine r_sc_normal ?_)
  refine r_seq ?_
  refine r_region ?_
  refine o_q _ rfl rfl rfl (v_move rfl rfl) ?_
  first | refine o_q _ rfl rfl rfl (v_fieldAddr rfl Tryd.underlying25 inf3 rfl rfl rfl rfl) ?_ | refine o_q _ rfl rfl rfl (v_fieldAddrE rfl Tryd.underlying25 inf3 rfl rfl rfl rfl) ?_
  first | refine o_q _ rfl rfl rfl (v_ld1 rfl Tryd.underlying3 rfl rfl rfl) ?_ | refine o_q _ rfl rfl rfl (v_lf1 rfl Tryd.underlying3 rfl rfl rfl) ?_ | refine o_q _ rfl rfl rfl (v_loadE1 rfl Tryd.underlying3 rfl rfl (by omega) rfl rfl) ?_
  refine o_q _ rfl rfl rfl (v_subW rfl rfl rfl) ?_
  refine o_q _ rfl rfl rfl (OpQ.fn (rin_v _ _ _) rfl rfl SubRC.sub) ?_
  refine o_q _ rfl rfl rfl (v_assign rfl rfl) ?_
  refine o_nil ?_
  repeat (first | with_reducible refine r_then ?_ | with_reducible refine r_in_normal ?_ | with_reducible refine r_sc_normal ?_)
  refine r_ret ?_
  repeat (first | with_reducible refine r_then_ret ?_ | with_reducible refine r_in_ret ?_ | with_reducible refine r_sc_ret ?_)
  exact r_retv2 (Rd.tmp rfl rfl) rfl SelMC.sel SubRC.sub
theorem rWho_g (n : Int) (h : 1 ≤ D.people ∧ D.people ≤ 4) : FnV Tryd.prog 49 [valD D uo po uc pc, i64 n] [] (.bool (decide (0 ≤ n ∧ n ≤ D.people - 1))) := by
  have h1 := rWho_v D uo po uc pc n
  unfold isW at h1
  rw [show IntKind.i64.wrap (D.people - 1) = D.people - 1 from IntWalk.i64_in _ (by omega)] at h1
  exact h1
set_option maxHeartbeats 4000000 in
theorem Debt_v (hl1 : D.dues.length ≤ 40) (hl2 : D.paid.length ≤ 40) : FnV Tryd.prog 34 [valD D uo po uc pc] [rowD uo 5 encD D.dues, rowD po 4 encP D.paid] (.bool (decide (GoodD D))) := by
  refine FnV.intro Tryd.call34 Tryd.func34 rfl Tryd.ntmps34 rfl ?_
  intro W M Rf
  refine r_seq ?_
  refine r_region ?_
  refine o_boxA rfl rfl rfl rfl rfl (fun b1 => ?_)
  refine o_q _ rfl rfl rfl (v_assign rfl rfl) ?_
  refine o_nil ?_
  repeat (first | with_reducible refine r_then ?_ | with_reducible refine r_in_normal ?_ | with_reducible refine r_sc_normal ?_)
  refine r_seq ?_
  refine r_seq ?_
  refine r_region ?_
  first | refine o_q _ rfl rfl rfl (v_fieldAddr rfl Tryd.underlying25 inf3 rfl rfl rfl rfl) ?_ | refine o_q _ rfl rfl rfl (v_fieldAddrE rfl Tryd.underlying25 inf3 rfl rfl rfl rfl) ?_
  first | refine o_q _ rfl rfl rfl (v_ld1 rfl Tryd.underlying3 rfl rfl rfl) ?_ | refine o_q _ rfl rfl rfl (v_lf1 rfl Tryd.underlying3 rfl rfl rfl) ?_ | refine o_q _ rfl rfl rfl (v_loadE1 rfl Tryd.underlying3 rfl rfl (by omega) rfl rfl) ?_
  first | refine o_q _ rfl rfl rfl (v_true (OpQ.fn (rin_v _ _ _) rfl rfl SubRC.sub) (by omega)) ?_ | refine o_q _ rfl rfl rfl (v_false (OpQ.fn (rin_v _ _ _) rfl rfl SubRC.sub) (by omega)) ?_ | refine o_test rfl rfl rfl (OpQ.fn (rin_v _ _ _) rfl rfl SubRC.sub) (fun h9 => ?_) (fun h9 => ?_)
  all_goals
    refine o_q _ rfl rfl rfl (v_not rfl rfl) ?_
    refine o_q _ rfl rfl rfl (v_move rfl rfl) ?_
    first | refine o_gn rfl rfl rfl rfl ?_ | refine o_g _ rfl rfl rfl rfl (v_fieldAddr rfl Tryd.underlying25 inf22 rfl rfl rfl rfl) ?_ | refine o_g _ rfl rfl rfl rfl (v_fieldAddrE rfl Tryd.underlying25 inf22 rfl rfl rfl rfl) ?_
    first | refine o_gn rfl rfl rfl rfl ?_ | refine o_g _ rfl rfl rfl rfl (v_ld1 rfl Tryd.underlying22 rfl rfl rfl) ?_ | refine o_g _ rfl rfl rfl rfl (v_lf1 rfl Tryd.underlying22 rfl rfl rfl) ?_ | refine o_g _ rfl rfl rfl rfl (v_loadE1 rfl Tryd.underlying22 rfl rfl (by omega) rfl rfl) ?_
    first | refine o_gn rfl rfl rfl rfl ?_ | refine o_g _ rfl rfl rfl rfl (v_len rfl rfl Tryd.underlying22 rfl) ?_
    first | refine o_gn rfl rfl rfl rfl ?_ | refine o_g _ rfl rfl rfl rfl (v_true (v_gtr rfl rfl rfl) (by omega)) ?_ | refine o_g _ rfl rfl rfl rfl (v_false (v_gtr rfl rfl rfl) (by omega)) ?_ | refine o_gtest rfl rfl rfl rfl (v_gtr rfl rfl rfl) (fun h15 => ?_) (fun h15 => ?_)
    all_goals
      first | refine o_q _ rfl rfl rfl (v_pick_t rfl rfl rfl) ?_ | refine o_q _ rfl rfl rfl (v_pick_f rfl rfl rfl) ?_
      refine o_q _ rfl rfl rfl (v_move rfl rfl) ?_
      first | refine o_gn rfl rfl rfl rfl ?_ | refine o_g _ rfl rfl rfl rfl (v_fieldAddr rfl Tryd.underlying25 inf23 rfl rfl rfl rfl) ?_ | refine o_g _ rfl rfl rfl rfl (v_fieldAddrE rfl Tryd.underlying25 inf23 rfl rfl rfl rfl) ?_
      first | refine o_gn rfl rfl rfl rfl ?_ | refine o_g _ rfl rfl rfl rfl (v_ld1 rfl Tryd.underlying23 rfl rfl rfl) ?_ | refine o_g _ rfl rfl rfl rfl (v_lf1 rfl Tryd.underlying23 rfl rfl rfl) ?_ | refine o_g _ rfl rfl rfl rfl (v_loadE1 rfl Tryd.underlying23 rfl rfl (by omega) rfl rfl) ?_
      first | refine o_gn rfl rfl rfl rfl ?_ | refine o_g _ rfl rfl rfl rfl (v_len rfl rfl Tryd.underlying23 rfl) ?_
      first | refine o_gn rfl rfl rfl rfl ?_ | refine o_g _ rfl rfl rfl rfl (v_true (v_gtr rfl rfl rfl) (by omega)) ?_ | refine o_g _ rfl rfl rfl rfl (v_false (v_gtr rfl rfl rfl) (by omega)) ?_ | refine o_gtest rfl rfl rfl rfl (v_gtr rfl rfl rfl) (fun h21 => ?_) (fun h21 => ?_)
      all_goals
        first | refine o_q _ rfl rfl rfl (v_pick_t rfl rfl rfl) ?_ | refine o_q _ rfl rfl rfl (v_pick_f rfl rfl rfl) ?_
        refine o_nil ?_
        repeat (first | with_reducible refine r_then ?_ | with_reducible refine r_in_normal ?_ | with_reducible refine r_sc_normal ?_)
        first | refine r_condd rfl (fun hc22 => ?_) (fun hc22 => ?_) | refine r_cond rfl (fun hc22 => ?_) (fun hc22 => ?_)
        ·
          first
          | (exfalso; revert hc22; decide)
          | (exfalso; omega)
          | skip
            refine r_seq ?_
            refine r_region ?_
            refine o_q _ rfl rfl rfl (v_assign rfl rfl) ?_
            refine o_nil ?_
            repeat (first | with_reducible refine r_then ?_ | with_reducible refine r_in_normal ?_ | with_reducible refine r_sc_normal ?_)
            refine r_ret ?_
            repeat (first | with_reducible refine r_then_ret ?_ | with_reducible refine r_in_ret ?_ | with_reducible refine r_sc_ret ?_)
            first | exact r_retv2 (Rd.tmp rfl rfl) (congrArg Value.bool (decide_eq_true (⟨by omega, by omega, by omega, fun j hj => hI0.2 j (by omega), fun j hj => hI1.2 j (by omega)⟩ : GoodD D)).symm) SelMC.sel SubRC.sub | exact r_retv2 (Rd.tmp rfl rfl) (congrArg Value.bool (decide_eq_false (fun g : GoodD D => by have g1 := g.np; have g2 := g.nd; have g3 := g.ny; first | omega | (have g9 := g.dues k1 (by omega); unfold DueOk SodsOk at g9; omega) | (have g9 := g.paid k2 (by omega); unfold PaidOk SodsOk at g9; omega))).symm) SelMC.sel SubRC.sub
        ·
          first
          | (exfalso; revert hc22; decide)
          | (exfalso; omega)
          | skip
            refine r_skip ?_
            repeat (first | with_reducible refine r_then ?_ | with_reducible refine r_in_normal ?_ | with_reducible refine r_sc_normal ?_)
            refine r_seq ?_
            refine r_seq ?_
            refine r_region ?_
            refine o_q _ rfl rfl rfl (v_assign rfl rfl) ?_
            refine o_nil ?_
            repeat (first | with_reducible refine r_then ?_ | with_reducible refine r_in_normal ?_ | with_reducible refine r_sc_normal ?_)
            refine r_block ?_
            refine r_loop (ι := Nat) (fun k1 => k1 ≤ D.dues.length ∧ ∀ j, j < k1 → DueOk D (D.dues.getD j default)) (fun k1 => [(1, pt b1 0), (3, i64 k1)]) (fun k1 => bx b1 25 (cellsD D uo po uc pc) :: M) (fun k1 => [rowD uo 5 encD D.dues, rowD po 4 encP D.paid] ++ Rf) (fun k1 => D.dues.length - k1) 0 ?_ ?_ ?_
            ·
              exact r_here (by repeat (first | exact FSub.nil | refine FSub.cons rfl ?_)) SelMC.sel SubRC.sub
            ·
              exact ⟨Nat.zero_le _, fun j hj => absurd hj (by omega)⟩
            ·
              rintro k1 hI0
              refine r_seq ?_
              refine r_seq ?_
              refine r_region ?_
              refine o_q _ rfl rfl rfl (v_move rfl rfl) ?_
              first | refine o_q _ rfl rfl rfl (v_fieldAddr rfl Tryd.underlying25 inf22 rfl rfl rfl rfl) ?_ | refine o_q _ rfl rfl rfl (v_fieldAddrE rfl Tryd.underlying25 inf22 rfl rfl rfl rfl) ?_
              first | refine o_q _ rfl rfl rfl (v_ld1 rfl Tryd.underlying22 rfl rfl rfl) ?_ | refine o_q _ rfl rfl rfl (v_lf1 rfl Tryd.underlying22 rfl rfl rfl) ?_ | refine o_q _ rfl rfl rfl (v_loadE1 rfl Tryd.underlying22 rfl rfl (by omega) rfl rfl) ?_
              refine o_q _ rfl rfl rfl (v_len rfl rfl Tryd.underlying22 rfl) ?_
              refine o_q _ rfl rfl rfl (v_lss rfl rfl rfl) ?_
              refine o_nil ?_
              repeat (first | with_reducible refine r_then ?_ | with_reducible refine r_in_normal ?_ | with_reducible refine r_sc_normal ?_)
              first | refine r_condd rfl (fun hc27 => ?_) (fun hc27 => ?_) | refine r_cond rfl (fun hc27 => ?_) (fun hc27 => ?_)
              ·
                first
                | (exfalso; revert hc27; decide)
                | (exfalso; omega)
                | skip
                  refine r_skip ?_
                  repeat (first | with_reducible refine r_then ?_ | with_reducible refine r_in_normal ?_ | with_reducible refine r_sc_normal ?_)
                  refine r_seq ?_
                  refine r_block ?_
                  refine r_seq ?_
                  refine r_region ?_
                  first | refine o_q _ rfl rfl rfl (v_fieldAddr rfl Tryd.underlying25 inf22 rfl rfl rfl rfl) ?_ | refine o_q _ rfl rfl rfl (v_fieldAddrE rfl Tryd.underlying25 inf22 rfl rfl rfl rfl) ?_
                  first | refine o_q _ rfl rfl rfl (v_ld1 rfl Tryd.underlying22 rfl rfl rfl) ?_ | refine o_q _ rfl rfl rfl (v_lf1 rfl Tryd.underlying22 rfl rfl rfl) ?_ | refine o_q _ rfl rfl rfl (v_loadE1 rfl Tryd.underlying22 rfl rfl (by omega) rfl rfl) ?_
                  refine o_q _ rfl rfl rfl (v_move rfl rfl) ?_
                  first | refine o_q _ rfl rfl rfl (v_indexAddrSn rfl Tryd.underlying22 inf62 rfl rfl rfl (by omega) rfl) ?_ | refine o_q _ rfl rfl rfl (v_indexAddrS rfl Tryd.underlying22 inf62 rfl rfl rfl (by omega) (by omega) rfl) ?_
                  refine o_q _ rfl rfl rfl (v_loadEN (us := encD (D.dues.getD k1 default)) rfl Tryd.underlying62 rfl inf62 rfl (by omega) rfl rfl rfl) ?_
                  refine o_alloc rfl inf62 rfl rfl rfl rfl rfl (fun b4 => ?_)
                  refine o_st rfl inf62 rfl rfl rfl rfl rfl rfl rfl rfl ?_
                  refine o_nil ?_
                  repeat (first | with_reducible refine r_then ?_ | with_reducible refine r_in_normal ?_ | with_reducible refine r_sc_normal ?_)
                  refine r_seq ?_
                  refine Imp.box_to b4 (encD (D.dues.getD k1 default)) rfl ?_
                  refine r_region ?_
                  first | refine o_q _ rfl rfl rfl (v_ldW rfl Tryd.underlying25 rfl inf25 rfl rfl) ?_ | refine o_q _ rfl rfl rfl (v_lfW rfl Tryd.underlying25 rfl inf25 rfl rfl) ?_ | refine o_q _ rfl rfl rfl (v_lfN rfl Tryd.underlying25 rfl inf25 rfl rfl rfl) ?_ | refine o_q _ rfl rfl rfl (v_ldN rfl Tryd.underlying25 rfl inf25 rfl rfl rfl) ?_ | refine o_q _ rfl rfl rfl (v_loadEN rfl Tryd.underlying25 rfl inf25 rfl (by omega) rfl rfl rfl) ?_
                  first | refine o_q _ rfl rfl rfl (v_fieldAddr rfl Tryd.underlying62 inf3 rfl rfl rfl rfl) ?_ | refine o_q _ rfl rfl rfl (v_fieldAddrE rfl Tryd.underlying62 inf3 rfl rfl rfl rfl) ?_
                  first | refine o_q _ rfl rfl rfl (v_ld1 rfl Tryd.underlying3 rfl rfl rfl) ?_ | refine o_q _ rfl rfl rfl (v_lf1 rfl Tryd.underlying3 rfl rfl rfl) ?_ | refine o_q _ rfl rfl rfl (v_loadE1 rfl Tryd.underlying3 rfl rfl (by omega) rfl rfl) ?_
                  first | refine o_q _ rfl rfl rfl (v_true (OpQ.fn (rWho_g D uo po uc pc _ (by omega)) rfl rfl SubRC.sub) (by omega)) ?_ | refine o_q _ rfl rfl rfl (v_false (OpQ.fn (rWho_g D uo po uc pc _ (by omega)) rfl rfl SubRC.sub) (by omega)) ?_ | refine o_test rfl rfl rfl (OpQ.fn (rWho_g D uo po uc pc _ (by omega)) rfl rfl SubRC.sub) (fun h38 => ?_) (fun h38 => ?_)
                  all_goals
                    refine o_q _ rfl rfl rfl (v_not rfl rfl) ?_
                    refine o_q _ rfl rfl rfl (v_move rfl rfl) ?_
                    first | refine o_gn rfl rfl rfl rfl ?_ | refine o_g _ rfl rfl rfl rfl (v_fieldAddr rfl Tryd.underlying62 inf3 rfl rfl rfl rfl) ?_ | refine o_g _ rfl rfl rfl rfl (v_fieldAddrE rfl Tryd.underlying62 inf3 rfl rfl rfl rfl) ?_
                    first | refine o_gn rfl rfl rfl rfl ?_ | refine o_g _ rfl rfl rfl rfl (v_ld1 rfl Tryd.underlying3 rfl rfl rfl) ?_ | refine o_g _ rfl rfl rfl rfl (v_lf1 rfl Tryd.underlying3 rfl rfl rfl) ?_ | refine o_g _ rfl rfl rfl rfl (v_loadE1 rfl Tryd.underlying3 rfl rfl (by omega) rfl rfl) ?_
                    first | refine o_gn rfl rfl rfl rfl ?_ | refine o_g _ rfl rfl rfl rfl (v_true (OpQ.fn (rDay_v _) rfl rfl SubRC.sub) (by omega)) ?_ | refine o_g _ rfl rfl rfl rfl (v_false (OpQ.fn (rDay_v _) rfl rfl SubRC.sub) (by omega)) ?_ | refine o_gtest rfl rfl rfl rfl (OpQ.fn (rDay_v _) rfl rfl SubRC.sub) (fun h43 => ?_) (fun h43 => ?_)
                    all_goals
                      first | refine o_gn rfl rfl rfl rfl ?_ | refine o_g _ rfl rfl rfl rfl (v_not rfl rfl) ?_
                      first | refine o_q _ rfl rfl rfl (v_pick_t rfl rfl rfl) ?_ | refine o_q _ rfl rfl rfl (v_pick_f rfl rfl rfl) ?_
                      refine o_q _ rfl rfl rfl (v_move rfl rfl) ?_
                      first | refine o_gn rfl rfl rfl rfl ?_ | refine o_g _ rfl rfl rfl rfl (v_fieldAddr rfl Tryd.underlying62 inf29 rfl rfl rfl rfl) ?_ | refine o_g _ rfl rfl rfl rfl (v_fieldAddrE rfl Tryd.underlying62 inf29 rfl rfl rfl rfl) ?_
                      first | refine o_gn rfl rfl rfl rfl ?_ | refine o_g _ rfl rfl rfl rfl (v_ldW rfl Tryd.underlying29 rfl inf29 rfl rfl) ?_ | refine o_g _ rfl rfl rfl rfl (v_lfW rfl Tryd.underlying29 rfl inf29 rfl rfl) ?_ | refine o_g _ rfl rfl rfl rfl (v_lfN rfl Tryd.underlying29 rfl inf29 rfl rfl rfl) ?_ | refine o_g _ rfl rfl rfl rfl (v_ldN rfl Tryd.underlying29 rfl inf29 rfl rfl rfl) ?_ | refine o_g _ rfl rfl rfl rfl (v_loadEN rfl Tryd.underlying29 rfl inf29 rfl (by omega) rfl rfl rfl) ?_
                      first | refine o_gn rfl rfl rfl rfl ?_ | refine o_g _ rfl rfl rfl rfl (v_true (OpQ.fn (rnum_v _ _) rfl rfl SubRC.sub) (by omega)) ?_ | refine o_g _ rfl rfl rfl rfl (v_false (OpQ.fn (rnum_v _ _) rfl rfl SubRC.sub) (by omega)) ?_ | refine o_gtest rfl rfl rfl rfl (OpQ.fn (rnum_v _ _) rfl rfl SubRC.sub) (fun h49 => ?_) (fun h49 => ?_)
                      all_goals
                        first | refine o_gn rfl rfl rfl rfl ?_ | refine o_g _ rfl rfl rfl rfl (v_not rfl rfl) ?_
                        first | refine o_q _ rfl rfl rfl (v_pick_t rfl rfl rfl) ?_ | refine o_q _ rfl rfl rfl (v_pick_f rfl rfl rfl) ?_
                        refine o_q _ rfl rfl rfl (v_move rfl rfl) ?_
                        first | refine o_gn rfl rfl rfl rfl ?_ | refine o_g _ rfl rfl rfl rfl (v_fieldAddr rfl Tryd.underlying62 inf3 rfl rfl rfl rfl) ?_ | refine o_g _ rfl rfl rfl rfl (v_fieldAddrE rfl Tryd.underlying62 inf3 rfl rfl rfl rfl) ?_
                        first | refine o_gn rfl rfl rfl rfl ?_ | refine o_g _ rfl rfl rfl rfl (v_ld1 rfl Tryd.underlying3 rfl rfl rfl) ?_ | refine o_g _ rfl rfl rfl rfl (v_lf1 rfl Tryd.underlying3 rfl rfl rfl) ?_ | refine o_g _ rfl rfl rfl rfl (v_loadE1 rfl Tryd.underlying3 rfl rfl (by omega) rfl rfl) ?_
                        first | refine o_gn rfl rfl rfl rfl ?_ | refine o_g _ rfl rfl rfl rfl (v_true (OpQ.fn (rin_v _ _ _) rfl rfl SubRC.sub) (by omega)) ?_ | refine o_g _ rfl rfl rfl rfl (v_false (OpQ.fn (rin_v _ _ _) rfl rfl SubRC.sub) (by omega)) ?_ | refine o_gtest rfl rfl rfl rfl (OpQ.fn (rin_v _ _ _) rfl rfl SubRC.sub) (fun h55 => ?_) (fun h55 => ?_)
                        all_goals
                          first | refine o_gn rfl rfl rfl rfl ?_ | refine o_g _ rfl rfl rfl rfl (v_not rfl rfl) ?_
                          first | refine o_q _ rfl rfl rfl (v_pick_t rfl rfl rfl) ?_ | refine o_q _ rfl rfl rfl (v_pick_f rfl rfl rfl) ?_
                          refine o_nil ?_
                          repeat (first | with_reducible refine r_then ?_ | with_reducible refine r_in_normal ?_ | with_reducible refine r_sc_normal ?_)
                          first | refine r_condd rfl (fun hc57 => ?_) (fun hc57 => ?_) | refine r_cond rfl (fun hc57 => ?_) (fun hc57 => ?_)
                          ·
                            first
                            | (exfalso; revert hc57; decide)
                            | (exfalso; omega)
                            | skip
                              refine r_seq ?_
                              refine r_region ?_
                              refine o_q _ rfl rfl rfl (v_assign rfl rfl) ?_
                              refine o_nil ?_
                              repeat (first | with_reducible refine r_then ?_ | with_reducible refine r_in_normal ?_ | with_reducible refine r_sc_normal ?_)
                              refine r_ret ?_
                              repeat (first | with_reducible refine r_then_ret ?_ | with_reducible refine r_in_ret ?_ | with_reducible refine r_sc_ret ?_)
                              first | exact r_retv2 (Rd.tmp rfl rfl) (congrArg Value.bool (decide_eq_true (⟨by omega, by omega, by omega, fun j hj => hI0.2 j (by omega), fun j hj => hI1.2 j (by omega)⟩ : GoodD D)).symm) SelMC.sel SubRC.sub | exact r_retv2 (Rd.tmp rfl rfl) (congrArg Value.bool (decide_eq_false (fun g : GoodD D => by have g1 := g.np; have g2 := g.nd; have g3 := g.ny; first | omega | (have g9 := g.dues k1 (by omega); unfold DueOk SodsOk at g9; omega) | (have g9 := g.paid k2 (by omega); unfold PaidOk SodsOk at g9; omega))).symm) SelMC.sel SubRC.sub
                          ·
                            first
                            | (exfalso; revert hc57; decide)
                            | (exfalso; omega)
                            | skip
                              refine r_skip ?_
                              repeat (first | with_reducible refine r_then ?_ | with_reducible refine r_in_normal ?_ | with_reducible refine r_sc_normal ?_)
                              refine r_region ?_
                              refine o_q _ rfl rfl rfl (v_move rfl rfl) ?_
                              refine o_q _ rfl rfl rfl (v_add rfl rfl rfl (by omega)) ?_
                              refine o_q _ rfl rfl rfl (v_assign rfl rfl) ?_
                              refine o_nil ?_
                              repeat (first | with_reducible refine r_then ?_ | with_reducible refine r_in_normal ?_ | with_reducible refine r_sc_normal ?_)
                              refine r_next (k1 + 1) ?_ ?_ ?_
                              ·
                                exact r_here (by repeat (first | exact FSub.nil | refine FSub.cons rfl ?_)) SelMC.sel SubRC.sub
                              ·
                                exact ⟨by omega, all_step hI0.2 (by unfold DueOk SodsOk; omega)⟩
                              ·
                                omega
              ·
                first
                | (exfalso; revert hc27; decide)
                | (exfalso; omega)
                | skip
                  refine r_exit ?_
                  repeat (first | with_reducible refine r_then_exit ?_ | with_reducible refine r_sc_exit ?_ | with_reducible refine r_in_here ?_ | (with_reducible refine r_in_past (by decide) ?_) | with_reducible refine r_then ?_ | with_reducible refine r_in_normal ?_ | with_reducible refine r_sc_normal ?_)
                  refine r_seq ?_
                  refine r_seq ?_
                  refine r_region ?_
                  refine o_q _ rfl rfl rfl (v_assign rfl rfl) ?_
                  refine o_nil ?_
                  repeat (first | with_reducible refine r_then ?_ | with_reducible refine r_in_normal ?_ | with_reducible refine r_sc_normal ?_)
                  refine r_block ?_
                  refine r_loop (ι := Nat) (fun k2 => k2 ≤ D.paid.length ∧ ∀ j, j < k2 → PaidOk D (D.paid.getD j default)) (fun k2 => [(1, pt b1 0), (5, i64 k2)]) (fun k2 => bx b1 25 (cellsD D uo po uc pc) :: M) (fun k2 => [rowD uo 5 encD D.dues, rowD po 4 encP D.paid] ++ Rf) (fun k2 => D.paid.length - k2) 0 ?_ ?_ ?_
                  ·
                    exact r_here (by repeat (first | exact FSub.nil | refine FSub.cons rfl ?_)) SelMC.sel SubRC.sub
                  ·
                    exact ⟨Nat.zero_le _, fun j hj => absurd hj (by omega)⟩
                  ·
                    rintro k2 hI1
                    refine r_seq ?_
                    refine r_seq ?_
                    refine r_region ?_
                    refine o_q _ rfl rfl rfl (v_move rfl rfl) ?_
                    first | refine o_q _ rfl rfl rfl (v_fieldAddr rfl Tryd.underlying25 inf23 rfl rfl rfl rfl) ?_ | refine o_q _ rfl rfl rfl (v_fieldAddrE rfl Tryd.underlying25 inf23 rfl rfl rfl rfl) ?_
                    first | refine o_q _ rfl rfl rfl (v_ld1 rfl Tryd.underlying23 rfl rfl rfl) ?_ | refine o_q _ rfl rfl rfl (v_lf1 rfl Tryd.underlying23 rfl rfl rfl) ?_ | refine o_q _ rfl rfl rfl (v_loadE1 rfl Tryd.underlying23 rfl rfl (by omega) rfl rfl) ?_
                    refine o_q _ rfl rfl rfl (v_len rfl rfl Tryd.underlying23 rfl) ?_
                    refine o_q _ rfl rfl rfl (v_lss rfl rfl rfl) ?_
                    refine o_nil ?_
                    repeat (first | with_reducible refine r_then ?_ | with_reducible refine r_in_normal ?_ | with_reducible refine r_sc_normal ?_)
                    first | refine r_condd rfl (fun hc62 => ?_) (fun hc62 => ?_) | refine r_cond rfl (fun hc62 => ?_) (fun hc62 => ?_)
                    ·
                      first
                      | (exfalso; revert hc62; decide)
                      | (exfalso; omega)
                      | skip
                        refine r_skip ?_
                        repeat (first | with_reducible refine r_then ?_ | with_reducible refine r_in_normal ?_ | with_reducible refine r_sc_normal ?_)
                        refine r_seq ?_
                        refine r_block ?_
                        refine r_seq ?_
                        refine r_region ?_
                        first | refine o_q _ rfl rfl rfl (v_fieldAddr rfl Tryd.underlying25 inf23 rfl rfl rfl rfl) ?_ | refine o_q _ rfl rfl rfl (v_fieldAddrE rfl Tryd.underlying25 inf23 rfl rfl rfl rfl) ?_
                        first | refine o_q _ rfl rfl rfl (v_ld1 rfl Tryd.underlying23 rfl rfl rfl) ?_ | refine o_q _ rfl rfl rfl (v_lf1 rfl Tryd.underlying23 rfl rfl rfl) ?_ | refine o_q _ rfl rfl rfl (v_loadE1 rfl Tryd.underlying23 rfl rfl (by omega) rfl rfl) ?_
                        refine o_q _ rfl rfl rfl (v_move rfl rfl) ?_
                        first | refine o_q _ rfl rfl rfl (v_indexAddrSn rfl Tryd.underlying23 inf54 rfl rfl rfl (by omega) rfl) ?_ | refine o_q _ rfl rfl rfl (v_indexAddrS rfl Tryd.underlying23 inf54 rfl rfl rfl (by omega) (by omega) rfl) ?_
                        refine o_q _ rfl rfl rfl (v_loadEN (us := encP (D.paid.getD k2 default)) rfl Tryd.underlying54 rfl inf54 rfl (by omega) rfl rfl rfl) ?_
                        refine o_alloc rfl inf54 rfl rfl rfl rfl rfl (fun b6 => ?_)
                        refine o_st rfl inf54 rfl rfl rfl rfl rfl rfl rfl rfl ?_
                        refine o_nil ?_
                        repeat (first | with_reducible refine r_then ?_ | with_reducible refine r_in_normal ?_ | with_reducible refine r_sc_normal ?_)
                        refine r_seq ?_
                        refine Imp.box_to b6 (encP (D.paid.getD k2 default)) rfl ?_
                        refine r_region ?_
                        first | refine o_q _ rfl rfl rfl (v_ldW rfl Tryd.underlying25 rfl inf25 rfl rfl) ?_ | refine o_q _ rfl rfl rfl (v_lfW rfl Tryd.underlying25 rfl inf25 rfl rfl) ?_ | refine o_q _ rfl rfl rfl (v_lfN rfl Tryd.underlying25 rfl inf25 rfl rfl rfl) ?_ | refine o_q _ rfl rfl rfl (v_ldN rfl Tryd.underlying25 rfl inf25 rfl rfl rfl) ?_ | refine o_q _ rfl rfl rfl (v_loadEN rfl Tryd.underlying25 rfl inf25 rfl (by omega) rfl rfl rfl) ?_
                        first | refine o_q _ rfl rfl rfl (v_fieldAddr rfl Tryd.underlying54 inf3 rfl rfl rfl rfl) ?_ | refine o_q _ rfl rfl rfl (v_fieldAddrE rfl Tryd.underlying54 inf3 rfl rfl rfl rfl) ?_
                        first | refine o_q _ rfl rfl rfl (v_ld1 rfl Tryd.underlying3 rfl rfl rfl) ?_ | refine o_q _ rfl rfl rfl (v_lf1 rfl Tryd.underlying3 rfl rfl rfl) ?_ | refine o_q _ rfl rfl rfl (v_loadE1 rfl Tryd.underlying3 rfl rfl (by omega) rfl rfl) ?_
                        first | refine o_q _ rfl rfl rfl (v_true (OpQ.fn (rWho_g D uo po uc pc _ (by omega)) rfl rfl SubRC.sub) (by omega)) ?_ | refine o_q _ rfl rfl rfl (v_false (OpQ.fn (rWho_g D uo po uc pc _ (by omega)) rfl rfl SubRC.sub) (by omega)) ?_ | refine o_test rfl rfl rfl (OpQ.fn (rWho_g D uo po uc pc _ (by omega)) rfl rfl SubRC.sub) (fun h73 => ?_) (fun h73 => ?_)
                        all_goals
                          refine o_q _ rfl rfl rfl (v_not rfl rfl) ?_
                          refine o_q _ rfl rfl rfl (v_move rfl rfl) ?_
                          first | refine o_gn rfl rfl rfl rfl ?_ | refine o_g _ rfl rfl rfl rfl (v_fieldAddr rfl Tryd.underlying54 inf3 rfl rfl rfl rfl) ?_ | refine o_g _ rfl rfl rfl rfl (v_fieldAddrE rfl Tryd.underlying54 inf3 rfl rfl rfl rfl) ?_
                          first | refine o_gn rfl rfl rfl rfl ?_ | refine o_g _ rfl rfl rfl rfl (v_ld1 rfl Tryd.underlying3 rfl rfl rfl) ?_ | refine o_g _ rfl rfl rfl rfl (v_lf1 rfl Tryd.underlying3 rfl rfl rfl) ?_ | refine o_g _ rfl rfl rfl rfl (v_loadE1 rfl Tryd.underlying3 rfl rfl (by omega) rfl rfl) ?_
                          first | refine o_gn rfl rfl rfl rfl ?_ | refine o_g _ rfl rfl rfl rfl (v_true (OpQ.fn (rDay_v _) rfl rfl SubRC.sub) (by omega)) ?_ | refine o_g _ rfl rfl rfl rfl (v_false (OpQ.fn (rDay_v _) rfl rfl SubRC.sub) (by omega)) ?_ | refine o_gtest rfl rfl rfl rfl (OpQ.fn (rDay_v _) rfl rfl SubRC.sub) (fun h78 => ?_) (fun h78 => ?_)
                          all_goals
                            first | refine o_gn rfl rfl rfl rfl ?_ | refine o_g _ rfl rfl rfl rfl (v_not rfl rfl) ?_
                            first | refine o_q _ rfl rfl rfl (v_pick_t rfl rfl rfl) ?_ | refine o_q _ rfl rfl rfl (v_pick_f rfl rfl rfl) ?_
                            refine o_q _ rfl rfl rfl (v_move rfl rfl) ?_
                            first | refine o_gn rfl rfl rfl rfl ?_ | refine o_g _ rfl rfl rfl rfl (v_fieldAddr rfl Tryd.underlying54 inf29 rfl rfl rfl rfl) ?_ | refine o_g _ rfl rfl rfl rfl (v_fieldAddrE rfl Tryd.underlying54 inf29 rfl rfl rfl rfl) ?_
                            first | refine o_gn rfl rfl rfl rfl ?_ | refine o_g _ rfl rfl rfl rfl (v_ldW rfl Tryd.underlying29 rfl inf29 rfl rfl) ?_ | refine o_g _ rfl rfl rfl rfl (v_lfW rfl Tryd.underlying29 rfl inf29 rfl rfl) ?_ | refine o_g _ rfl rfl rfl rfl (v_lfN rfl Tryd.underlying29 rfl inf29 rfl rfl rfl) ?_ | refine o_g _ rfl rfl rfl rfl (v_ldN rfl Tryd.underlying29 rfl inf29 rfl rfl rfl) ?_ | refine o_g _ rfl rfl rfl rfl (v_loadEN rfl Tryd.underlying29 rfl inf29 rfl (by omega) rfl rfl rfl) ?_
                            first | refine o_gn rfl rfl rfl rfl ?_ | refine o_g _ rfl rfl rfl rfl (v_true (OpQ.fn (rnum_v _ _) rfl rfl SubRC.sub) (by omega)) ?_ | refine o_g _ rfl rfl rfl rfl (v_false (OpQ.fn (rnum_v _ _) rfl rfl SubRC.sub) (by omega)) ?_ | refine o_gtest rfl rfl rfl rfl (OpQ.fn (rnum_v _ _) rfl rfl SubRC.sub) (fun h84 => ?_) (fun h84 => ?_)
                            all_goals
                              first | refine o_gn rfl rfl rfl rfl ?_ | refine o_g _ rfl rfl rfl rfl (v_not rfl rfl) ?_
                              first | refine o_q _ rfl rfl rfl (v_pick_t rfl rfl rfl) ?_ | refine o_q _ rfl rfl rfl (v_pick_f rfl rfl rfl) ?_
                              refine o_nil ?_
                              repeat (first | with_reducible refine r_then ?_ | with_reducible refine r_in_normal ?_ | with_reducible refine r_sc_normal ?_)
                              first | refine r_condd rfl (fun hc86 => ?_) (fun hc86 => ?_) | refine r_cond rfl (fun hc86 => ?_) (fun hc86 => ?_)
                              ·
                                first
                                | (exfalso; revert hc86; decide)
                                | (exfalso; omega)
                                | skip
                                  refine r_seq ?_
                                  refine r_region ?_
                                  refine o_q _ rfl rfl rfl (v_assign rfl rfl) ?_
                                  refine o_nil ?_
                                  repeat (first | with_reducible refine r_then ?_ | with_reducible refine r_in_normal ?_ | with_reducible refine r_sc_normal ?_)
                                  refine r_ret ?_
                                  repeat (first | with_reducible refine r_then_ret ?_ | with_reducible refine r_in_ret ?_ | with_reducible refine r_sc_ret ?_)
                                  first | exact r_retv2 (Rd.tmp rfl rfl) (congrArg Value.bool (decide_eq_true (⟨by omega, by omega, by omega, fun j hj => hI0.2 j (by omega), fun j hj => hI1.2 j (by omega)⟩ : GoodD D)).symm) SelMC.sel SubRC.sub | exact r_retv2 (Rd.tmp rfl rfl) (congrArg Value.bool (decide_eq_false (fun g : GoodD D => by have g1 := g.np; have g2 := g.nd; have g3 := g.ny; first | omega | (have g9 := g.dues k1 (by omega); unfold DueOk SodsOk at g9; omega) | (have g9 := g.paid k2 (by omega); unfold PaidOk SodsOk at g9; omega))).symm) SelMC.sel SubRC.sub
                              ·
                                first
                                | (exfalso; revert hc86; decide)
                                | (exfalso; omega)
                                | skip
                                  refine r_skip ?_
                                  repeat (first | with_reducible refine r_then ?_ | with_reducible refine r_in_normal ?_ | with_reducible refine r_sc_normal ?_)
                                  refine r_region ?_
                                  refine o_q _ rfl rfl rfl (v_move rfl rfl) ?_
                                  refine o_q _ rfl rfl rfl (v_add rfl rfl rfl (by omega)) ?_
                                  refine o_q _ rfl rfl rfl (v_assign rfl rfl) ?_
                                  refine o_nil ?_
                                  repeat (first | with_reducible refine r_then ?_ | with_reducible refine r_in_normal ?_ | with_reducible refine r_sc_normal ?_)
                                  refine r_next (k2 + 1) ?_ ?_ ?_
                                  ·
                                    exact r_here (by repeat (first | exact FSub.nil | refine FSub.cons rfl ?_)) SelMC.sel SubRC.sub
                                  ·
                                    exact ⟨by omega, all_step hI1.2 (by unfold PaidOk SodsOk; omega)⟩
                                  ·
                                    omega
                    ·
                      first
                      | (exfalso; revert hc62; decide)
                      | (exfalso; omega)
                      | skip
                        refine r_exit ?_
                        repeat (first | with_reducible refine r_then_exit ?_ | with_reducible refine r_sc_exit ?_ | with_reducible refine r_in_here ?_ | (with_reducible refine r_in_past (by decide) ?_) | with_reducible refine r_then ?_ | with_reducible refine r_in_normal ?_ | with_reducible refine r_sc_normal ?_)
                        refine r_seq ?_
                        refine r_region ?_
                        refine o_q _ rfl rfl rfl (v_assign rfl rfl) ?_
                        refine o_nil ?_
                        repeat (first | with_reducible refine r_then ?_ | with_reducible refine r_in_normal ?_ | with_reducible refine r_sc_normal ?_)
                        refine r_ret ?_
                        repeat (first | with_reducible refine r_then_ret ?_ | with_reducible refine r_in_ret ?_ | with_reducible refine r_sc_ret ?_)
                        first | exact r_retv2 (Rd.tmp rfl rfl) (congrArg Value.bool (decide_eq_true (⟨by omega, by omega, by omega, fun j hj => hI0.2 j (by omega), fun j hj => hI1.2 j (by omega)⟩ : GoodD D)).symm) SelMC.sel SubRC.sub | exact r_retv2 (Rd.tmp rfl rfl) (congrArg Value.bool (decide_eq_false (fun g : GoodD D => by have g1 := g.np; have g2 := g.nd; have g3 := g.ny; first | omega | (have g9 := g.dues k1 (by omega); unfold DueOk SodsOk at g9; omega) | (have g9 := g.paid k2 (by omega); unfold PaidOk SodsOk at g9; omega))).symm) SelMC.sel SubRC.sub
/-- There is far too much of something. -/
def farD (D : Debt) : Prop := 40 < max (D.dues.length : Int) D.paid.length
instance (D : Debt) : Decidable (farD D) := by unfold farD; infer_instance
set_option maxHeartbeats 4000000 in
theorem far_v  : FnV Tryd.prog 12 [valD D uo po uc pc] [] (.bool (decide (40 < max (D.dues.length : Int) D.paid.length))) := by
  refine FnV.intro Tryd.call12 Tryd.func12 rfl Tryd.ntmps12 rfl ?_
  intro W M Rf
  refine r_seq ?_
  refine r_region ?_
  refine o_boxA rfl rfl rfl rfl rfl (fun b1 => ?_)
  refine o_q _ rfl rfl rfl (v_assign rfl rfl) ?_
  refine o_nil ?_
  repeat (first | with_reducible refine r_then ?_ | with_reducible refine r_in_normal ?_ | with_reducible refine r_sc_normal ?_)
  refine r_seq ?_
  refine r_region ?_
  first | refine o_q _ rfl rfl rfl (v_fieldAddr rfl Tryd.underlying25 inf22 rfl rfl rfl rfl) ?_ | refine o_q _ rfl rfl rfl (v_fieldAddrE rfl Tryd.underlying25 inf22 rfl rfl rfl rfl) ?_
  first | refine o_q _ rfl rfl rfl (v_ld1 rfl Tryd.underlying22 rfl rfl rfl) ?_ | refine o_q _ rfl rfl rfl (v_lf1 rfl Tryd.underlying22 rfl rfl rfl) ?_ | refine o_q _ rfl rfl rfl (v_loadE1 rfl Tryd.underlying22 rfl rfl (by omega) rfl rfl) ?_
  refine o_q _ rfl rfl rfl (v_len rfl rfl Tryd.underlying22 rfl) ?_
  first | refine o_q _ rfl rfl rfl (v_fieldAddr rfl Tryd.underlying25 inf23 rfl rfl rfl rfl) ?_ | refine o_q _ rfl rfl rfl (v_fieldAddrE rfl Tryd.underlying25 inf23 rfl rfl rfl rfl) ?_
  first | refine o_q _ rfl rfl rfl (v_ld1 rfl Tryd.underlying23 rfl rfl rfl) ?_ | refine o_q _ rfl rfl rfl (v_lf1 rfl Tryd.underlying23 rfl rfl rfl) ?_ | refine o_q _ rfl rfl rfl (v_loadE1 rfl Tryd.underlying23 rfl rfl (by omega) rfl rfl) ?_
  refine o_q _ rfl rfl rfl (v_len rfl rfl Tryd.underlying23 rfl) ?_
  first | refine o_q _ rfl rfl rfl (v_max2 rfl rfl rfl) ?_ | refine o_q _ rfl rfl rfl (v_max3 rfl rfl rfl rfl) ?_
  refine o_q _ rfl rfl rfl (v_gtr rfl rfl rfl) ?_
  refine o_q _ rfl rfl rfl (v_assign rfl rfl) ?_
  refine o_nil ?_
  repeat (first | with_reducible refine r_then ?_ | with_reducible refine r_in_normal ?_ | with_reducible refine r_sc_normal ?_)
  refine r_ret ?_
  repeat (first | with_reducible refine r_then_ret ?_ | with_reducible refine r_in_ret ?_ | with_reducible refine r_sc_ret ?_)
  first | exact r_retv2 (Rd.tmp rfl rfl) rfl SelMC.sel SubRC.sub | exact r_retv2 (Rd.tmp rfl rfl) (congrArg Value.bool (decide_eq_true (by omega)).symm) SelMC.sel SubRC.sub | exact r_retv2 (Rd.tmp rfl rfl) (congrArg Value.bool (decide_eq_false (by omega)).symm) SelMC.sel SubRC.sub
set_option maxHeartbeats 4000000 in
theorem fine_v  : FnV Tryd.prog 30 [valD D uo po uc pc] [rowD uo 5 encD D.dues, rowD po 4 encP D.paid] (.bool (decide (¬ farD D ∧ GoodD D))) := by
  refine FnV.intro Tryd.call30 Tryd.func30 rfl Tryd.ntmps30 rfl ?_
  intro W M Rf
  refine r_seq ?_
  refine r_region ?_
  refine o_boxA rfl rfl rfl rfl rfl (fun b1 => ?_)
  refine o_q _ rfl rfl rfl (v_assign rfl rfl) ?_
  refine o_nil ?_
  repeat (first | with_reducible refine r_then ?_ | with_reducible refine r_in_normal ?_ | with_reducible refine r_sc_normal ?_)
  refine r_seq ?_
  refine r_region ?_
  first | refine o_q _ rfl rfl rfl (v_ldW rfl Tryd.underlying25 rfl inf25 rfl rfl) ?_ | refine o_q _ rfl rfl rfl (v_lfW rfl Tryd.underlying25 rfl inf25 rfl rfl) ?_ | refine o_q _ rfl rfl rfl (v_lfN rfl Tryd.underlying25 rfl inf25 rfl rfl rfl) ?_ | refine o_q _ rfl rfl rfl (v_ldN rfl Tryd.underlying25 rfl inf25 rfl rfl rfl) ?_ | refine o_q _ rfl rfl rfl (v_loadEN rfl Tryd.underlying25 rfl inf25 rfl (by omega) rfl rfl rfl) ?_
  first | refine o_q _ rfl rfl rfl (v_true (OpQ.fn (far_v D uo po uc pc) rfl rfl SubRC.sub) (by omega)) ?_ | refine o_q _ rfl rfl rfl (v_false (OpQ.fn (far_v D uo po uc pc) rfl rfl SubRC.sub) (by omega)) ?_ | refine o_test rfl rfl rfl (OpQ.fn (far_v D uo po uc pc) rfl rfl SubRC.sub) (fun h4 => ?_) (fun h4 => ?_)
  all_goals
    refine o_q _ rfl rfl rfl (v_not rfl rfl) ?_
    refine o_q _ rfl rfl rfl (v_move rfl rfl) ?_
    first | refine o_gn rfl rfl rfl rfl ?_ | refine o_g _ rfl rfl rfl rfl (v_ldW rfl Tryd.underlying25 rfl inf25 rfl rfl) ?_ | refine o_g _ rfl rfl rfl rfl (v_lfW rfl Tryd.underlying25 rfl inf25 rfl rfl) ?_ | refine o_g _ rfl rfl rfl rfl (v_lfN rfl Tryd.underlying25 rfl inf25 rfl rfl rfl) ?_ | refine o_g _ rfl rfl rfl rfl (v_ldN rfl Tryd.underlying25 rfl inf25 rfl rfl rfl) ?_ | refine o_g _ rfl rfl rfl rfl (v_loadEN rfl Tryd.underlying25 rfl inf25 rfl (by omega) rfl rfl rfl) ?_
    first | refine o_gn rfl rfl rfl rfl ?_ | refine o_g _ rfl rfl rfl rfl (v_true (OpQ.fn (Debt_v D uo po uc pc (by omega) (by omega)) rfl rfl SubRC.sub) (by omega)) ?_ | refine o_g _ rfl rfl rfl rfl (v_false (OpQ.fn (Debt_v D uo po uc pc (by omega) (by omega)) rfl rfl SubRC.sub) (by omega)) ?_ | refine o_gtest rfl rfl rfl rfl (OpQ.fn (Debt_v D uo po uc pc (by omega) (by omega)) rfl rfl SubRC.sub) (fun h8 => ?_) (fun h8 => ?_)
    all_goals
      first | refine o_q _ rfl rfl rfl (v_pick_t rfl rfl rfl) ?_ | refine o_q _ rfl rfl rfl (v_pick_f rfl rfl rfl) ?_
      refine o_q _ rfl rfl rfl (v_assign rfl rfl) ?_
      refine o_nil ?_
      repeat (first | with_reducible refine r_then ?_ | with_reducible refine r_in_normal ?_ | with_reducible refine r_sc_normal ?_)
      refine r_ret ?_
      repeat (first | with_reducible refine r_then_ret ?_ | with_reducible refine r_in_ret ?_ | with_reducible refine r_sc_ret ?_)
      first
      | exact r_retv2 (Rd.tmp rfl rfl) (congrArg Value.bool (decide_eq_true (by unfold farD; constructor <;> assumption)).symm) SelMC.sel SubRC.sub
      | exact r_retv2 (Rd.tmp rfl rfl) (congrArg Value.bool (decide_eq_false (by unfold farD; rintro ⟨g1, g2⟩; contradiction)).symm) SelMC.sel SubRC.sub
set_option maxHeartbeats 4000000 in
theorem lspan_v (lo hi : Int) : FnV Tryd.prog 38 [i64 lo, i64 hi] [] (.agg #[i64 lo, i64 hi]) := by
  refine FnV.intro Tryd.call38 Tryd.func38 rfl Tryd.ntmps38 rfl ?_
  intro W M Rf
  refine r_seq ?_
  refine r_region ?_
  refine o_alloc rfl inf29 rfl rfl rfl rfl rfl (fun b4 => ?_)
  refine o_nil ?_
  repeat (first | with_reducible refine r_then ?_ | with_reducible refine r_in_normal ?_ | with_reducible refine r_sc_normal ?_)
  refine r_seq ?_
  refine r_region ?_
  refine o_q _ rfl rfl rfl (v_move rfl rfl) ?_
  refine o_q _ rfl rfl rfl (v_move rfl rfl) ?_
  refine o_q _ rfl rfl rfl (v_bS rfl Tryd.underlying29 inf29 plt29 rfl rfl rfl (by repeat (first | exact trivial | refine ⟨rfl, ?_⟩)) (by rfl)) ?_
  refine o_st rfl inf29 rfl rfl rfl rfl rfl rfl rfl rfl ?_
  refine o_nil ?_
  repeat (first | with_reducible refine r_then ?_ | with_reducible refine r_in_normal ?_ | with_reducible refine r_sc_normal ?_)
  refine r_ret ?_
  repeat (first | with_reducible refine r_then_ret ?_ | with_reducible refine r_in_ret ?_ | with_reducible refine r_sc_ret ?_)
  exact r_retv2 (Rd.one rfl (RdI.cellW Tryd.underlying29 rfl inf29 rfl rfl)) rfl SelMC.sel SubRC.sub
end Go.Proofs.YtpfgiednfjfdmaaDoor


namespace Go.Proofs.YtpfgiednfjfdmaaDoor
open Go.G Debt10
set_option maxRecDepth 1000000
attribute [local irreducible] G.ParO G.Fin
def smpD : Debt := ⟨2, [⟨0, 2, ⟨10, 12⟩, 1⟩, ⟨0, 5, ⟨8, 8⟩, 0⟩, ⟨1, 0, ⟨20, 25⟩, 2⟩], [⟨0, 4, ⟨6, 8⟩⟩, ⟨1, 0, ⟨20, 20⟩⟩, ⟨0, 6, ⟨20, 20⟩⟩]⟩
theorem ex1 : leftB smpD 0 5 = (⟨13, 17⟩, 0) := by decide +kernel
theorem ex2 : aheadB smpD 0 6 = (⟨3, 7⟩, 0) := by decide +kernel
theorem ex3 : setlB smpD 1 0 = (1, 0) := by decide +kernel
theorem ex4 : openB smpD 1 0 = ((0, 4), 0) := by decide +kernel
theorem ex5 : sumB smpD 5 = (⟨13, 32⟩, 0) := by decide +kernel
theorem ex6 : needB smpD 0 4 = (7, 0) := by decide +kernel
theorem ex7 : mostB smpD 4 7 = ((1, 1), 0) := by decide +kernel
theorem ex7n : (setsT smpD (4 : Int).toNat 7).length ≤ 12 := by decide +kernel
theorem ex8 : checkB smpD = ((2, 2), 0) := by decide +kernel
theorem encD_len' (x : Due) : (encD x).length = 5 := rfl
theorem encP_len' (x : Paid) : (encP x).length = 4 := rfl
set_option maxHeartbeats 4000000 in
theorem sample_r  : FnR Tryd.prog 42 [] [] (fun v => ∃ uo po, v = valD smpD uo po 3 3) (fun v => [rowD (adrAt v 1) 5 encD smpD.dues, rowD (adrAt v 2) 4 encP smpD.paid]) := by
  refine FnR.intro Tryd.call42 Tryd.func42 rfl Tryd.ntmps42 rfl ?_
  intro W M Rf
  refine r_seq ?_
  refine r_region ?_
  refine o_alloc rfl inf25 rfl rfl rfl rfl rfl (fun b0 => ?_)
  refine o_nil ?_
  repeat (first | with_reducible refine r_then ?_ | with_reducible refine r_in_normal ?_ | with_reducible refine r_sc_normal ?_)
  refine r_seq ?_
  refine r_region ?_
  refine o_q _ rfl rfl rfl (OpQ.fn (lspan_v _ _) rfl rfl SubRC.sub) ?_
  refine o_q _ rfl rfl rfl (v_bS rfl Tryd.underlying62 inf62 plt62 rfl rfl rfl (by repeat (first | exact trivial | refine ⟨rfl, ?_⟩)) (by rfl)) ?_
  refine o_q _ rfl rfl rfl (OpQ.fn (lspan_v _ _) rfl rfl SubRC.sub) ?_
  refine o_q _ rfl rfl rfl (v_bSp (us := [i64 0, i64 5, i64 8, i64 8, i64 0]) rfl Tryd.underlying62 inf62 plt62 rfl rfl rfl (by repeat (first | exact trivial | refine ⟨rfl, ?_⟩)) (by show 4 ≤ 5; decide) rfl) ?_
  refine o_q _ rfl rfl rfl (OpQ.fn (lspan_v _ _) rfl rfl SubRC.sub) ?_
  refine o_q _ rfl rfl rfl (v_bS rfl Tryd.underlying62 inf62 plt62 rfl rfl rfl (by repeat (first | exact trivial | refine ⟨rfl, ?_⟩)) (by rfl)) ?_
  refine o_lit rfl Tryd.underlying22 inf62 rfl rfl rfl rfl rfl rfl rfl rfl (by repeat (first | exact trivial | refine ⟨rfl, ?_⟩)) (by rfl) (fun b7 => ?_)
  refine o_q _ rfl rfl rfl (OpQ.fn (lspan_v _ _) rfl rfl SubRC.sub) ?_
  refine o_q _ rfl rfl rfl (v_bS rfl Tryd.underlying54 inf54 plt54 rfl rfl rfl (by repeat (first | exact trivial | refine ⟨rfl, ?_⟩)) (by rfl)) ?_
  refine o_q _ rfl rfl rfl (OpQ.fn (lspan_v _ _) rfl rfl SubRC.sub) ?_
  refine o_q _ rfl rfl rfl (v_bS rfl Tryd.underlying54 inf54 plt54 rfl rfl rfl (by repeat (first | exact trivial | refine ⟨rfl, ?_⟩)) (by rfl)) ?_
  refine o_q _ rfl rfl rfl (OpQ.fn (lspan_v _ _) rfl rfl SubRC.sub) ?_
  refine o_q _ rfl rfl rfl (v_bS rfl Tryd.underlying54 inf54 plt54 rfl rfl rfl (by repeat (first | exact trivial | refine ⟨rfl, ?_⟩)) (by rfl)) ?_
  refine o_lit rfl Tryd.underlying23 inf54 rfl rfl rfl rfl rfl rfl rfl rfl (by repeat (first | exact trivial | refine ⟨rfl, ?_⟩)) (by rfl) (fun b14 => ?_)
  refine o_q _ rfl rfl rfl (v_bS rfl Tryd.underlying25 inf25 plt25 rfl rfl rfl (by repeat (first | exact trivial | refine ⟨rfl, ?_⟩)) (by rfl)) ?_
  refine o_st rfl inf25 rfl rfl rfl rfl rfl rfl rfl rfl ?_
  refine o_nil ?_
  repeat (first | with_reducible refine r_then ?_ | with_reducible refine r_in_normal ?_ | with_reducible refine r_sc_normal ?_)
  refine r_ret ?_
  repeat (first | with_reducible refine r_then_ret ?_ | with_reducible refine r_in_ret ?_ | with_reducible refine r_sc_ret ?_)
  refine Imp.box_to b0 (cellsD smpD (some ⟨b7, 0, none⟩) (some ⟨b14, 0, none⟩) 3 3) rfl ?_
  refine Imp.sealB b7 ?_
  refine Imp.rowN (b := b7) smpD.dues encD_len' rfl ?_
  refine Imp.sealB b14 ?_
  refine Imp.rowN (b := b14) smpD.paid encP_len' rfl ?_
  exact r_retr (Rd.one rfl (RdI.cellW Tryd.underlying25 rfl inf25 rfl rfl)) ⟨some ⟨b7, 0, none⟩, some ⟨b14, 0, none⟩, rfl⟩ SelMC.sel (by show SubR _ ([rowD (some ⟨b7, 0, none⟩) 5 encD smpD.dues, rowD (some ⟨b14, 0, none⟩) 4 encP smpD.paid] ++ _); exact SubRC.sub)
theorem o_sample {W : World} {n : Nat} {Df : List Deferred} {L : Tm} {M : List Res} {R : List Fact} {Q : Exit → Act → World → Prop} {o : Oper} {ops : Array Oper} {rest : List Oper} {ts : Array TypeId} {d : Nat}
    (ho : o.op = .call { callee := .value (.func 42), args := #[], argTypes := ts }) (hg : o.guard = none) (hdst : o.dst = some d) (hd : Nat.blt d n = true)
    (hret : ∀ uo po, Imp W n Df ((d, valD smpD uo po 3 3) :: L) M (rowD uo 5 encD smpD.dues :: rowD po 4 encP smpD.paid :: R) (wpList Tryd.prog ops Q rest)) : Imp W n Df L M R (wpList Tryd.prog ops Q (o :: rest)) :=
  o_fn sample_r (xs := []) ho rfl hg hdst hd SubR.nil (fun v ⟨uo, po, hv⟩ => by subst hv; exact hret uo po)
theorem smpL (uo po : Option Addr) : FnV Tryd.prog 14 [valD smpD uo po 3 3, i64 0, i64 5] [rowD uo 5 encD smpD.dues, rowD po 4 encP smpD.paid, rowD (some ⟨0, 0, none⟩) 1 encE ([0, 1] : List Nat)] (.tuple #[.agg #[i64 13, i64 17], i64 0]) := by
  have h := left14_v smpD uo po 3 3 0 5 (by decide) (by decide)
  rw [ex1] at h; exact h
theorem smpA (uo po : Option Addr) : FnV Tryd.prog 16 [valD smpD uo po 3 3, i64 0, i64 6] [rowD uo 5 encD smpD.dues, rowD po 4 encP smpD.paid, rowD (some ⟨0, 0, none⟩) 1 encE ([0, 1] : List Nat)] (.tuple #[.agg #[i64 3, i64 7], i64 0]) := by
  have h := ahead16_v smpD uo po 3 3 0 6 (by decide) (by decide)
  rw [ex2] at h; exact h
theorem smpS (uo po : Option Addr) : FnV Tryd.prog 18 [valD smpD uo po 3 3, i64 1, i64 0] [rowD uo 5 encD smpD.dues, rowD po 4 encP smpD.paid, rowD (some ⟨0, 0, none⟩) 1 encE ([0, 1] : List Nat)] (.tuple #[i64 1, i64 0]) := by
  have h := setl18_v smpD uo po 3 3 1 0 (by decide) (by decide)
  rw [ex3] at h; exact h
theorem smpO (uo po : Option Addr) : FnV Tryd.prog 20 [valD smpD uo po 3 3, i64 1, i64 0] [rowD uo 5 encD smpD.dues, rowD po 4 encP smpD.paid, rowD (some ⟨0, 0, none⟩) 1 encE ([0, 1] : List Nat)] (.tuple #[i64 (0 : Nat), i64 (4 : Nat), i64 0]) := by
  have h := open20_v smpD uo po 3 3 1 0 (by decide) (by decide)
  rw [ex4] at h; exact h
theorem smpU (uo po : Option Addr) : FnV Tryd.prog 24 [valD smpD uo po 3 3, i64 5] [rowD uo 5 encD smpD.dues, rowD po 4 encP smpD.paid, rowD (some ⟨0, 0, none⟩) 1 encE ([0, 1] : List Nat)] (.tuple #[.agg #[i64 13, i64 32], i64 0]) := by
  have h := sum24_v smpD uo po 3 3 5 (by decide) (by decide)
  rw [ex5] at h; exact h
theorem smpN (uo po : Option Addr) : FnV Tryd.prog 22 [valD smpD uo po 3 3, i64 0, i64 4] [rowD uo 5 encD smpD.dues, rowD po 4 encP smpD.paid, rowD (some ⟨0, 0, none⟩) 1 encE ([0, 1] : List Nat)] (.tuple #[i64 7, i64 0]) := by
  have h := need22_v smpD uo po 3 3 0 4 (by decide) (by decide)
  rw [ex6] at h; exact h
theorem smpM (uo po : Option Addr) : FnV Tryd.prog 26 [valD smpD uo po 3 3, i64 4, i64 7] [rowD uo 5 encD smpD.dues, rowD po 4 encP smpD.paid, rowD (some ⟨0, 0, none⟩) 1 encE ([0, 1] : List Nat)] (.tuple #[i64 1, i64 1, i64 0]) := by
  have h := most26_12 smpD uo po 3 3 4 7 (by decide) (by decide) ex7n
  rw [ex7] at h; exact h
theorem smpC (uo po : Option Addr) : FnV Tryd.prog 28 [valD smpD uo po 3 3] [rowD uo 5 encD smpD.dues, rowD po 4 encP smpD.paid, rowD (some ⟨0, 0, none⟩) 1 encE ([0, 1] : List Nat)] (.tuple #[i64 2, i64 2, i64 0]) := by
  have h := check28_v smpD uo po 3 3 (by decide) (by decide)
  rw [ex8] at h; exact h
set_option maxHeartbeats 4000000 in
theorem awake_v  : FnV Tryd.prog 13 [] [rowD (some ⟨0, 0, none⟩) 1 encE ([0, 1] : List Nat)] (.bool true) := by
  refine FnV.intro Tryd.call13 Tryd.func13 rfl Tryd.ntmps13 rfl ?_
  intro W M Rf
  refine r_seq ?_
  refine r_region ?_
  refine o_q _ rfl rfl rfl (v_assign rfl rfl) ?_
  refine o_nil ?_
  repeat (first | with_reducible refine r_then ?_ | with_reducible refine r_in_normal ?_ | with_reducible refine r_sc_normal ?_)
  refine r_seq ?_
  refine r_region ?_
  refine o_sample rfl rfl rfl rfl (fun uo po => ?_)
  refine o_alloc rfl inf25 rfl rfl rfl rfl rfl (fun b1 => ?_)
  refine o_st rfl inf25 rfl rfl rfl rfl rfl rfl rfl rfl ?_
  refine o_nil ?_
  repeat (first | with_reducible refine r_then ?_ | with_reducible refine r_in_normal ?_ | with_reducible refine r_sc_normal ?_)
  refine r_seq ?_
  refine r_region ?_
  first | refine o_q _ rfl rfl rfl (v_ldW rfl Tryd.underlying25 rfl inf25 rfl rfl) ?_ | refine o_q _ rfl rfl rfl (v_lfW rfl Tryd.underlying25 rfl inf25 rfl rfl) ?_ | refine o_q _ rfl rfl rfl (v_lfN rfl Tryd.underlying25 rfl inf25 rfl rfl rfl) ?_ | refine o_q _ rfl rfl rfl (v_ldN rfl Tryd.underlying25 rfl inf25 rfl rfl rfl) ?_ | refine o_q _ rfl rfl rfl (v_loadEN rfl Tryd.underlying25 rfl inf25 rfl (by omega) rfl rfl rfl) ?_
  refine o_q _ rfl rfl rfl (OpQ.fn (smpL uo po) rfl rfl SubRC.sub) ?_
  refine o_q _ rfl rfl rfl (v_move rfl rfl) ?_
  refine o_q _ rfl rfl rfl (v_extract rfl rfl rfl) ?_
  refine o_q _ rfl rfl rfl (v_extract rfl rfl rfl) ?_
  refine o_alloc rfl inf29 rfl rfl rfl rfl rfl (fun b2 => ?_)
  refine o_st rfl inf29 rfl rfl rfl rfl rfl rfl rfl rfl ?_
  refine o_q _ rfl rfl rfl (v_assign rfl rfl) ?_
  refine o_nil ?_
  repeat (first | with_reducible refine r_then ?_ | with_reducible refine r_in_normal ?_ | with_reducible refine r_sc_normal ?_)
  refine r_seq ?_
  refine r_region ?_
  first | refine o_q _ rfl rfl rfl (v_ldW rfl Tryd.underlying25 rfl inf25 rfl rfl) ?_ | refine o_q _ rfl rfl rfl (v_lfW rfl Tryd.underlying25 rfl inf25 rfl rfl) ?_ | refine o_q _ rfl rfl rfl (v_lfN rfl Tryd.underlying25 rfl inf25 rfl rfl rfl) ?_ | refine o_q _ rfl rfl rfl (v_ldN rfl Tryd.underlying25 rfl inf25 rfl rfl rfl) ?_ | refine o_q _ rfl rfl rfl (v_loadEN rfl Tryd.underlying25 rfl inf25 rfl (by omega) rfl rfl rfl) ?_
  refine o_q _ rfl rfl rfl (OpQ.fn (smpA uo po) rfl rfl SubRC.sub) ?_
  refine o_q _ rfl rfl rfl (v_move rfl rfl) ?_
  refine o_q _ rfl rfl rfl (v_extract rfl rfl rfl) ?_
  refine o_q _ rfl rfl rfl (v_extract rfl rfl rfl) ?_
  refine o_alloc rfl inf29 rfl rfl rfl rfl rfl (fun b4 => ?_)
  refine o_st rfl inf29 rfl rfl rfl rfl rfl rfl rfl rfl ?_
  refine o_q _ rfl rfl rfl (v_assign rfl rfl) ?_
  refine o_nil ?_
  repeat (first | with_reducible refine r_then ?_ | with_reducible refine r_in_normal ?_ | with_reducible refine r_sc_normal ?_)
  refine r_seq ?_
  refine r_region ?_
  first | refine o_q _ rfl rfl rfl (v_ldW rfl Tryd.underlying25 rfl inf25 rfl rfl) ?_ | refine o_q _ rfl rfl rfl (v_lfW rfl Tryd.underlying25 rfl inf25 rfl rfl) ?_ | refine o_q _ rfl rfl rfl (v_lfN rfl Tryd.underlying25 rfl inf25 rfl rfl rfl) ?_ | refine o_q _ rfl rfl rfl (v_ldN rfl Tryd.underlying25 rfl inf25 rfl rfl rfl) ?_ | refine o_q _ rfl rfl rfl (v_loadEN rfl Tryd.underlying25 rfl inf25 rfl (by omega) rfl rfl rfl) ?_
  refine o_q _ rfl rfl rfl (OpQ.fn (smpS uo po) rfl rfl SubRC.sub) ?_
  refine o_q _ rfl rfl rfl (v_move rfl rfl) ?_
  refine o_q _ rfl rfl rfl (v_extract rfl rfl rfl) ?_
  refine o_q _ rfl rfl rfl (v_extract rfl rfl rfl) ?_
  refine o_q _ rfl rfl rfl (v_assign rfl rfl) ?_
  refine o_q _ rfl rfl rfl (v_assign rfl rfl) ?_
  refine o_nil ?_
  repeat (first | with_reducible refine r_then ?_ | with_reducible refine r_in_normal ?_ | with_reducible refine r_sc_normal ?_)
  refine r_seq ?_
  refine r_region ?_
  first | refine o_q _ rfl rfl rfl (v_ldW rfl Tryd.underlying25 rfl inf25 rfl rfl) ?_ | refine o_q _ rfl rfl rfl (v_lfW rfl Tryd.underlying25 rfl inf25 rfl rfl) ?_ | refine o_q _ rfl rfl rfl (v_lfN rfl Tryd.underlying25 rfl inf25 rfl rfl rfl) ?_ | refine o_q _ rfl rfl rfl (v_ldN rfl Tryd.underlying25 rfl inf25 rfl rfl rfl) ?_ | refine o_q _ rfl rfl rfl (v_loadEN rfl Tryd.underlying25 rfl inf25 rfl (by omega) rfl rfl rfl) ?_
  refine o_q _ rfl rfl rfl (OpQ.fn (smpO uo po) rfl rfl SubRC.sub) ?_
  refine o_q _ rfl rfl rfl (v_move rfl rfl) ?_
  refine o_q _ rfl rfl rfl (v_extract rfl rfl rfl) ?_
  refine o_q _ rfl rfl rfl (v_extract rfl rfl rfl) ?_
  refine o_q _ rfl rfl rfl (v_extract rfl rfl rfl) ?_
  refine o_q _ rfl rfl rfl (v_assign rfl rfl) ?_
  refine o_q _ rfl rfl rfl (v_assign rfl rfl) ?_
  refine o_q _ rfl rfl rfl (v_assign rfl rfl) ?_
  refine o_nil ?_
  repeat (first | with_reducible refine r_then ?_ | with_reducible refine r_in_normal ?_ | with_reducible refine r_sc_normal ?_)
  refine r_seq ?_
  refine r_region ?_
  first | refine o_q _ rfl rfl rfl (v_ldW rfl Tryd.underlying25 rfl inf25 rfl rfl) ?_ | refine o_q _ rfl rfl rfl (v_lfW rfl Tryd.underlying25 rfl inf25 rfl rfl) ?_ | refine o_q _ rfl rfl rfl (v_lfN rfl Tryd.underlying25 rfl inf25 rfl rfl rfl) ?_ | refine o_q _ rfl rfl rfl (v_ldN rfl Tryd.underlying25 rfl inf25 rfl rfl rfl) ?_ | refine o_q _ rfl rfl rfl (v_loadEN rfl Tryd.underlying25 rfl inf25 rfl (by omega) rfl rfl rfl) ?_
  refine o_q _ rfl rfl rfl (OpQ.fn (smpU uo po) rfl rfl SubRC.sub) ?_
  refine o_q _ rfl rfl rfl (v_move rfl rfl) ?_
  refine o_q _ rfl rfl rfl (v_extract rfl rfl rfl) ?_
  refine o_q _ rfl rfl rfl (v_extract rfl rfl rfl) ?_
  refine o_alloc rfl inf29 rfl rfl rfl rfl rfl (fun b11 => ?_)
  refine o_st rfl inf29 rfl rfl rfl rfl rfl rfl rfl rfl ?_
  refine o_q _ rfl rfl rfl (v_assign rfl rfl) ?_
  refine o_nil ?_
  repeat (first | with_reducible refine r_then ?_ | with_reducible refine r_in_normal ?_ | with_reducible refine r_sc_normal ?_)
  refine r_seq ?_
  refine r_region ?_
  first | refine o_q _ rfl rfl rfl (v_ldW rfl Tryd.underlying25 rfl inf25 rfl rfl) ?_ | refine o_q _ rfl rfl rfl (v_lfW rfl Tryd.underlying25 rfl inf25 rfl rfl) ?_ | refine o_q _ rfl rfl rfl (v_lfN rfl Tryd.underlying25 rfl inf25 rfl rfl rfl) ?_ | refine o_q _ rfl rfl rfl (v_ldN rfl Tryd.underlying25 rfl inf25 rfl rfl rfl) ?_ | refine o_q _ rfl rfl rfl (v_loadEN rfl Tryd.underlying25 rfl inf25 rfl (by omega) rfl rfl rfl) ?_
  refine o_q _ rfl rfl rfl (OpQ.fn (smpN uo po) rfl rfl SubRC.sub) ?_
  refine o_q _ rfl rfl rfl (v_move rfl rfl) ?_
  refine o_q _ rfl rfl rfl (v_extract rfl rfl rfl) ?_
  refine o_q _ rfl rfl rfl (v_extract rfl rfl rfl) ?_
  refine o_q _ rfl rfl rfl (v_assign rfl rfl) ?_
  refine o_q _ rfl rfl rfl (v_assign rfl rfl) ?_
  refine o_nil ?_
  repeat (first | with_reducible refine r_then ?_ | with_reducible refine r_in_normal ?_ | with_reducible refine r_sc_normal ?_)
  refine r_seq ?_
  refine r_region ?_
  first | refine o_q _ rfl rfl rfl (v_ldW rfl Tryd.underlying25 rfl inf25 rfl rfl) ?_ | refine o_q _ rfl rfl rfl (v_lfW rfl Tryd.underlying25 rfl inf25 rfl rfl) ?_ | refine o_q _ rfl rfl rfl (v_lfN rfl Tryd.underlying25 rfl inf25 rfl rfl rfl) ?_ | refine o_q _ rfl rfl rfl (v_ldN rfl Tryd.underlying25 rfl inf25 rfl rfl rfl) ?_ | refine o_q _ rfl rfl rfl (v_loadEN rfl Tryd.underlying25 rfl inf25 rfl (by omega) rfl rfl rfl) ?_
  refine o_q _ rfl rfl rfl (OpQ.fn (smpM uo po) rfl rfl SubRC.sub) ?_
  refine o_q _ rfl rfl rfl (v_move rfl rfl) ?_
  refine o_q _ rfl rfl rfl (v_extract rfl rfl rfl) ?_
  refine o_q _ rfl rfl rfl (v_extract rfl rfl rfl) ?_
  refine o_q _ rfl rfl rfl (v_extract rfl rfl rfl) ?_
  refine o_q _ rfl rfl rfl (v_assign rfl rfl) ?_
  refine o_q _ rfl rfl rfl (v_assign rfl rfl) ?_
  refine o_q _ rfl rfl rfl (v_assign rfl rfl) ?_
  refine o_nil ?_
  repeat (first | with_reducible refine r_then ?_ | with_reducible refine r_in_normal ?_ | with_reducible refine r_sc_normal ?_)
  refine r_seq ?_
  refine r_region ?_
  first | refine o_q _ rfl rfl rfl (v_ldW rfl Tryd.underlying25 rfl inf25 rfl rfl) ?_ | refine o_q _ rfl rfl rfl (v_lfW rfl Tryd.underlying25 rfl inf25 rfl rfl) ?_ | refine o_q _ rfl rfl rfl (v_lfN rfl Tryd.underlying25 rfl inf25 rfl rfl rfl) ?_ | refine o_q _ rfl rfl rfl (v_ldN rfl Tryd.underlying25 rfl inf25 rfl rfl rfl) ?_ | refine o_q _ rfl rfl rfl (v_loadEN rfl Tryd.underlying25 rfl inf25 rfl (by omega) rfl rfl rfl) ?_
  refine o_q _ rfl rfl rfl (OpQ.fn (smpC uo po) rfl rfl SubRC.sub) ?_
  refine o_q _ rfl rfl rfl (v_move rfl rfl) ?_
  refine o_q _ rfl rfl rfl (v_extract rfl rfl rfl) ?_
  refine o_q _ rfl rfl rfl (v_extract rfl rfl rfl) ?_
  refine o_q _ rfl rfl rfl (v_extract rfl rfl rfl) ?_
  refine o_q _ rfl rfl rfl (v_assign rfl rfl) ?_
  refine o_q _ rfl rfl rfl (v_assign rfl rfl) ?_
  refine o_q _ rfl rfl rfl (v_assign rfl rfl) ?_
  refine o_nil ?_
  repeat (first | with_reducible refine r_then ?_ | with_reducible refine r_in_normal ?_ | with_reducible refine r_sc_normal ?_)
  refine r_seq ?_
  refine r_seq ?_
  refine r_region_q mixed (by kernel_rfl) ?_
  first | refine q_q _ rfl rfl rfl (v_ldW rfl Tryd.underlying29 rfl inf29 rfl rfl) ?_ | refine q_q _ rfl rfl rfl (v_lfW rfl Tryd.underlying29 rfl inf29 rfl rfl) ?_ | refine q_q _ rfl rfl rfl (v_lfN rfl Tryd.underlying29 rfl inf29 rfl rfl rfl) ?_ | refine q_q _ rfl rfl rfl (v_ldN rfl Tryd.underlying29 rfl inf29 rfl rfl rfl) ?_ | refine q_q _ rfl rfl rfl (v_loadEN rfl Tryd.underlying29 rfl inf29 rfl (by omega) rfl rfl rfl) ?_
  refine q_q _ rfl rfl rfl (OpQ.fn (lspan_v _ _) rfl rfl SubRC.sub) ?_
  refine q_q _ rfl rfl rfl (v_cast (v := .bool false) (v_neP rfl rfl rfl guard29 (eq29 _ _ _ _)) rfl) ?_
  refine q_q _ rfl rfl rfl (v_move rfl rfl) ?_
  first | refine q_gn rfl rfl rfl rfl ?_ | refine q_g _ rfl rfl rfl rfl (v_move rfl rfl) ?_
  first | refine q_gn rfl rfl rfl rfl ?_ | refine q_g _ rfl rfl rfl rfl (v_true (v_neq rfl rfl rfl) (by omega)) ?_ | refine q_g _ rfl rfl rfl rfl (v_false (v_neq rfl rfl rfl) (by omega)) ?_ | refine q_gtest rfl rfl rfl rfl (v_neq rfl rfl rfl) (fun h70 => ?_) (fun h70 => ?_)
  all_goals
    first | refine q_q _ rfl rfl rfl (v_pick_t rfl rfl rfl) ?_ | refine q_q _ rfl rfl rfl (v_pick_f rfl rfl rfl) ?_
    refine q_q _ rfl rfl rfl (v_move rfl rfl) ?_
    first | refine q_gn rfl rfl rfl rfl ?_ | refine q_g _ rfl rfl rfl rfl (v_ldW rfl Tryd.underlying29 rfl inf29 rfl rfl) ?_ | refine q_g _ rfl rfl rfl rfl (v_lfW rfl Tryd.underlying29 rfl inf29 rfl rfl) ?_ | refine q_g _ rfl rfl rfl rfl (v_lfN rfl Tryd.underlying29 rfl inf29 rfl rfl rfl) ?_ | refine q_g _ rfl rfl rfl rfl (v_ldN rfl Tryd.underlying29 rfl inf29 rfl rfl rfl) ?_ | refine q_g _ rfl rfl rfl rfl (v_loadEN rfl Tryd.underlying29 rfl inf29 rfl (by omega) rfl rfl rfl) ?_
    first | refine q_gn rfl rfl rfl rfl ?_ | refine q_g _ rfl rfl rfl rfl (OpQ.fn (lspan_v _ _) rfl rfl SubRC.sub) ?_
    first | refine q_gn rfl rfl rfl rfl ?_ | refine q_g _ rfl rfl rfl rfl (v_cast (v := .bool false) (v_neP rfl rfl rfl guard29 (eq29 _ _ _ _)) rfl) ?_
    first | refine q_q _ rfl rfl rfl (v_pick_t rfl rfl rfl) ?_ | refine q_q _ rfl rfl rfl (v_pick_f rfl rfl rfl) ?_
    refine q_q _ rfl rfl rfl (v_move rfl rfl) ?_
    first | refine q_gn rfl rfl rfl rfl ?_ | refine q_g _ rfl rfl rfl rfl (v_move rfl rfl) ?_
    first | refine q_gn rfl rfl rfl rfl ?_ | refine q_g _ rfl rfl rfl rfl (v_true (v_neq rfl rfl rfl) (by omega)) ?_ | refine q_g _ rfl rfl rfl rfl (v_false (v_neq rfl rfl rfl) (by omega)) ?_ | refine q_gtest rfl rfl rfl rfl (v_neq rfl rfl rfl) (fun h79 => ?_) (fun h79 => ?_)
    all_goals
      first | refine q_q _ rfl rfl rfl (v_pick_t rfl rfl rfl) ?_ | refine q_q _ rfl rfl rfl (v_pick_f rfl rfl rfl) ?_
      refine q_q _ rfl rfl rfl (v_move rfl rfl) ?_
      first | refine q_gn rfl rfl rfl rfl ?_ | refine q_g _ rfl rfl rfl rfl (v_move rfl rfl) ?_
      first | refine q_gn rfl rfl rfl rfl ?_ | refine q_g _ rfl rfl rfl rfl (v_true (v_neq rfl rfl rfl) (by omega)) ?_ | refine q_g _ rfl rfl rfl rfl (v_false (v_neq rfl rfl rfl) (by omega)) ?_ | refine q_gtest rfl rfl rfl rfl (v_neq rfl rfl rfl) (fun h83 => ?_) (fun h83 => ?_)
      all_goals
        first | refine q_q _ rfl rfl rfl (v_pick_t rfl rfl rfl) ?_ | refine q_q _ rfl rfl rfl (v_pick_f rfl rfl rfl) ?_
        refine q_q _ rfl rfl rfl (v_move rfl rfl) ?_
        first | refine q_gn rfl rfl rfl rfl ?_ | refine q_g _ rfl rfl rfl rfl (v_move rfl rfl) ?_
        first | refine q_gn rfl rfl rfl rfl ?_ | refine q_g _ rfl rfl rfl rfl (v_true (v_neq rfl rfl rfl) (by omega)) ?_ | refine q_g _ rfl rfl rfl rfl (v_false (v_neq rfl rfl rfl) (by omega)) ?_ | refine q_gtest rfl rfl rfl rfl (v_neq rfl rfl rfl) (fun h87 => ?_) (fun h87 => ?_)
        all_goals
          first | refine q_q _ rfl rfl rfl (v_pick_t rfl rfl rfl) ?_ | refine q_q _ rfl rfl rfl (v_pick_f rfl rfl rfl) ?_
          refine q_q _ rfl rfl rfl (v_move rfl rfl) ?_
          first | refine q_gn rfl rfl rfl rfl ?_ | refine q_g _ rfl rfl rfl rfl (v_move rfl rfl) ?_
          first | refine q_gn rfl rfl rfl rfl ?_ | refine q_g _ rfl rfl rfl rfl (v_true (v_neq rfl rfl rfl) (by omega)) ?_ | refine q_g _ rfl rfl rfl rfl (v_false (v_neq rfl rfl rfl) (by omega)) ?_ | refine q_gtest rfl rfl rfl rfl (v_neq rfl rfl rfl) (fun h91 => ?_) (fun h91 => ?_)
          all_goals
            first | refine q_q _ rfl rfl rfl (v_pick_t rfl rfl rfl) ?_ | refine q_q _ rfl rfl rfl (v_pick_f rfl rfl rfl) ?_
            refine q_q _ rfl rfl rfl (v_move rfl rfl) ?_
            first | refine q_gn rfl rfl rfl rfl ?_ | refine q_g _ rfl rfl rfl rfl (v_move rfl rfl) ?_
            first | refine q_gn rfl rfl rfl rfl ?_ | refine q_g _ rfl rfl rfl rfl (v_true (v_neq rfl rfl rfl) (by omega)) ?_ | refine q_g _ rfl rfl rfl rfl (v_false (v_neq rfl rfl rfl) (by omega)) ?_ | refine q_gtest rfl rfl rfl rfl (v_neq rfl rfl rfl) (fun h95 => ?_) (fun h95 => ?_)
            all_goals
              first | refine q_q _ rfl rfl rfl (v_pick_t rfl rfl rfl) ?_ | refine q_q _ rfl rfl rfl (v_pick_f rfl rfl rfl) ?_
              refine q_q _ rfl rfl rfl (v_move rfl rfl) ?_
              first | refine q_gn rfl rfl rfl rfl ?_ | refine q_g _ rfl rfl rfl rfl (v_move rfl rfl) ?_
              first | refine q_gn rfl rfl rfl rfl ?_ | refine q_g _ rfl rfl rfl rfl (v_true (v_neq rfl rfl rfl) (by omega)) ?_ | refine q_g _ rfl rfl rfl rfl (v_false (v_neq rfl rfl rfl) (by omega)) ?_ | refine q_gtest rfl rfl rfl rfl (v_neq rfl rfl rfl) (fun h99 => ?_) (fun h99 => ?_)
              all_goals
                first | refine q_q _ rfl rfl rfl (v_pick_t rfl rfl rfl) ?_ | refine q_q _ rfl rfl rfl (v_pick_f rfl rfl rfl) ?_
                refine q_q _ rfl rfl rfl (v_move rfl rfl) ?_
                first | refine q_gn rfl rfl rfl rfl ?_ | refine q_g _ rfl rfl rfl rfl (v_ldW rfl Tryd.underlying29 rfl inf29 rfl rfl) ?_ | refine q_g _ rfl rfl rfl rfl (v_lfW rfl Tryd.underlying29 rfl inf29 rfl rfl) ?_ | refine q_g _ rfl rfl rfl rfl (v_lfN rfl Tryd.underlying29 rfl inf29 rfl rfl rfl) ?_ | refine q_g _ rfl rfl rfl rfl (v_ldN rfl Tryd.underlying29 rfl inf29 rfl rfl rfl) ?_ | refine q_g _ rfl rfl rfl rfl (v_loadEN rfl Tryd.underlying29 rfl inf29 rfl (by omega) rfl rfl rfl) ?_
                first | refine q_gn rfl rfl rfl rfl ?_ | refine q_g _ rfl rfl rfl rfl (OpQ.fn (lspan_v _ _) rfl rfl SubRC.sub) ?_
                first | refine q_gn rfl rfl rfl rfl ?_ | refine q_g _ rfl rfl rfl rfl (v_cast (v := .bool false) (v_neP rfl rfl rfl guard29 (eq29 _ _ _ _)) rfl) ?_
                first | refine q_q _ rfl rfl rfl (v_pick_t rfl rfl rfl) ?_ | refine q_q _ rfl rfl rfl (v_pick_f rfl rfl rfl) ?_
                refine q_q _ rfl rfl rfl (v_move rfl rfl) ?_
                first | refine q_gn rfl rfl rfl rfl ?_ | refine q_g _ rfl rfl rfl rfl (v_move rfl rfl) ?_
                first | refine q_gn rfl rfl rfl rfl ?_ | refine q_g _ rfl rfl rfl rfl (v_true (v_neq rfl rfl rfl) (by omega)) ?_ | refine q_g _ rfl rfl rfl rfl (v_false (v_neq rfl rfl rfl) (by omega)) ?_ | refine q_gtest rfl rfl rfl rfl (v_neq rfl rfl rfl) (fun h108 => ?_) (fun h108 => ?_)
                all_goals
                  first | refine q_q _ rfl rfl rfl (v_pick_t rfl rfl rfl) ?_ | refine q_q _ rfl rfl rfl (v_pick_f rfl rfl rfl) ?_
                  refine q_nil ?_
                  repeat (first | with_reducible refine r_then ?_ | with_reducible refine r_in_normal ?_ | with_reducible refine r_sc_normal ?_)
                  first | refine r_condd rfl (fun hc109 => ?_) (fun hc109 => ?_) | refine r_cond rfl (fun hc109 => ?_) (fun hc109 => ?_)
                  ·
                    first
                    | (exfalso; revert hc109; decide)
                    | (exfalso; omega)
                    | skip
                      refine r_seq ?_
                      refine r_region ?_
                      refine o_q _ rfl rfl rfl (v_assign rfl rfl) ?_
                      refine o_nil ?_
                      repeat (first | with_reducible refine r_then ?_ | with_reducible refine r_in_normal ?_ | with_reducible refine r_sc_normal ?_)
                      refine r_ret ?_
                      repeat (first | with_reducible refine r_then_ret ?_ | with_reducible refine r_in_ret ?_ | with_reducible refine r_sc_ret ?_)
                      exact r_retv2 (Rd.tmp rfl rfl) rfl SelMC.sel SubRC.sub
                  ·
                    first
                    | (exfalso; revert hc109; decide)
                    | (exfalso; omega)
                    | skip
                      refine r_skip ?_
                      repeat (first | with_reducible refine r_then ?_ | with_reducible refine r_in_normal ?_ | with_reducible refine r_sc_normal ?_)
                      refine r_seq ?_
                      refine r_region ?_
                      refine o_q _ rfl rfl rfl (v_move rfl rfl) ?_
                      first | refine o_q _ rfl rfl rfl (v_true (v_eql rfl rfl rfl) (by omega)) ?_ | refine o_q _ rfl rfl rfl (v_false (v_eql rfl rfl rfl) (by omega)) ?_ | refine o_test rfl rfl rfl (v_eql rfl rfl rfl) (fun h111 => ?_) (fun h111 => ?_)
                      all_goals
                        refine o_q _ rfl rfl rfl (v_move rfl rfl) ?_
                        first | refine o_gn rfl rfl rfl rfl ?_ | refine o_g _ rfl rfl rfl rfl (v_move rfl rfl) ?_
                        first | refine o_gn rfl rfl rfl rfl ?_ | refine o_g _ rfl rfl rfl rfl (v_true (v_eql rfl rfl rfl) (by omega)) ?_ | refine o_g _ rfl rfl rfl rfl (v_false (v_eql rfl rfl rfl) (by omega)) ?_ | refine o_gtest rfl rfl rfl rfl (v_eql rfl rfl rfl) (fun h114 => ?_) (fun h114 => ?_)
                        all_goals
                          first | refine o_q _ rfl rfl rfl (v_pick_t rfl rfl rfl) ?_ | refine o_q _ rfl rfl rfl (v_pick_f rfl rfl rfl) ?_
                          refine o_q _ rfl rfl rfl (v_move rfl rfl) ?_
                          first | refine o_gn rfl rfl rfl rfl ?_ | refine o_g _ rfl rfl rfl rfl (v_move rfl rfl) ?_
                          first | refine o_gn rfl rfl rfl rfl ?_ | refine o_g _ rfl rfl rfl rfl (v_true (v_eql rfl rfl rfl) (by omega)) ?_ | refine o_g _ rfl rfl rfl rfl (v_false (v_eql rfl rfl rfl) (by omega)) ?_ | refine o_gtest rfl rfl rfl rfl (v_eql rfl rfl rfl) (fun h118 => ?_) (fun h118 => ?_)
                          all_goals
                            first | refine o_q _ rfl rfl rfl (v_pick_t rfl rfl rfl) ?_ | refine o_q _ rfl rfl rfl (v_pick_f rfl rfl rfl) ?_
                            refine o_q _ rfl rfl rfl (v_move rfl rfl) ?_
                            first | refine o_gn rfl rfl rfl rfl ?_ | refine o_g _ rfl rfl rfl rfl (v_move rfl rfl) ?_
                            first | refine o_gn rfl rfl rfl rfl ?_ | refine o_g _ rfl rfl rfl rfl (v_true (v_eql rfl rfl rfl) (by omega)) ?_ | refine o_g _ rfl rfl rfl rfl (v_false (v_eql rfl rfl rfl) (by omega)) ?_ | refine o_gtest rfl rfl rfl rfl (v_eql rfl rfl rfl) (fun h122 => ?_) (fun h122 => ?_)
                            all_goals
                              first | refine o_q _ rfl rfl rfl (v_pick_t rfl rfl rfl) ?_ | refine o_q _ rfl rfl rfl (v_pick_f rfl rfl rfl) ?_
                              refine o_q _ rfl rfl rfl (v_move rfl rfl) ?_
                              first | refine o_gn rfl rfl rfl rfl ?_ | refine o_g _ rfl rfl rfl rfl (v_move rfl rfl) ?_
                              first | refine o_gn rfl rfl rfl rfl ?_ | refine o_g _ rfl rfl rfl rfl (v_true (v_eql rfl rfl rfl) (by omega)) ?_ | refine o_g _ rfl rfl rfl rfl (v_false (v_eql rfl rfl rfl) (by omega)) ?_ | refine o_gtest rfl rfl rfl rfl (v_eql rfl rfl rfl) (fun h126 => ?_) (fun h126 => ?_)
                              all_goals
                                first | refine o_q _ rfl rfl rfl (v_pick_t rfl rfl rfl) ?_ | refine o_q _ rfl rfl rfl (v_pick_f rfl rfl rfl) ?_
                                refine o_q _ rfl rfl rfl (v_move rfl rfl) ?_
                                first | refine o_gn rfl rfl rfl rfl ?_ | refine o_g _ rfl rfl rfl rfl (v_move rfl rfl) ?_
                                first | refine o_gn rfl rfl rfl rfl ?_ | refine o_g _ rfl rfl rfl rfl (v_true (v_eql rfl rfl rfl) (by omega)) ?_ | refine o_g _ rfl rfl rfl rfl (v_false (v_eql rfl rfl rfl) (by omega)) ?_ | refine o_gtest rfl rfl rfl rfl (v_eql rfl rfl rfl) (fun h130 => ?_) (fun h130 => ?_)
                                all_goals
                                  first | refine o_q _ rfl rfl rfl (v_pick_t rfl rfl rfl) ?_ | refine o_q _ rfl rfl rfl (v_pick_f rfl rfl rfl) ?_
                                  refine o_q _ rfl rfl rfl (v_move rfl rfl) ?_
                                  first | refine o_gn rfl rfl rfl rfl ?_ | refine o_g _ rfl rfl rfl rfl (v_move rfl rfl) ?_
                                  first | refine o_gn rfl rfl rfl rfl ?_ | refine o_g _ rfl rfl rfl rfl (v_true (v_eql rfl rfl rfl) (by omega)) ?_ | refine o_g _ rfl rfl rfl rfl (v_false (v_eql rfl rfl rfl) (by omega)) ?_ | refine o_gtest rfl rfl rfl rfl (v_eql rfl rfl rfl) (fun h134 => ?_) (fun h134 => ?_)
                                  all_goals
                                    first | refine o_q _ rfl rfl rfl (v_pick_t rfl rfl rfl) ?_ | refine o_q _ rfl rfl rfl (v_pick_f rfl rfl rfl) ?_
                                    refine o_q _ rfl rfl rfl (v_move rfl rfl) ?_
                                    first | refine o_gn rfl rfl rfl rfl ?_ | refine o_g _ rfl rfl rfl rfl (v_move rfl rfl) ?_
                                    first | refine o_gn rfl rfl rfl rfl ?_ | refine o_g _ rfl rfl rfl rfl (v_true (v_eql rfl rfl rfl) (by omega)) ?_ | refine o_g _ rfl rfl rfl rfl (v_false (v_eql rfl rfl rfl) (by omega)) ?_ | refine o_gtest rfl rfl rfl rfl (v_eql rfl rfl rfl) (fun h138 => ?_) (fun h138 => ?_)
                                    all_goals
                                      first | refine o_q _ rfl rfl rfl (v_pick_t rfl rfl rfl) ?_ | refine o_q _ rfl rfl rfl (v_pick_f rfl rfl rfl) ?_
                                      refine o_q _ rfl rfl rfl (v_assign rfl rfl) ?_
                                      refine o_nil ?_
                                      repeat (first | with_reducible refine r_then ?_ | with_reducible refine r_in_normal ?_ | with_reducible refine r_sc_normal ?_)
                                      refine r_ret ?_
                                      repeat (first | with_reducible refine r_then_ret ?_ | with_reducible refine r_in_ret ?_ | with_reducible refine r_sc_ret ?_)
                                      exact r_retv2 (Rd.tmp rfl rfl) rfl SelMC.sel SubRC.sub
end Go.Proofs.YtpfgiednfjfdmaaDoor


namespace Go.G
variable {P : Program} {W : World} {n : Nat} {D : List Deferred} {L : Tm} {M : List Res} {R : List Fact} {Q : Exit → Act → World → Prop} {o : Oper}
/-- The operation is a call that hands back such a value. -/
def CallR (P : Program) (L : Tm) (R : List Fact) (o : Oper) (val : Value → Prop) (fct : Value → List Fact) : Prop :=
  ∃ (k : FuncId) (args : List Value) (R0 : List Fact) (xs : List Operand) (ts : Array TypeId), o.op = .call { callee := .value (.func k), args := xs.toArray, argTypes := ts } ∧ evs L xs = some args ∧ FnR P k args R0 val fct ∧ SubR R R0
theorem CallR.mk {k : FuncId} {args : List Value} {R0 : List Fact} {xs : List Operand} {ts : Array TypeId} {val : Value → Prop} {fct : Value → List Fact} (h : FnR P k args R0 val fct) (ho : o.op = .call { callee := .value (.func k), args := xs.toArray, argTypes := ts }) (hx : evs L xs = some args) (hs : SubR R R0) : CallR P L R o val fct := ⟨k, args, R0, xs, ts, ho, hx, h, hs⟩
end Go.G


namespace Go.Proofs.YtpfgiednfjfdmaaDoor
open Go.G Debt10
set_option maxRecDepth 1000000
attribute [local irreducible] G.ParO G.Fin
/-- What is owed and paid in truth: two lists. -/
def amT (D : Debt) (e : Nat) : List Int := D.dues.map fun x => amE e x.sods
def paT (D : Debt) (e : Nat) : List Int := D.paid.map fun x => paE e x.sods
@[reducible] def vTr (ao : Option Addr) (n ac : Nat) (po : Option Addr) (m pc : Nat) : Value := .agg #[.slice ao n ac, .slice po m pc]
def isTr (am pa : List Int) (v : Value) : Prop := ∃ ao ac po pc, v = vTr ao am.length ac po pa.length pc
def facTr (am pa : List Int) (v : Value) : List Fact := [rowD (adrAt v 0) 1 encI am, rowD (adrAt v 1) 1 encI pa]
/-- The book in which each sods are known. -/
def exU (D : Debt) (am : List Int) : Nat → List Due
  | 0 => []
  | k + 1 => exU D am k ++ [{ D.dues.getD k default with sods := ⟨am.getD k default, am.getD k default⟩ }]
def exP (D : Debt) (pa : List Int) : Nat → List Paid
  | 0 => []
  | k + 1 => exP D pa k ++ [{ D.paid.getD k default with sods := ⟨pa.getD k default, pa.getD k default⟩ }]
def exactD (D : Debt) (am pa : List Int) : Debt := { D with dues := exU D am D.dues.length, paid := exP D pa D.paid.length }
def isDv (D : Debt) (v : Value) : Prop := ∃ uo po uc pc, v = valD D uo po uc pc
def facDv (D : Debt) (v : Value) : List Fact := [rowD (adrAt v 1) 5 encD D.dues, rowD (adrAt v 2) 4 encP D.paid]
variable (D : Debt) (uo po : Option Addr) (uc pc : Nat)
end Go.Proofs.YtpfgiednfjfdmaaDoor


namespace Debt10
/-- Another book with the same persons and days, and sods of its own. -/
structure Alike (D E : Debt) (am am' pa pa' : Nat → Int) : Prop where
  nd : E.dues.length = D.dues.length
  ny : E.paid.length = D.paid.length
  due : ∀ i, i < D.dues.length → (E.dues.getD i default).who = (D.dues.getD i default).who ∧ (E.dues.getD i default).day = (D.dues.getD i default).day ∧ (E.dues.getD i default).late = (D.dues.getD i default).late ∧ am' i = am i
  pay : ∀ i, i < D.paid.length → (E.paid.getD i default).who = (D.paid.getD i default).who ∧ (E.paid.getD i default).day = (D.paid.getD i default).day ∧ pa' i = pa i
section
variable {D E : Debt} {am am' pa pa' : Nat → Int} (h : Alike D E am am' pa pa') (who : Int)
include h
end
/-! ### sets of numbers -/
/-! ### what is left, and what is ahead -/
end Debt10


namespace Go.Proofs.YtpfgiednfjfdmaaDoor
open Go.G Debt10
set_option maxRecDepth 1000000
attribute [local irreducible] G.ParO G.Fin
theorem isW_good {D : Debt} (hg : GoodD D) (n : Int) : isW D n = decide (0 ≤ n ∧ n ≤ D.people - 1) := by
  have h := hg.np
  unfold isW
  rw [show IntKind.i64.wrap (D.people - 1) = D.people - 1 from IntWalk.i64_in _ (by omega)]
section
variable {D : Debt} (hg : GoodD D) {w d : Nat}
include hg
theorem okWD_ok (hw : (w : Int) < D.people) (hd : d ≤ 30) : okWD D (w : Int) (d : Int) = true := okT (by rw [isW_good hg]; exact decide_eq_true (by omega)) (decide_eq_true (by omega))
theorem aheadB_ok (hw : (w : Int) < D.people) (hd : d ≤ 30) : aheadB D (w : Int) (d : Int) = (aheadT D (w : Int) d, 0) := by rw [aheadB, ansD_0 (chkD_0 hg (okWD_ok hg hw hd)), Int.toNat_natCast]
end
/-! ### a book of known sods -/
abbrev endD (D : Debt) (e : Nat) : Debt := exactD D (amT D e) (paT D e)
attribute [local irreducible] leftT aheadT gradeS setT
variable (D : Debt) (uo po : Option Addr) (uc pc : Nat)
end Go.Proofs.YtpfgiednfjfdmaaDoor


namespace Go.Proofs.YtpfgiednfjfdmaaDoor
open Go.G Debt10
set_option maxRecDepth 1000000
attribute [local irreducible] G.ParO G.Fin
theorem v_sliceH {P : Program} {W : World} {n : Nat} {L : Tm} {M : List Res} {R : List Fact} {o : Oper} {T : TypeId} {x y : Operand} {oa : Option Addr} {l c h : Nat} {e : TypeId} {i : TypeInfo} (ho : o.op = .slice T x none (some y) none) (hT : P.underlying T = some (.slice e)) (hi : P.info? e = some i) (hx : ev L x = some (.slice oa l c)) (hy : ev L y = some (i64 (h : Int))) (hh : h ≤ c) : OpQ P W n L M R o (.slice oa h c) :=
  OpQ.of_value fun f w h1 _ => by
    have e0 := h1.ev hx
    have e1 := h1.ev hy
    have e2 : oa.map (·.add (0 * i.size)) = oa := by
      cases oa with
      | none => rfl
      | some a => simp [Addr.add]
    have this : ∀ ρ : Operand → Value, ρ x = .slice oa l c → ρ y = i64 (h : Int) → (execOp ρ o).run P w = .ok (.value (.slice oa h c)) w := by
      intro ρ e0 e1
      simp [execOp, ho, e0, e1, Instr.sliceAt, Instr.slice, run_underlying hT, Instr.sliceBounds, Instr.sliceBound, asIntOf, hh, run_sizeOf' hi]
      intro _
      cases oa with
      | none => rfl
      | some a => simp [Addr.add]
    exact this _ e0 e1
/-- A row's first part. -/
theorem Imp.rowTake {α : Type} {enc : α → List Value} {sz : Nat} {oa : Option Addr} {xs : List α} {W : World} {n : Nat} {Df : List Deferred} {L : Tm} {M : List Res} {R : List Fact} {X : Act → World → Prop} (k : Nat) [hr : HasRow oa R sz enc xs] (h : Imp W n Df L M (rowD oa sz enc (xs.take k) :: R) X) : Imp W n Df L M R X := by
  refine Imp.derive (ψ := rowD oa sz enc (xs.take k)) h (fun V hV => ?_)
  rcases hV _ hr.mem with rfl | ⟨b, off, C, T, fr, e1, e2, e3⟩
  · exact .inl (by simp)
  · refine .inr ⟨b, off, C, T, fr, e1, e2, fun i j hi hj => ?_⟩
    have hi2 : i < xs.length := by rw [List.length_take] at hi; omega
    rw [e3 i j hi2 hj]
    simp
theorem take_at {α : Type} {l : List α} {k j : Nat} {d : α} (h : j < k) : (l.take k).getD j d = l.getD j d := by
  rw [List.getD_eq_getElem?_getD, List.getD_eq_getElem?_getD, List.getElem?_take, if_pos h]
/-- Whether one of the first j payments is of the same person and day as the k-th. -/
def TwT (D : Debt) (k j : Nat) : Prop := ∃ i, i < j ∧ (D.paid.getD i default).who = (D.paid.getD k default).who ∧ (D.paid.getD i default).day = (D.paid.getD k default).day
theorem TwT_0 {D : Debt} {k : Nat} : ¬ TwT D k 0 := fun ⟨i, h, _⟩ => by omega
theorem TwT_y {D : Debt} {k j : Nat} (h : TwT D k j) : TwT D k (j + 1) := let ⟨i, h1, h2⟩ := h; ⟨i, by omega, h2⟩
theorem TwT_s {D : Debt} {k j : Nat} (h1 : (D.paid.getD j default).who = (D.paid.getD k default).who) (h2 : (D.paid.getD j default).day = (D.paid.getD k default).day) : TwT D k (j + 1) := ⟨j, by omega, h1, h2⟩
theorem TwT_n {D : Debt} {k j : Nat} (h : ¬ TwT D k j) (h1 : ¬ ((D.paid.getD j default).who = (D.paid.getD k default).who ∧ (D.paid.getD j default).day = (D.paid.getD k default).day)) : ¬ TwT D k (j + 1) := fun ⟨i, h2, h3⟩ => by
  rcases Nat.lt_succ_iff_lt_or_eq.1 h2 with h4 | rfl
  · exact h ⟨i, h4, h3⟩
  · exact h1 h3
theorem check_form {D : Debt} (hg : GoodD D) : ((checkB D).2 = 4 ∧ (checkB D).1.1 = 0 ∧ (checkB D).1.2 = 0) ∨ ((checkB D).2 = 0 ∧ 0 ≤ (checkB D).1.1 ∧ (checkB D).1.1 < D.paid.length) := by
  have hlt : ∀ (n i : Nat), firstR D n = some i → i < n := by
    intro n
    induction n with
    | zero => intro i h; cases h
    | succ n ih =>
      intro i h
      unfold firstR at h
      cases e : firstR D n with
      | some j => rw [e] at h; cases h; have := ih _ e; omega
      | none =>
        rw [e] at h
        dsimp only at h
        split at h
        · cases h; omega
        · cases h
  unfold checkB checkT
  rw [if_pos hg]
  cases e : firstR D D.paid.length with
  | none => exact .inl ⟨rfl, rfl, rfl⟩
  | some i => exact .inr ⟨rfl, by show (0 : Int) ≤ (i : Int); omega, by show (i : Int) < _; have := hlt _ _ e; omega⟩
theorem check_1 {D : Debt} {k : Nat} (hg : GoodD D) (h : firstR D k = none) (hk : k < D.paid.length) (ht : TwT D k k) : (checkB D).2 = 0 ∧ (checkB D).1.1 = k ∧ (checkB D).1.2 = 1 := by
  have hr : ruleP D k = 1 := rule_1 ht
  rw [check_hit hg h hk (by rw [hr]; decide), hr]; exact ⟨rfl, rfl, rfl⟩
theorem check_2 {D : Debt} {k : Nat} (hg : GoodD D) (h : firstR D k = none) (hk : k < D.paid.length) (ht : ¬ TwT D k k) (hw : 0 < worstA D k) : (checkB D).2 = 0 ∧ (checkB D).1.1 = k ∧ (checkB D).1.2 = 2 := by
  have hr : ruleP D k = 2 := rule_2 ht hw
  rw [check_hit hg h hk (by rw [hr]; decide), hr]; exact ⟨rfl, rfl, rfl⟩
attribute [local irreducible] leftT aheadT gradeS setT checkB worstA
variable (D : Debt) (uo po : Option Addr) (uc pc : Nat)
set_option maxHeartbeats 4000000 in
theorem checks_not  (hfg : ¬ (¬ farD D ∧ GoodD D)) : FnV Tryd.prog 9 [valD D uo po uc pc] [rowD uo 5 encD D.dues, rowD po 4 encP D.paid, rowD (some ⟨0, 0, none⟩) 1 encE ([0, 1] : List Nat)] (.bool true) := by
  refine FnV.intro Tryd.call9 Tryd.func9 rfl Tryd.ntmps9 rfl ?_
  intro W M Rf
  refine r_seq ?_
  refine r_region ?_
  refine o_boxA rfl rfl rfl rfl rfl (fun b1 => ?_)
  refine o_q _ rfl rfl rfl (v_assign rfl rfl) ?_
  refine o_nil ?_
  repeat (first | with_reducible refine r_then ?_ | with_reducible refine r_in_normal ?_ | with_reducible refine r_sc_normal ?_)
  refine r_seq ?_
  refine r_seq ?_
  refine r_region ?_
  first | refine o_q _ rfl rfl rfl (v_ldW rfl Tryd.underlying25 rfl inf25 rfl rfl) ?_ | refine o_q _ rfl rfl rfl (v_lfW rfl Tryd.underlying25 rfl inf25 rfl rfl) ?_ | refine o_q _ rfl rfl rfl (v_lfN rfl Tryd.underlying25 rfl inf25 rfl rfl rfl) ?_ | refine o_q _ rfl rfl rfl (v_ldN rfl Tryd.underlying25 rfl inf25 rfl rfl rfl) ?_ | refine o_q _ rfl rfl rfl (v_loadEN rfl Tryd.underlying25 rfl inf25 rfl (by omega) rfl rfl rfl) ?_
  refine o_q _ rfl rfl rfl (v_cast (v := .bool false) (OpQ.fn (fine_v D uo po uc pc) rfl rfl SubRC.sub) (congrArg Value.bool (decide_eq_false hfg))) ?_
  refine o_q _ rfl rfl rfl (v_not rfl rfl) ?_
  refine o_nil ?_
  repeat (first | with_reducible refine r_then ?_ | with_reducible refine r_in_normal ?_ | with_reducible refine r_sc_normal ?_)
  first | refine r_condd rfl (fun hc15 => ?_) (fun hc15 => ?_) | refine r_cond rfl (fun hc15 => ?_) (fun hc15 => ?_)
  ·
    first
    | (exfalso; revert hc15; decide)
    | (exfalso; omega)
    | skip
      refine r_seq ?_
      refine r_region ?_
      refine o_q _ rfl rfl rfl (OpQ.fn awake_v rfl rfl SubRC.sub) ?_
      refine o_q _ rfl rfl rfl (v_assign rfl rfl) ?_
      refine o_nil ?_
      repeat (first | with_reducible refine r_then ?_ | with_reducible refine r_in_normal ?_ | with_reducible refine r_sc_normal ?_)
      refine r_ret ?_
      repeat (first | with_reducible refine r_then_ret ?_ | with_reducible refine r_in_ret ?_ | with_reducible refine r_sc_ret ?_)
      exact r_retv2 (Rd.tmp rfl rfl) rfl SelMC.sel SubRC.sub
  ·
    first
    | (exfalso; revert hc15; decide)
    | (exfalso; omega)
    | skip
      refine r_skip ?_
      repeat (first | with_reducible refine r_then ?_ | with_reducible refine r_in_normal ?_ | with_reducible refine r_sc_normal ?_)
      refine r_seq ?_
      skip
theorem aheadW {D : Debt} {w d : Int} {dk : Nat} (hg : GoodD D) (h0 : 0 ≤ w) (h1 : w ≤ D.people - 1) (h2 : d = dk) (h3 : dk ≤ 30) : Value.tuple #[vS (aheadB D w d).1, i64 (aheadB D w d).2] = .tuple #[vS (aheadT D w dk), i64 0] := by
  subst h2
  obtain ⟨n, rfl⟩ : ∃ n : Nat, w = n := ⟨w.toNat, by omega⟩
  rw [aheadB_ok hg (w := n) (d := dk) (by omega) h3]
theorem worst_eq {D : Debt} {k dk : Nat} (h : (D.paid.getD k default).day = dk) : (aheadT D (D.paid.getD k default).who dk).lo = worstA D k := by
  unfold aheadT worstA
  rw [h, Int.toNat_natCast]
set_option maxHeartbeats 4000000 in
theorem checks_ok (hpc : D.paid.length ≤ pc) (hf : ¬ farD D) (hg : GoodD D) : FnV Tryd.prog 9 [valD D uo po uc pc] [rowD uo 5 encD D.dues, rowD po 4 encP D.paid, rowD (some ⟨0, 0, none⟩) 1 encE ([0, 1] : List Nat)] (.bool true) := by
  have hf2 := hf
  unfold farD at hf2
  have hl1 : D.dues.length ≤ 40 := by omega
  have hl2 : D.paid.length ≤ 40 := by omega
  have hp1 := hg.np
  have hp2 := hg.nd
  have hp3 := hg.ny
  refine FnV.intro Tryd.call9 Tryd.func9 rfl Tryd.ntmps9 rfl ?_
  intro W M Rf
  refine r_seq ?_
  refine r_region ?_
  refine o_boxA rfl rfl rfl rfl rfl (fun b1 => ?_)
  refine o_q _ rfl rfl rfl (v_assign rfl rfl) ?_
  refine o_nil ?_
  repeat (first | with_reducible refine r_then ?_ | with_reducible refine r_in_normal ?_ | with_reducible refine r_sc_normal ?_)
  refine r_seq ?_
  refine r_seq ?_
  refine r_region ?_
  first | refine o_q _ rfl rfl rfl (v_ldW rfl Tryd.underlying25 rfl inf25 rfl rfl) ?_ | refine o_q _ rfl rfl rfl (v_lfW rfl Tryd.underlying25 rfl inf25 rfl rfl) ?_ | refine o_q _ rfl rfl rfl (v_lfN rfl Tryd.underlying25 rfl inf25 rfl rfl rfl) ?_ | refine o_q _ rfl rfl rfl (v_ldN rfl Tryd.underlying25 rfl inf25 rfl rfl rfl) ?_ | refine o_q _ rfl rfl rfl (v_loadEN rfl Tryd.underlying25 rfl inf25 rfl (by omega) rfl rfl rfl) ?_
  refine o_q _ rfl rfl rfl (v_cast (v := .bool true) (OpQ.fn (fine_v D uo po uc pc) rfl rfl SubRC.sub) (congrArg Value.bool (decide_eq_true ⟨hf, hg⟩))) ?_
  refine o_q _ rfl rfl rfl (v_not rfl rfl) ?_
  refine o_nil ?_
  repeat (first | with_reducible refine r_then ?_ | with_reducible refine r_in_normal ?_ | with_reducible refine r_sc_normal ?_)
  first | refine r_condd rfl (fun hc15 => ?_) (fun hc15 => ?_) | refine r_cond rfl (fun hc15 => ?_) (fun hc15 => ?_)
  ·
    first
    | (exfalso; revert hc15; decide)
    | (exfalso; omega)
    | skip
      refine r_seq ?_
      refine r_region ?_
      refine o_q _ rfl rfl rfl (OpQ.fn awake_v rfl rfl SubRC.sub) ?_
      refine o_q _ rfl rfl rfl (v_assign rfl rfl) ?_
      refine o_nil ?_
      repeat (first | with_reducible refine r_then ?_ | with_reducible refine r_in_normal ?_ | with_reducible refine r_sc_normal ?_)
      refine r_ret ?_
      repeat (first | with_reducible refine r_then_ret ?_ | with_reducible refine r_in_ret ?_ | with_reducible refine r_sc_ret ?_)
      first | exact r_retv2 (Rd.tmp rfl rfl) rfl SelMC.sel SubRC.sub | (exfalso; omega)
  ·
    first
    | (exfalso; revert hc15; decide)
    | (exfalso; omega)
    | skip
      refine r_skip ?_
      repeat (first | with_reducible refine r_then ?_ | with_reducible refine r_in_normal ?_ | with_reducible refine r_sc_normal ?_)
      refine r_seq ?_
      refine r_region ?_
      first | refine o_q _ rfl rfl rfl (v_ldW rfl Tryd.underlying25 rfl inf25 rfl rfl) ?_ | refine o_q _ rfl rfl rfl (v_lfW rfl Tryd.underlying25 rfl inf25 rfl rfl) ?_ | refine o_q _ rfl rfl rfl (v_lfN rfl Tryd.underlying25 rfl inf25 rfl rfl rfl) ?_ | refine o_q _ rfl rfl rfl (v_ldN rfl Tryd.underlying25 rfl inf25 rfl rfl rfl) ?_ | refine o_q _ rfl rfl rfl (v_loadEN rfl Tryd.underlying25 rfl inf25 rfl (by omega) rfl rfl rfl) ?_
      refine o_q _ rfl rfl rfl (OpQ.fn (check28_v D uo po uc pc hl1 hl2) rfl rfl SubRC.sub) ?_
      refine o_q _ rfl rfl rfl (v_move rfl rfl) ?_
      refine o_q _ rfl rfl rfl (v_extract rfl rfl rfl) ?_
      refine o_q _ rfl rfl rfl (v_extract rfl rfl rfl) ?_
      refine o_q _ rfl rfl rfl (v_extract rfl rfl rfl) ?_
      refine o_q _ rfl rfl rfl (v_assign rfl rfl) ?_
      refine o_q _ rfl rfl rfl (v_assign rfl rfl) ?_
      refine o_q _ rfl rfl rfl (v_assign rfl rfl) ?_
      refine o_nil ?_
      repeat (first | with_reducible refine r_then ?_ | with_reducible refine r_in_normal ?_ | with_reducible refine r_sc_normal ?_)
      refine r_seq ?_
      refine r_seq ?_
      have hcf := check_form hg
      refine r_region ?_
      refine o_q _ rfl rfl rfl (v_move rfl rfl) ?_
      first | refine o_q _ rfl rfl rfl (v_true (v_neq rfl rfl rfl) (by omega)) ?_ | refine o_q _ rfl rfl rfl (v_false (v_neq rfl rfl rfl) (by omega)) ?_ | refine o_test rfl rfl rfl (v_neq rfl rfl rfl) (fun h24 => ?_) (fun h24 => ?_)
      all_goals
        refine o_q _ rfl rfl rfl (v_move rfl rfl) ?_
        first | refine o_gn rfl rfl rfl rfl ?_ | refine o_g _ rfl rfl rfl rfl (v_move rfl rfl) ?_
        first | refine o_gn rfl rfl rfl rfl ?_ | refine o_g _ rfl rfl rfl rfl (v_true (v_neq rfl rfl rfl) (by omega)) ?_ | refine o_g _ rfl rfl rfl rfl (v_false (v_neq rfl rfl rfl) (by omega)) ?_ | refine o_gtest rfl rfl rfl rfl (v_neq rfl rfl rfl) (fun h27 => ?_) (fun h27 => ?_)
        all_goals
          first | refine o_gn rfl rfl rfl rfl ?_ | refine o_g _ rfl rfl rfl rfl (v_move rfl rfl) ?_
          first | refine o_gn rfl rfl rfl rfl ?_ | refine o_g _ rfl rfl rfl rfl (v_move rfl rfl) ?_
          first | refine o_gn rfl rfl rfl rfl ?_ | refine o_g _ rfl rfl rfl rfl (v_true (v_neq rfl rfl rfl) (by omega)) ?_ | refine o_g _ rfl rfl rfl rfl (v_false (v_neq rfl rfl rfl) (by omega)) ?_ | refine o_gtest rfl rfl rfl rfl (v_neq rfl rfl rfl) (fun h30 => ?_) (fun h30 => ?_)
          all_goals
            first | refine o_gn rfl rfl rfl rfl ?_ | refine o_g _ rfl rfl rfl rfl (v_pick_t rfl rfl rfl) ?_ | refine o_g _ rfl rfl rfl rfl (v_pick_f rfl rfl rfl) ?_
            first | refine o_gn rfl rfl rfl rfl ?_ | refine o_g _ rfl rfl rfl rfl (v_move rfl rfl) ?_
            first | refine o_gn rfl rfl rfl rfl ?_ | refine o_g _ rfl rfl rfl rfl (v_move rfl rfl) ?_
            first | refine o_gn rfl rfl rfl rfl ?_ | refine o_g _ rfl rfl rfl rfl (v_true (v_neq rfl rfl rfl) (by omega)) ?_ | refine o_g _ rfl rfl rfl rfl (v_false (v_neq rfl rfl rfl) (by omega)) ?_ | refine o_gtest rfl rfl rfl rfl (v_neq rfl rfl rfl) (fun h34 => ?_) (fun h34 => ?_)
            all_goals
              first | refine o_gn rfl rfl rfl rfl ?_ | refine o_g _ rfl rfl rfl rfl (v_pick_t rfl rfl rfl) ?_ | refine o_g _ rfl rfl rfl rfl (v_pick_f rfl rfl rfl) ?_
              first | refine o_q _ rfl rfl rfl (v_pick_t rfl rfl rfl) ?_ | refine o_q _ rfl rfl rfl (v_pick_f rfl rfl rfl) ?_
              refine o_q _ rfl rfl rfl (v_move rfl rfl) ?_
              first | refine o_gn rfl rfl rfl rfl ?_ | refine o_g _ rfl rfl rfl rfl (v_move rfl rfl) ?_
              first | refine o_gn rfl rfl rfl rfl ?_ | refine o_g _ rfl rfl rfl rfl (v_true (v_eql rfl rfl rfl) (by omega)) ?_ | refine o_g _ rfl rfl rfl rfl (v_false (v_eql rfl rfl rfl) (by omega)) ?_ | refine o_gtest rfl rfl rfl rfl (v_eql rfl rfl rfl) (fun h39 => ?_) (fun h39 => ?_)
              all_goals
                first | refine o_gn rfl rfl rfl rfl ?_ | refine o_g _ rfl rfl rfl rfl (v_move rfl rfl) ?_
                first | refine o_gn rfl rfl rfl rfl ?_ | refine o_g _ rfl rfl rfl rfl (v_move rfl rfl) ?_
                first | refine o_gn rfl rfl rfl rfl ?_ | refine o_g _ rfl rfl rfl rfl (v_true (v_lss rfl rfl rfl) (by omega)) ?_ | refine o_g _ rfl rfl rfl rfl (v_false (v_lss rfl rfl rfl) (by omega)) ?_ | refine o_gtest rfl rfl rfl rfl (v_lss rfl rfl rfl) (fun h42 => ?_) (fun h42 => ?_)
                all_goals
                  first | refine o_gn rfl rfl rfl rfl ?_ | refine o_g _ rfl rfl rfl rfl (v_move rfl rfl) ?_
                  first | refine o_gn rfl rfl rfl rfl ?_ | refine o_g _ rfl rfl rfl rfl (v_move rfl rfl) ?_
                  first | refine o_gn rfl rfl rfl rfl ?_ | refine o_g _ rfl rfl rfl rfl (v_fieldAddr rfl Tryd.underlying25 inf23 rfl rfl rfl rfl) ?_ | refine o_g _ rfl rfl rfl rfl (v_fieldAddrE rfl Tryd.underlying25 inf23 rfl rfl rfl rfl) ?_
                  first | refine o_gn rfl rfl rfl rfl ?_ | refine o_g _ rfl rfl rfl rfl (v_ld1 rfl Tryd.underlying23 rfl rfl rfl) ?_ | refine o_g _ rfl rfl rfl rfl (v_lf1 rfl Tryd.underlying23 rfl rfl rfl) ?_ | refine o_g _ rfl rfl rfl rfl (v_loadE1 rfl Tryd.underlying23 rfl rfl (by omega) rfl rfl) ?_
                  first | refine o_gn rfl rfl rfl rfl ?_ | refine o_g _ rfl rfl rfl rfl (v_len rfl rfl Tryd.underlying23 rfl) ?_
                  first | refine o_gn rfl rfl rfl rfl ?_ | refine o_g _ rfl rfl rfl rfl (v_true (v_geq rfl rfl rfl) (by omega)) ?_ | refine o_g _ rfl rfl rfl rfl (v_false (v_geq rfl rfl rfl) (by omega)) ?_ | refine o_gtest rfl rfl rfl rfl (v_geq rfl rfl rfl) (fun h48 => ?_) (fun h48 => ?_)
                  all_goals
                    first | refine o_gn rfl rfl rfl rfl ?_ | refine o_g _ rfl rfl rfl rfl (v_pick_t rfl rfl rfl) ?_ | refine o_g _ rfl rfl rfl rfl (v_pick_f rfl rfl rfl) ?_
                    first | refine o_gn rfl rfl rfl rfl ?_ | refine o_g _ rfl rfl rfl rfl (v_pick_t rfl rfl rfl) ?_ | refine o_g _ rfl rfl rfl rfl (v_pick_f rfl rfl rfl) ?_
                    first | refine o_q _ rfl rfl rfl (v_pick_t rfl rfl rfl) ?_ | refine o_q _ rfl rfl rfl (v_pick_f rfl rfl rfl) ?_
                    refine o_nil ?_
                    repeat (first | with_reducible refine r_then ?_ | with_reducible refine r_in_normal ?_ | with_reducible refine r_sc_normal ?_)
                    first | refine r_condd rfl (fun hc51 => ?_) (fun hc51 => ?_) | refine r_cond rfl (fun hc51 => ?_) (fun hc51 => ?_)
                    ·
                      first
                      | (exfalso; revert hc51; decide)
                      | (exfalso; omega)
                      | skip
                        refine r_seq ?_
                        refine r_region ?_
                        refine o_q _ rfl rfl rfl (v_assign rfl rfl) ?_
                        refine o_nil ?_
                        repeat (first | with_reducible refine r_then ?_ | with_reducible refine r_in_normal ?_ | with_reducible refine r_sc_normal ?_)
                        refine r_ret ?_
                        repeat (first | with_reducible refine r_then_ret ?_ | with_reducible refine r_in_ret ?_ | with_reducible refine r_sc_ret ?_)
                        first | exact r_retv2 (Rd.tmp rfl rfl) rfl SelMC.sel SubRC.sub | (exfalso; omega)
                    ·
                      first
                      | (exfalso; revert hc51; decide)
                      | (exfalso; omega)
                      | skip
                        refine r_skip ?_
                        repeat (first | with_reducible refine r_then ?_ | with_reducible refine r_in_normal ?_ | with_reducible refine r_sc_normal ?_)
                        refine r_seq ?_
                        refine r_seq ?_
                        refine r_region ?_
                        first | refine o_q _ rfl rfl rfl (v_fieldAddr rfl Tryd.underlying25 inf23 rfl rfl rfl rfl) ?_ | refine o_q _ rfl rfl rfl (v_fieldAddrE rfl Tryd.underlying25 inf23 rfl rfl rfl rfl) ?_
                        first | refine o_q _ rfl rfl rfl (v_ld1 rfl Tryd.underlying23 rfl rfl rfl) ?_ | refine o_q _ rfl rfl rfl (v_lf1 rfl Tryd.underlying23 rfl rfl rfl) ?_ | refine o_q _ rfl rfl rfl (v_loadE1 rfl Tryd.underlying23 rfl rfl (by omega) rfl rfl) ?_
                        refine o_q _ rfl rfl rfl (v_len rfl rfl Tryd.underlying23 rfl) ?_
                        refine o_q _ rfl rfl rfl (v_move rfl rfl) ?_
                        refine o_nil ?_
                        repeat (first | with_reducible refine r_then ?_ | with_reducible refine r_in_normal ?_ | with_reducible refine r_sc_normal ?_)
                        refine r_block ?_
                        refine r_loop (ι := Nat) (fun k => k ≤ D.paid.length ∧ firstR D k = none) (fun k => [(1, pt b1 0), (3, i64 (checkB D).1.1), (4, i64 (checkB D).1.2), (5, i64 (checkB D).2), (53, .slice po D.paid.length pc), (54, i64 D.paid.length), (55, i64 (k : Int))]) (fun k => bx b1 25 (cellsD D uo po uc pc) :: M) (fun k => [rowD uo 5 encD D.dues, rowD po 4 encP D.paid, rowD (some ⟨0, 0, none⟩) 1 encE ([0, 1] : List Nat)] ++ Rf) (fun k => D.paid.length - k) 0 ?_ ?_ ?_
                        ·
                          exact r_here (by repeat (first | exact FSub.nil | refine FSub.cons rfl ?_)) SelMC.sel SubRC.sub
                        ·
                          exact ⟨Nat.zero_le _, rfl⟩
                        ·
                          rintro k hI0
                          have hfr := hI0.2
                          have hkl := hI0.1
                          refine r_seq ?_
                          refine r_region ?_
                          refine o_q _ rfl rfl rfl (v_lss rfl rfl rfl) ?_
                          refine o_nil ?_
                          repeat (first | with_reducible refine r_then ?_ | with_reducible refine r_in_normal ?_ | with_reducible refine r_sc_normal ?_)
                          refine r_seq ?_
                          first | refine r_condd rfl (fun hc56 => ?_) (fun hc56 => ?_) | refine r_cond rfl (fun hc56 => ?_) (fun hc56 => ?_)
                          ·
                            first
                            | (exfalso; revert hc56; decide)
                            | (exfalso; omega)
                            | skip
                              refine r_skip ?_
                              repeat (first | with_reducible refine r_then ?_ | with_reducible refine r_in_normal ?_ | with_reducible refine r_sc_normal ?_)
                              refine r_seq ?_
                              refine r_block ?_
                              refine r_seq ?_
                              refine r_region ?_
                              refine o_q _ rfl rfl rfl (v_move rfl rfl) ?_
                              first | refine o_q _ rfl rfl rfl (v_indexAddrSn rfl Tryd.underlying23 inf54 rfl rfl rfl (by omega) rfl) ?_ | refine o_q _ rfl rfl rfl (v_indexAddrS rfl Tryd.underlying23 inf54 rfl rfl rfl (by omega) (by omega) rfl) ?_
                              refine o_q _ rfl rfl rfl (v_loadEN (us := encP (D.paid.getD k default)) rfl Tryd.underlying54 rfl inf54 rfl (by omega) rfl rfl rfl) ?_
                              refine o_alloc rfl inf54 rfl rfl rfl rfl rfl (fun b7 => ?_)
                              refine o_q _ rfl rfl rfl (v_assign rfl rfl) ?_
                              refine o_st rfl inf54 rfl rfl rfl rfl rfl rfl rfl rfl ?_
                              refine o_nil ?_
                              repeat (first | with_reducible refine r_then ?_ | with_reducible refine r_in_normal ?_ | with_reducible refine r_sc_normal ?_)
                              refine r_seq ?_
                              refine Imp.box_to b7 (encP (D.paid.getD k default)) rfl ?_
                              have hok := hg.paid k (by omega)
                              unfold PaidOk SodsOk at hok
                              obtain ⟨dk, hdk⟩ : ∃ n : Nat, (D.paid.getD k default).day = n := ⟨(D.paid.getD k default).day.toNat, by omega⟩
                              refine r_region ?_
                              refine o_q _ rfl rfl rfl (v_assign rfl rfl) ?_
                              refine o_nil ?_
                              repeat (first | with_reducible refine r_then ?_ | with_reducible refine r_in_normal ?_ | with_reducible refine r_sc_normal ?_)
                              refine r_seq ?_
                              refine r_seq ?_
                              refine Imp.rowTake (oa := po) (xs := D.paid) k ?_
                              refine r_region ?_
                              first | refine o_q _ rfl rfl rfl (v_fieldAddr rfl Tryd.underlying25 inf23 rfl rfl rfl rfl) ?_ | refine o_q _ rfl rfl rfl (v_fieldAddrE rfl Tryd.underlying25 inf23 rfl rfl rfl rfl) ?_
                              first | refine o_q _ rfl rfl rfl (v_ld1 rfl Tryd.underlying23 rfl rfl rfl) ?_ | refine o_q _ rfl rfl rfl (v_lf1 rfl Tryd.underlying23 rfl rfl rfl) ?_ | refine o_q _ rfl rfl rfl (v_loadE1 rfl Tryd.underlying23 rfl rfl (by omega) rfl rfl) ?_
                              refine o_q _ rfl rfl rfl (v_move rfl rfl) ?_
                              refine o_q _ rfl rfl rfl (v_sliceH rfl Tryd.underlying23 inf54 rfl rfl (by omega)) ?_
                              refine o_q _ rfl rfl rfl (v_len rfl rfl Tryd.underlying23 rfl) ?_
                              refine o_q _ rfl rfl rfl (v_move rfl rfl) ?_
                              refine o_nil ?_
                              repeat (first | with_reducible refine r_then ?_ | with_reducible refine r_in_normal ?_ | with_reducible refine r_sc_normal ?_)
                              refine r_block ?_
                              refine r_loop (ι := Nat × Bool) (fun gh => gh.1 ≤ k ∧ (gh.2 = true ↔ TwT D k gh.1)) (fun gh => [(1, pt b1 0), (3, i64 (checkB D).1.1), (4, i64 (checkB D).1.2), (5, i64 (checkB D).2), (53, .slice po D.paid.length pc), (54, i64 D.paid.length), (55, i64 (k : Int)), (6, i64 (k : Int)), (7, pt b7 0), (8, .bool gh.2), (63, .slice po k pc), (64, i64 (k : Int)), (65, i64 (gh.1 : Int))]) (fun gh => bx b7 54 (encP (D.paid.getD k default)) :: bx b1 25 (cellsD D uo po uc pc) :: M) (fun gh => rowD po 4 encP (D.paid.take k) :: ([rowD uo 5 encD D.dues, rowD po 4 encP D.paid, rowD (some ⟨0, 0, none⟩) 1 encE ([0, 1] : List Nat)] ++ Rf)) (fun gh => k - gh.1) (0, false) ?_ ?_ ?_
                              ·
                                refine Imp.box_to b7 (encP (D.paid.getD k default)) rfl ?_
                                exact r_here (by repeat (first | exact FSub.nil | refine FSub.cons rfl ?_)) SelMC.sel SubRC.sub
                              ·
                                exact ⟨Nat.zero_le _, by simp [TwT_0]⟩
                              ·
                                rintro ⟨j, tb⟩ hI1
                                dsimp only at hI1
                                dsimp only
                                obtain ⟨hj1, htw⟩ := hI1
                                have hj2 : j ≤ k := hj1
                                refine r_seq ?_
                                refine r_region ?_
                                refine o_q _ rfl rfl rfl (v_lss rfl rfl rfl) ?_
                                refine o_nil ?_
                                repeat (first | with_reducible refine r_then ?_ | with_reducible refine r_in_normal ?_ | with_reducible refine r_sc_normal ?_)
                                refine r_seq ?_
                                first | refine r_condd rfl (fun hc66 => ?_) (fun hc66 => ?_) | refine r_cond rfl (fun hc66 => ?_) (fun hc66 => ?_)
                                ·
                                  first
                                  | (exfalso; revert hc66; decide)
                                  | (exfalso; omega)
                                  | skip
                                    refine r_skip ?_
                                    repeat (first | with_reducible refine r_then ?_ | with_reducible refine r_in_normal ?_ | with_reducible refine r_sc_normal ?_)
                                    refine r_seq ?_
                                    refine r_block ?_
                                    refine r_seq ?_
                                    refine r_region ?_
                                    refine o_q _ rfl rfl rfl (v_indexAddrSn rfl Tryd.underlying23 inf54 rfl rfl rfl (by omega) (by rw [List.length_take]; omega)) ?_
                                    refine o_q _ rfl rfl rfl (v_cast (v := .agg (encP (D.paid.getD j default)).toArray) (v_loadEN rfl Tryd.underlying54 rfl inf54 rfl (by rw [List.length_take]; omega) rfl rfl rfl) (by rw [take_at (by omega)]; rfl)) ?_
                                    refine o_alloc rfl inf54 rfl rfl rfl rfl rfl (fun b10 => ?_)
                                    refine o_st rfl inf54 rfl rfl rfl rfl rfl rfl rfl rfl ?_
                                    refine o_nil ?_
                                    repeat (first | with_reducible refine r_then ?_ | with_reducible refine r_in_normal ?_ | with_reducible refine r_sc_normal ?_)
                                    refine Imp.box_to b10 (encP (D.paid.getD j default)) rfl ?_
                                    cases tb
                                    all_goals
                                    refine r_region ?_
                                    refine o_q _ rfl rfl rfl (v_move rfl rfl) ?_
                                    refine o_q _ rfl rfl rfl (v_move rfl rfl) ?_
                                    first | refine o_gn rfl rfl rfl rfl ?_ | refine o_g _ rfl rfl rfl rfl (v_fieldAddr rfl Tryd.underlying54 inf3 rfl rfl rfl rfl) ?_ | refine o_g _ rfl rfl rfl rfl (v_fieldAddrE rfl Tryd.underlying54 inf3 rfl rfl rfl rfl) ?_
                                    first | refine o_gn rfl rfl rfl rfl ?_ | refine o_g _ rfl rfl rfl rfl (v_ld1 rfl Tryd.underlying3 rfl rfl rfl) ?_ | refine o_g _ rfl rfl rfl rfl (v_lf1 rfl Tryd.underlying3 rfl rfl rfl) ?_ | refine o_g _ rfl rfl rfl rfl (v_loadE1 rfl Tryd.underlying3 rfl rfl (by omega) rfl rfl) ?_
                                    first | refine o_gn rfl rfl rfl rfl ?_ | refine o_g _ rfl rfl rfl rfl (v_fieldAddr rfl Tryd.underlying54 inf3 rfl rfl rfl rfl) ?_ | refine o_g _ rfl rfl rfl rfl (v_fieldAddrE rfl Tryd.underlying54 inf3 rfl rfl rfl rfl) ?_
                                    first | refine o_gn rfl rfl rfl rfl ?_ | refine o_g _ rfl rfl rfl rfl (v_ld1 rfl Tryd.underlying3 rfl rfl rfl) ?_ | refine o_g _ rfl rfl rfl rfl (v_lf1 rfl Tryd.underlying3 rfl rfl rfl) ?_ | refine o_g _ rfl rfl rfl rfl (v_loadE1 rfl Tryd.underlying3 rfl rfl (by omega) rfl rfl) ?_
                                    first | refine o_gn rfl rfl rfl rfl ?_ | refine o_g _ rfl rfl rfl rfl (v_true (v_eql rfl rfl rfl) (by omega)) ?_ | refine o_g _ rfl rfl rfl rfl (v_false (v_eql rfl rfl rfl) (by omega)) ?_ | refine o_gtest rfl rfl rfl rfl (v_eql rfl rfl rfl) (fun h75 => ?_) (fun h75 => ?_)
                                    all_goals
                                      first | refine o_gn rfl rfl rfl rfl ?_ | refine o_g _ rfl rfl rfl rfl (v_move rfl rfl) ?_
                                      first | refine o_gn rfl rfl rfl rfl ?_ | refine o_g _ rfl rfl rfl rfl (v_fieldAddr rfl Tryd.underlying54 inf3 rfl rfl rfl rfl) ?_ | refine o_g _ rfl rfl rfl rfl (v_fieldAddrE rfl Tryd.underlying54 inf3 rfl rfl rfl rfl) ?_
                                      first | refine o_gn rfl rfl rfl rfl ?_ | refine o_g _ rfl rfl rfl rfl (v_ld1 rfl Tryd.underlying3 rfl rfl rfl) ?_ | refine o_g _ rfl rfl rfl rfl (v_lf1 rfl Tryd.underlying3 rfl rfl rfl) ?_ | refine o_g _ rfl rfl rfl rfl (v_loadE1 rfl Tryd.underlying3 rfl rfl (by omega) rfl rfl) ?_
                                      first | refine o_gn rfl rfl rfl rfl ?_ | refine o_g _ rfl rfl rfl rfl (v_fieldAddr rfl Tryd.underlying54 inf3 rfl rfl rfl rfl) ?_ | refine o_g _ rfl rfl rfl rfl (v_fieldAddrE rfl Tryd.underlying54 inf3 rfl rfl rfl rfl) ?_
                                      first | refine o_gn rfl rfl rfl rfl ?_ | refine o_g _ rfl rfl rfl rfl (v_ld1 rfl Tryd.underlying3 rfl rfl rfl) ?_ | refine o_g _ rfl rfl rfl rfl (v_lf1 rfl Tryd.underlying3 rfl rfl rfl) ?_ | refine o_g _ rfl rfl rfl rfl (v_loadE1 rfl Tryd.underlying3 rfl rfl (by omega) rfl rfl) ?_
                                      first | refine o_gn rfl rfl rfl rfl ?_ | refine o_g _ rfl rfl rfl rfl (v_true (v_eql rfl rfl rfl) (by omega)) ?_ | refine o_g _ rfl rfl rfl rfl (v_false (v_eql rfl rfl rfl) (by omega)) ?_ | refine o_gtest rfl rfl rfl rfl (v_eql rfl rfl rfl) (fun h81 => ?_) (fun h81 => ?_)
                                      all_goals
                                        first | refine o_gn rfl rfl rfl rfl ?_ | refine o_g _ rfl rfl rfl rfl (v_pick_t rfl rfl rfl) ?_ | refine o_g _ rfl rfl rfl rfl (v_pick_f rfl rfl rfl) ?_
                                        first | refine o_q _ rfl rfl rfl (v_pick_t rfl rfl rfl) ?_ | refine o_q _ rfl rfl rfl (v_pick_f rfl rfl rfl) ?_
                                        refine o_q _ rfl rfl rfl (v_assign rfl rfl) ?_
                                        refine o_nil ?_
                                        repeat (first | with_reducible refine r_then ?_ | with_reducible refine r_in_normal ?_ | with_reducible refine r_sc_normal ?_)
                                        refine r_region ?_
                                        refine o_q _ rfl rfl rfl (v_add rfl rfl rfl (by omega)) ?_
                                        refine o_q _ rfl rfl rfl (v_move rfl rfl) ?_
                                        refine o_nil ?_
                                        repeat (first | with_reducible refine r_then ?_ | with_reducible refine r_in_normal ?_ | with_reducible refine r_sc_normal ?_)
                                        first
                                        | exact r_next ((j + 1, true)) (by exact r_here (by repeat (first | exact FSub.nil | refine FSub.cons rfl ?_)) SelMC.sel SubRC.sub) (by exact ⟨by omega, by first | exact ⟨fun _ => TwT_y (htw.1 rfl), fun _ => rfl⟩ | exact ⟨fun _ => TwT_s (by omega) (by omega), fun _ => rfl⟩⟩) (by show k - (j + 1) < k - j; omega)
                                        | exact r_next ((j + 1, false)) (by exact r_here (by repeat (first | exact FSub.nil | refine FSub.cons rfl ?_)) SelMC.sel SubRC.sub) (by exact ⟨by omega, ⟨fun h => (by cases h), fun h => absurd h (TwT_n (fun h2 => Bool.noConfusion (htw.2 h2)) (by omega))⟩⟩) (by show k - (j + 1) < k - j; omega)
                                ·
                                  first
                                  | (exfalso; revert hc66; decide)
                                  | (exfalso; omega)
                                  | skip
                                    refine r_exit ?_
                                    repeat (first | with_reducible refine r_then_exit ?_ | with_reducible refine r_sc_exit ?_ | with_reducible refine r_in_here ?_ | (with_reducible refine r_in_past (by decide) ?_) | with_reducible refine r_then ?_ | with_reducible refine r_in_normal ?_ | with_reducible refine r_sc_normal ?_)
                                    refine r_seq ?_
                                    have hjk : j = k := by omega
                                    rw [hjk] at htw
                                    refine r_region ?_
                                    first | refine o_q _ rfl rfl rfl (v_ldW rfl Tryd.underlying25 rfl inf25 rfl rfl) ?_ | refine o_q _ rfl rfl rfl (v_lfW rfl Tryd.underlying25 rfl inf25 rfl rfl) ?_ | refine o_q _ rfl rfl rfl (v_lfN rfl Tryd.underlying25 rfl inf25 rfl rfl rfl) ?_ | refine o_q _ rfl rfl rfl (v_ldN rfl Tryd.underlying25 rfl inf25 rfl rfl rfl) ?_ | refine o_q _ rfl rfl rfl (v_loadEN rfl Tryd.underlying25 rfl inf25 rfl (by omega) rfl rfl rfl) ?_
                                    first | refine o_q _ rfl rfl rfl (v_fieldAddr rfl Tryd.underlying54 inf3 rfl rfl rfl rfl) ?_ | refine o_q _ rfl rfl rfl (v_fieldAddrE rfl Tryd.underlying54 inf3 rfl rfl rfl rfl) ?_
                                    first | refine o_q _ rfl rfl rfl (v_ld1 rfl Tryd.underlying3 rfl rfl rfl) ?_ | refine o_q _ rfl rfl rfl (v_lf1 rfl Tryd.underlying3 rfl rfl rfl) ?_ | refine o_q _ rfl rfl rfl (v_loadE1 rfl Tryd.underlying3 rfl rfl (by omega) rfl rfl) ?_
                                    first | refine o_q _ rfl rfl rfl (v_fieldAddr rfl Tryd.underlying54 inf3 rfl rfl rfl rfl) ?_ | refine o_q _ rfl rfl rfl (v_fieldAddrE rfl Tryd.underlying54 inf3 rfl rfl rfl rfl) ?_
                                    first | refine o_q _ rfl rfl rfl (v_ld1 rfl Tryd.underlying3 rfl rfl rfl) ?_ | refine o_q _ rfl rfl rfl (v_lf1 rfl Tryd.underlying3 rfl rfl rfl) ?_ | refine o_q _ rfl rfl rfl (v_loadE1 rfl Tryd.underlying3 rfl rfl (by omega) rfl rfl) ?_
                                    refine o_q _ rfl rfl rfl (v_cast (v := .tuple #[vS (aheadT D (D.paid.getD k default).who dk), i64 0]) (OpQ.fn (ahead16_v D uo po uc pc (D.paid.getD k default).who (D.paid.getD k default).day hl1 hl2) rfl rfl SubRC.sub) (by rw [aheadW hg (show 0 ≤ (D.paid.getD k default).who by omega) (by omega) hdk (by omega)])) ?_
                                    refine o_q _ rfl rfl rfl (v_move rfl rfl) ?_
                                    refine o_q _ rfl rfl rfl (v_extract rfl rfl rfl) ?_
                                    refine o_q _ rfl rfl rfl (v_extract rfl rfl rfl) ?_
                                    refine o_alloc rfl inf29 rfl rfl rfl rfl rfl (fun b11 => ?_)
                                    refine o_st rfl inf29 rfl rfl rfl rfl rfl rfl rfl rfl ?_
                                    refine o_q _ rfl rfl rfl (v_assign rfl rfl) ?_
                                    refine o_nil ?_
                                    repeat (first | with_reducible refine r_then ?_ | with_reducible refine r_in_normal ?_ | with_reducible refine r_sc_normal ?_)
                                    refine r_seq ?_
                                    refine r_seq ?_
                                    refine Imp.box_to b11 [i64 (aheadT D (D.paid.getD k default).who dk).lo, i64 (aheadT D (D.paid.getD k default).who dk).hi] rfl ?_
                                    have hwa : (aheadT D (D.paid.getD k default).who dk).lo = worstA D k := worst_eq hdk
                                    refine r_region ?_
                                    refine o_q _ rfl rfl rfl (v_move rfl rfl) ?_
                                    refine o_q _ rfl rfl rfl (v_neq rfl rfl rfl) ?_
                                    refine o_nil ?_
                                    repeat (first | with_reducible refine r_then ?_ | with_reducible refine r_in_normal ?_ | with_reducible refine r_sc_normal ?_)
                                    first | refine r_condd rfl (fun hc95 => ?_) (fun hc95 => ?_) | refine r_cond rfl (fun hc95 => ?_) (fun hc95 => ?_)
                                    ·
                                      first
                                      | (exfalso; revert hc95; decide)
                                      | (exfalso; omega)
                                      | skip
                                        refine r_seq ?_
                                        refine r_region ?_
                                        refine o_q _ rfl rfl rfl (v_assign rfl rfl) ?_
                                        refine o_nil ?_
                                        repeat (first | with_reducible refine r_then ?_ | with_reducible refine r_in_normal ?_ | with_reducible refine r_sc_normal ?_)
                                        refine r_ret ?_
                                        repeat (first | with_reducible refine r_then_ret ?_ | with_reducible refine r_in_ret ?_ | with_reducible refine r_sc_ret ?_)
                                        first | exact r_retv2 (Rd.tmp rfl rfl) rfl SelMC.sel SubRC.sub | (exfalso; omega)
                                    ·
                                      first
                                      | (exfalso; revert hc95; decide)
                                      | (exfalso; omega)
                                      | skip
                                        refine r_skip ?_
                                        repeat (first | with_reducible refine r_then ?_ | with_reducible refine r_in_normal ?_ | with_reducible refine r_sc_normal ?_)
                                        refine r_block ?_
                                        refine r_seq ?_
                                        refine r_region ?_
                                        refine o_q _ rfl rfl rfl (v_move rfl rfl) ?_
                                        refine o_q _ rfl rfl rfl (v_assign rfl rfl) ?_
                                        refine o_nil ?_
                                        repeat (first | with_reducible refine r_then ?_ | with_reducible refine r_in_normal ?_ | with_reducible refine r_sc_normal ?_)
                                        first | refine r_condd rfl (fun hc96 => ?_) (fun hc96 => ?_) | refine r_cond rfl (fun hc96 => ?_) (fun hc96 => ?_)
                                        ·
                                          first
                                          | (exfalso; revert hc96; decide)
                                          | (exfalso; omega)
                                          | skip
                                            refine r_seq ?_
                                            have hck := check_1 hg hfr (by omega) (htw.1 hc96)
                                            refine r_region ?_
                                            refine o_q _ rfl rfl rfl (v_move rfl rfl) ?_
                                            first | refine o_q _ rfl rfl rfl (v_true (v_eql rfl rfl rfl) (by omega)) ?_ | refine o_q _ rfl rfl rfl (v_false (v_eql rfl rfl rfl) (by omega)) ?_ | refine o_test rfl rfl rfl (v_eql rfl rfl rfl) (fun h99 => ?_) (fun h99 => ?_)
                                            all_goals
                                              refine o_q _ rfl rfl rfl (v_move rfl rfl) ?_
                                              first | refine o_gn rfl rfl rfl rfl ?_ | refine o_g _ rfl rfl rfl rfl (v_move rfl rfl) ?_
                                              first | refine o_gn rfl rfl rfl rfl ?_ | refine o_g _ rfl rfl rfl rfl (v_move rfl rfl) ?_
                                              first | refine o_gn rfl rfl rfl rfl ?_ | refine o_g _ rfl rfl rfl rfl (v_true (v_eql rfl rfl rfl) (by omega)) ?_ | refine o_g _ rfl rfl rfl rfl (v_false (v_eql rfl rfl rfl) (by omega)) ?_ | refine o_gtest rfl rfl rfl rfl (v_eql rfl rfl rfl) (fun h103 => ?_) (fun h103 => ?_)
                                              all_goals
                                                first | refine o_q _ rfl rfl rfl (v_pick_t rfl rfl rfl) ?_ | refine o_q _ rfl rfl rfl (v_pick_f rfl rfl rfl) ?_
                                                refine o_q _ rfl rfl rfl (v_move rfl rfl) ?_
                                                first | refine o_gn rfl rfl rfl rfl ?_ | refine o_g _ rfl rfl rfl rfl (v_move rfl rfl) ?_
                                                first | refine o_gn rfl rfl rfl rfl ?_ | refine o_g _ rfl rfl rfl rfl (v_true (v_eql rfl rfl rfl) (by omega)) ?_ | refine o_g _ rfl rfl rfl rfl (v_false (v_eql rfl rfl rfl) (by omega)) ?_ | refine o_gtest rfl rfl rfl rfl (v_eql rfl rfl rfl) (fun h107 => ?_) (fun h107 => ?_)
                                                all_goals
                                                  first | refine o_q _ rfl rfl rfl (v_pick_t rfl rfl rfl) ?_ | refine o_q _ rfl rfl rfl (v_pick_f rfl rfl rfl) ?_
                                                  refine o_q _ rfl rfl rfl (v_move rfl rfl) ?_
                                                  first | refine o_gn rfl rfl rfl rfl ?_ | refine o_g _ rfl rfl rfl rfl (OpQ.fn awake_v rfl rfl SubRC.sub) ?_
                                                  first | refine o_q _ rfl rfl rfl (v_pick_t rfl rfl rfl) ?_ | refine o_q _ rfl rfl rfl (v_pick_f rfl rfl rfl) ?_
                                                  refine o_q _ rfl rfl rfl (v_assign rfl rfl) ?_
                                                  refine o_nil ?_
                                                  repeat (first | with_reducible refine r_then ?_ | with_reducible refine r_in_normal ?_ | with_reducible refine r_sc_normal ?_)
                                                  refine r_ret ?_
                                                  repeat (first | with_reducible refine r_then_ret ?_ | with_reducible refine r_in_ret ?_ | with_reducible refine r_sc_ret ?_)
                                                  first | exact r_retv2 (Rd.tmp rfl rfl) rfl SelMC.sel SubRC.sub | (exfalso; omega)
                                        ·
                                          first
                                          | (exfalso; revert hc96; decide)
                                          | (exfalso; omega)
                                          | skip
                                            refine r_seq ?_
                                            refine r_region ?_
                                            first | refine o_q _ rfl rfl rfl (v_fieldAddr rfl Tryd.underlying29 inf3 rfl rfl rfl rfl) ?_ | refine o_q _ rfl rfl rfl (v_fieldAddrE rfl Tryd.underlying29 inf3 rfl rfl rfl rfl) ?_
                                            first | refine o_q _ rfl rfl rfl (v_ld1 rfl Tryd.underlying3 rfl rfl rfl) ?_ | refine o_q _ rfl rfl rfl (v_lf1 rfl Tryd.underlying3 rfl rfl rfl) ?_ | refine o_q _ rfl rfl rfl (v_loadE1 rfl Tryd.underlying3 rfl rfl (by omega) rfl rfl) ?_
                                            refine o_q _ rfl rfl rfl (v_gtr rfl rfl rfl) ?_
                                            refine o_q _ rfl rfl rfl (v_assign rfl rfl) ?_
                                            refine o_nil ?_
                                            repeat (first | with_reducible refine r_then ?_ | with_reducible refine r_in_normal ?_ | with_reducible refine r_sc_normal ?_)
                                            first | refine r_condd rfl (fun hc112 => ?_) (fun hc112 => ?_) | refine r_cond rfl (fun hc112 => ?_) (fun hc112 => ?_)
                                            ·
                                              first
                                              | (exfalso; revert hc112; decide)
                                              | (exfalso; omega)
                                              | skip
                                                refine r_seq ?_
                                                have hck := check_2 hg hfr (by omega) (fun h => absurd (htw.2 h) (by rw [hc96]; decide)) (by omega)
                                                refine r_region ?_
                                                refine o_q _ rfl rfl rfl (v_move rfl rfl) ?_
                                                first | refine o_q _ rfl rfl rfl (v_true (v_eql rfl rfl rfl) (by omega)) ?_ | refine o_q _ rfl rfl rfl (v_false (v_eql rfl rfl rfl) (by omega)) ?_ | refine o_test rfl rfl rfl (v_eql rfl rfl rfl) (fun h117 => ?_) (fun h117 => ?_)
                                                all_goals
                                                  refine o_q _ rfl rfl rfl (v_move rfl rfl) ?_
                                                  first | refine o_gn rfl rfl rfl rfl ?_ | refine o_g _ rfl rfl rfl rfl (v_move rfl rfl) ?_
                                                  first | refine o_gn rfl rfl rfl rfl ?_ | refine o_g _ rfl rfl rfl rfl (v_move rfl rfl) ?_
                                                  first | refine o_gn rfl rfl rfl rfl ?_ | refine o_g _ rfl rfl rfl rfl (v_true (v_eql rfl rfl rfl) (by omega)) ?_ | refine o_g _ rfl rfl rfl rfl (v_false (v_eql rfl rfl rfl) (by omega)) ?_ | refine o_gtest rfl rfl rfl rfl (v_eql rfl rfl rfl) (fun h121 => ?_) (fun h121 => ?_)
                                                  all_goals
                                                    first | refine o_q _ rfl rfl rfl (v_pick_t rfl rfl rfl) ?_ | refine o_q _ rfl rfl rfl (v_pick_f rfl rfl rfl) ?_
                                                    refine o_q _ rfl rfl rfl (v_move rfl rfl) ?_
                                                    first | refine o_gn rfl rfl rfl rfl ?_ | refine o_g _ rfl rfl rfl rfl (v_move rfl rfl) ?_
                                                    first | refine o_gn rfl rfl rfl rfl ?_ | refine o_g _ rfl rfl rfl rfl (v_true (v_eql rfl rfl rfl) (by omega)) ?_ | refine o_g _ rfl rfl rfl rfl (v_false (v_eql rfl rfl rfl) (by omega)) ?_ | refine o_gtest rfl rfl rfl rfl (v_eql rfl rfl rfl) (fun h125 => ?_) (fun h125 => ?_)
                                                    all_goals
                                                      first | refine o_q _ rfl rfl rfl (v_pick_t rfl rfl rfl) ?_ | refine o_q _ rfl rfl rfl (v_pick_f rfl rfl rfl) ?_
                                                      refine o_q _ rfl rfl rfl (v_move rfl rfl) ?_
                                                      first | refine o_gn rfl rfl rfl rfl ?_ | refine o_g _ rfl rfl rfl rfl (OpQ.fn awake_v rfl rfl SubRC.sub) ?_
                                                      first | refine o_q _ rfl rfl rfl (v_pick_t rfl rfl rfl) ?_ | refine o_q _ rfl rfl rfl (v_pick_f rfl rfl rfl) ?_
                                                      refine o_q _ rfl rfl rfl (v_assign rfl rfl) ?_
                                                      refine o_nil ?_
                                                      repeat (first | with_reducible refine r_then ?_ | with_reducible refine r_in_normal ?_ | with_reducible refine r_sc_normal ?_)
                                                      refine r_ret ?_
                                                      repeat (first | with_reducible refine r_then_ret ?_ | with_reducible refine r_in_ret ?_ | with_reducible refine r_sc_ret ?_)
                                                      first | exact r_retv2 (Rd.tmp rfl rfl) rfl SelMC.sel SubRC.sub | (exfalso; omega)
                                            ·
                                              first
                                              | (exfalso; revert hc112; decide)
                                              | (exfalso; omega)
                                              | skip
                                                refine r_skip ?_
                                                repeat (first | with_reducible refine r_then ?_ | with_reducible refine r_in_normal ?_ | with_reducible refine r_sc_normal ?_)
                                                refine r_region ?_
                                                refine o_q _ rfl rfl rfl (v_add rfl rfl rfl (by omega)) ?_
                                                refine o_q _ rfl rfl rfl (v_move rfl rfl) ?_
                                                refine o_nil ?_
                                                repeat (first | with_reducible refine r_then ?_ | with_reducible refine r_in_normal ?_ | with_reducible refine r_sc_normal ?_)
                                                refine r_next (k + 1) ?_ ?_ ?_
                                                ·
                                                  exact r_here (by repeat (first | exact FSub.nil | refine FSub.cons rfl ?_)) SelMC.sel SubRC.sub
                                                ·
                                                  exact ⟨by omega, firstR_n hfr (rule_0 (fun h => absurd (htw.2 h) (by rw [hc96]; decide)) (by omega))⟩
                                                ·
                                                  omega
                          ·
                            first
                            | (exfalso; revert hc56; decide)
                            | (exfalso; omega)
                            | skip
                              refine r_exit ?_
                              repeat (first | with_reducible refine r_then_exit ?_ | with_reducible refine r_sc_exit ?_ | with_reducible refine r_in_here ?_ | (with_reducible refine r_in_past (by decide) ?_) | with_reducible refine r_then ?_ | with_reducible refine r_in_normal ?_ | with_reducible refine r_sc_normal ?_)
                              refine r_seq ?_
                              have hck := check_none hg (by rw [show D.paid.length = k by omega]; exact hfr)
                              have hck2 : (checkB D).2 = 4 := by rw [hck]
                              refine r_region ?_
                              refine o_q _ rfl rfl rfl (v_move rfl rfl) ?_
                              first | refine o_q _ rfl rfl rfl (v_true (v_eql rfl rfl rfl) (by omega)) ?_ | refine o_q _ rfl rfl rfl (v_false (v_eql rfl rfl rfl) (by omega)) ?_ | refine o_test rfl rfl rfl (v_eql rfl rfl rfl) (fun h132 => ?_) (fun h132 => ?_)
                              all_goals
                                refine o_q _ rfl rfl rfl (v_move rfl rfl) ?_
                                first | refine o_gn rfl rfl rfl rfl ?_ | refine o_g _ rfl rfl rfl rfl (OpQ.fn awake_v rfl rfl SubRC.sub) ?_
                                first | refine o_q _ rfl rfl rfl (v_pick_t rfl rfl rfl) ?_ | refine o_q _ rfl rfl rfl (v_pick_f rfl rfl rfl) ?_
                                refine o_q _ rfl rfl rfl (v_assign rfl rfl) ?_
                                refine o_nil ?_
                                repeat (first | with_reducible refine r_then ?_ | with_reducible refine r_in_normal ?_ | with_reducible refine r_sc_normal ?_)
                                refine r_ret ?_
                                repeat (first | with_reducible refine r_then_ret ?_ | with_reducible refine r_in_ret ?_ | with_reducible refine r_sc_ret ?_)
                                first | exact r_retv2 (Rd.tmp rfl rfl) rfl SelMC.sel SubRC.sub | (exfalso; omega)
theorem checks_v (hpc : D.paid.length ≤ pc) : FnV Tryd.prog 9 [valD D uo po uc pc] [rowD uo 5 encD D.dues, rowD po 4 encP D.paid, rowD (some ⟨0, 0, none⟩) 1 encE ([0, 1] : List Nat)] (.bool true) := by
  by_cases h : ¬ farD D ∧ GoodD D
  · exact checks_ok D uo po uc pc hpc h.1 h.2
  · exact checks_not D uo po uc pc h
end Go.Proofs.YtpfgiednfjfdmaaDoor


namespace Go.Proofs.YtpfgiednfjfdmaaDoor
open Go.G Debt10
def encH (n : Int) : List Value := [.int .u16 n]
def U16s (l : List Int) : Prop := ∀ y, y ∈ l → 0 ≤ y ∧ y ≤ 65535
set_option maxRecDepth 1000000
section
variable {H : Type} {en : TypeId × Value → H} {w : World} {base : Nat} {sp : Nat → Bool} {held : Bool} {fuel : Nat} {cs : List Value} {x : DataW H × List MemPlace}
theorem cells22 : Tryd.prog.cellsOf 22 = 1 := by kernel_rfl
theorem cells23 : Tryd.prog.cellsOf 23 = 1 := by kernel_rfl
theorem cells25 : Tryd.prog.cellsOf 25 = 3 := by kernel_rfl
theorem cells29 : Tryd.prog.cellsOf 29 = 2 := by kernel_rfl
theorem cells54 : Tryd.prog.cellsOf 54 = 4 := by kernel_rfl
theorem cells62 : Tryd.prog.cellsOf 62 = 5 := by kernel_rfl
theorem cellsI : Tryd.prog.cellsOf 3 = 1 := by kernel_rfl
theorem open3 (h : DataW.trod en Tryd.prog w base sp held fuel 3 cs = some x) : ∃ n, cs = [i64 n] ∧ (-9223372036854775808 ≤ n ∧ n ≤ 9223372036854775807) := by
  obtain ⟨n, h1, h2⟩ := open_i Tryd.underlying3 h
  refine ⟨n, h1, ?_⟩
  have m1 : IntKind.i64.min = -9223372036854775808 := rfl
  have m2 : IntKind.i64.max = 9223372036854775807 := rfl
  simp only [Lit.wf, m1, m2, Bool.and_eq_true, decide_eq_true_eq] at h2
  exact h2
theorem list2 {cs : List Value} (h : cs.length = 2) : ∃ a b, cs = [a, b] := by
  match cs, h with
  | [a, b], _ => exact ⟨a, b, rfl⟩
theorem list3 {cs : List Value} (h : cs.length = 3) : ∃ a b c, cs = [a, b, c] := by
  match cs, h with
  | [a, b, c], _ => exact ⟨a, b, c, rfl⟩
theorem list4 {cs : List Value} (h : cs.length = 4) : ∃ a b c d, cs = [a, b, c, d] := by
  match cs, h with
  | [a, b, c, d], _ => exact ⟨a, b, c, d, rfl⟩
theorem list5 {cs : List Value} (h : cs.length = 5) : ∃ a b c d e, cs = [a, b, c, d, e] := by
  match cs, h with
  | [a, b, c, d, e], _ => exact ⟨a, b, c, d, e, rfl⟩
theorem open29 (h : DataW.trod en Tryd.prog w base sp held fuel 29 cs = some x) : ∃ s : Debt10.Span, cs = encS s ∧ True := by
  obtain ⟨a, b, rfl⟩ := list2 ((open_len Tryd.underlying29 h).trans cells29)
  obtain ⟨_, _, h0⟩ := open_field Tryd.underlying29 h 0 rfl cellsI
  obtain ⟨_, _, h1⟩ := open_field Tryd.underlying29 h 1 rfl cellsI
  obtain ⟨n, e0, _⟩ := open3 h0
  obtain ⟨m, e1, _⟩ := open3 h1
  have e0' : [a] = [i64 n] := e0
  have e1' : [b] = [i64 m] := e1
  cases e0'; cases e1'
  exact ⟨⟨n, m⟩, rfl, trivial⟩
theorem open62 (h : DataW.trod en Tryd.prog w base sp held fuel 62 cs = some x) : ∃ s : Due, cs = encD s ∧ True := by
  obtain ⟨a, b, c, d, e, rfl⟩ := list5 ((open_len Tryd.underlying62 h).trans cells62)
  obtain ⟨_, _, h0⟩ := open_field Tryd.underlying62 h 0 rfl cellsI
  obtain ⟨_, _, h1⟩ := open_field Tryd.underlying62 h 1 rfl cellsI
  obtain ⟨_, _, h2⟩ := open_field Tryd.underlying62 h 2 rfl cells29
  obtain ⟨_, _, h3⟩ := open_field Tryd.underlying62 h 3 rfl cellsI
  obtain ⟨n, e0, _⟩ := open3 h0
  obtain ⟨m, e1, _⟩ := open3 h1
  obtain ⟨t, e2, _⟩ := open29 h2
  obtain ⟨k, e3, _⟩ := open3 h3
  have e0' : [a] = [i64 n] := e0
  have e1' : [b] = [i64 m] := e1
  have e2' : [c, d] = [i64 t.lo, i64 t.hi] := e2
  have e3' : [e] = [i64 k] := e3
  cases e0'; cases e1'; cases e2'; cases e3'
  exact ⟨⟨n, m, t, k⟩, rfl, trivial⟩
theorem open54 (h : DataW.trod en Tryd.prog w base sp held fuel 54 cs = some x) : ∃ s : Paid, cs = encP s ∧ True := by
  obtain ⟨a, b, c, d, rfl⟩ := list4 ((open_len Tryd.underlying54 h).trans cells54)
  obtain ⟨_, _, h0⟩ := open_field Tryd.underlying54 h 0 rfl cellsI
  obtain ⟨_, _, h1⟩ := open_field Tryd.underlying54 h 1 rfl cellsI
  obtain ⟨_, _, h2⟩ := open_field Tryd.underlying54 h 2 rfl cells29
  obtain ⟨n, e0, _⟩ := open3 h0
  obtain ⟨m, e1, _⟩ := open3 h1
  obtain ⟨t, e2, _⟩ := open29 h2
  have e0' : [a] = [i64 n] := e0
  have e1' : [b] = [i64 m] := e1
  have e2' : [c, d] = [i64 t.lo, i64 t.hi] := e2
  cases e0'; cases e1'; cases e2'
  exact ⟨⟨n, m, t⟩, rfl, trivial⟩
theorem open25 (h : DataW.trod en Tryd.prog w base sp held fuel 25 cs = some x) : ∃ D uo po uc pc, cs = cellsD D uo po uc pc ∧ rowD uo 5 encD D.dues (full w) ∧ rowD po 4 encP D.paid (full w) := by
  obtain ⟨a, b, c, rfl⟩ := list3 ((open_len Tryd.underlying25 h).trans cells25)
  obtain ⟨_, _, h0⟩ := open_field Tryd.underlying25 h 0 rfl cellsI
  obtain ⟨_, _, h1⟩ := open_field Tryd.underlying25 h 1 rfl cells22
  obtain ⟨_, _, h2⟩ := open_field Tryd.underlying25 h 2 rfl cells23
  obtain ⟨n, e0, _⟩ := open3 h0
  obtain ⟨uo, uc, dues, e1, r1, _, _⟩ := open_rowD (fun _ : Due => True) Tryd.underlying22 cells62 (by omega) (fun _ _ _ h => open62 h) h1
  obtain ⟨po, pc, paid, e2, r2, _, _⟩ := open_rowD (fun _ : Paid => True) Tryd.underlying23 cells54 (by omega) (fun _ _ _ h => open54 h) h2
  have e0' : [a] = [i64 n] := e0
  have e1' : [b] = [.slice uo dues.length uc] := e1
  have e2' : [c] = [.slice po paid.length pc] := e2
  cases e0'; cases e1'; cases e2'
  exact ⟨⟨n, dues, paid⟩, uo, po, uc, pc, rfl, r1, r2⟩
end
section
variable {H : Type} {en : TypeId × Value → H} {w : World} {base b0 : Nat} {r : Reach} {sp : Nat → Bool} {held : Bool} {v : Value} {d : DataW H} {ps : List MemPlace}
theorem agg_of {t : TypeId} {dd : TypeDesc} (hd : Tryd.prog.underlying t = some dd) (ha : aggD dd = true) (hv : Value.okWide Tryd.prog w r b0 t v) : ∃ cs : List Value, v = .agg cs.toArray := by
  unfold Value.okWide at hv
  rw [hd] at hv
  cases dd <;> simp [aggD] at ha
  all_goals
    obtain ⟨cs, rfl, _⟩ := hv
    exact ⟨cs.toList, by simp⟩
theorem get25 (hv : Value.okWide Tryd.prog w r b0 25 v) (h : DataW.Trod en Tryd.prog w base sp held 25 v d ps) : ∃ D uo po uc pc, v = valD D uo po uc pc ∧ rowD uo 5 encD D.dues (full w) ∧ rowD po 4 encP D.paid (full w) := by
  obtain ⟨cs, rfl⟩ := agg_of Tryd.underlying25 rfl hv
  obtain ⟨fuel, h⟩ := h
  obtain ⟨D, uo, po, uc, pc, e, h1, h2⟩ := open25 (cs := cs) h
  subst e
  exact ⟨D, uo, po, uc, pc, rfl, h1, h2⟩
theorem cap_of {t e : TypeId} {oa : Option Addr} {l c fuel : Nat} {x : DataW H × List MemPlace} (ht : Tryd.prog.underlying t = some (.slice e)) (h : DataW.trod en Tryd.prog w base sp held fuel t [.slice oa l c] = some x) : l ≤ c := by
  cases fuel with
  | zero => simp [DataW.trod] at h
  | succ m =>
    unfold DataW.trod at h
    rw [ht] at h
    cases oa with
    | none =>
      cases l with
      | zero => omega
      | succ l => simp at h
    | some a =>
      dsimp only at h
      split at h
      · rename_i hc; exact hc.2.1
      · cases h
theorem get25c (hv : Value.okWide Tryd.prog w r b0 25 v) (h : DataW.Trod en Tryd.prog w base sp held 25 v d ps) : ∃ D uo po uc pc, v = valD D uo po uc pc ∧ rowD uo 5 encD D.dues (full w) ∧ rowD po 4 encP D.paid (full w) ∧ D.paid.length ≤ pc := by
  obtain ⟨D, uo, po, uc, pc, rfl, h1, h2⟩ := get25 hv h
  obtain ⟨fuel, h⟩ := h
  obtain ⟨_, _, h3⟩ := open_field (cs := cellsD D uo po uc pc) Tryd.underlying25 h 2 rfl cells23
  exact ⟨D, uo, po, uc, pc, rfl, h1, h2, cap_of Tryd.underlying23 h3⟩
end
theorem own0 : ownKnob Tryd.prog.godebug = none := by kernel_rfl
theorem monoR {W : World} {α : Type} {oa : Option Addr} {sz : Nat} {enc : α → List Value} {xs : List α} {R : List Fact} (h : rowD oa sz enc xs (full W)) (hR : ∀ φ ∈ R, Mono φ ∧ φ (full W)) : ∀ φ ∈ rowD oa sz enc xs :: R, Mono φ ∧ φ (full W) := by
  intro φ hφ
  rcases List.mem_cons.1 hφ with rfl | hφ
  · exact ⟨Mono.row _ _ _ _, h⟩
  · exact hR φ hφ
theorem mono0 {W : World} : ∀ φ ∈ ([] : List Fact), Mono φ ∧ φ (full W) := fun _ h => by cases h
/-! ### what is laid -/
abbrev laidL : List (String × DataW Unit) := [("bogworks/debt.ends", Rows.laid_bogworks_debt_ends)]
theorem typeName_named {P : Program} {nm : String} {tp : TypeId} (hrows : ((List.range P.types.size).all fun u => P.typeName? 3 u != some nm || u == tp) = true) (hstar : nm.toList.head? ≠ some '*') (u : TypeId) (hu : P.typeName? 3 u = some nm) : u = tp := by
  by_cases hlt : u < P.types.size
  · have := List.all_eq_true.1 hrows u (List.mem_range.2 hlt)
    simpa [hu] using this
  · exfalso
    unfold Program.typeName? at hu
    cases hi : P.info? u with
    | none => simp [hi] at hu
    | some i =>
      have hb := Tables.info?_beyond hlt hi
      simp only [hi] at hu
      cases hd : i.desc <;> simp only [hd, TypeDesc.tableOnly] at hu hb <;> try cases hb
      all_goals try cases hu
      simp only [Option.map_eq_some_iff] at hu
      obtain ⟨n', hn', hs⟩ := hu
      apply hstar
      rw [← hs]
      simp [String.toList_append]
theorem name_good {u : TypeId} (h : Tryd.prog.typeName? 3 u = some "bogworks/debt.good") : u = 182 := typeName_named (by kernel_rfl) (by decide) u h
theorem name_bad {u : TypeId} (h : Tryd.prog.typeName? 3 u = some "bogworks/debt.bad") : u = 184 := typeName_named (by kernel_rfl) (by decide) u h
theorem cells_nil {v : Value} (h : v.cells.toList.length = 0) : v = .agg #[] := by
  cases v with
  | agg cs =>
    have : cs.toList = [] := List.length_eq_zero_iff.1 h
    rw [show cs = #[] from Array.toList_inj.1 this]
  | _ => simp [Value.cells] at h
theorem iface_of {w : World} {sp : Nat → Bool} {fuel : Nat} {c : Value} {nm : String} {d : DataW Unit} {p : List MemPlace} (h : DataW.trod (fun _ => ()) Tryd.prog w 0 sp false fuel 141 [c] = some (.iface nm d, p)) : ∃ u v m, c = .iface u v ∧ Tryd.prog.typeName? 3 u = some nm ∧ ∃ q, DataW.trod (fun _ => ()) Tryd.prog w 0 sp false m u v.cells.toList = some (d, q) := by
  cases fuel with
  | zero => simp [DataW.trod] at h
  | succ m =>
    unfold DataW.trod at h
    rw [Tryd.underlying141] at h
    cases c with
    | iface u v =>
      dsimp only at h
      cases hn : Tryd.prog.typeName? 3 u with
      | none => rw [hn] at h; cases h
      | some name =>
        rw [hn] at h
        dsimp only at h
        cases ht : DataW.trod (fun _ => ()) Tryd.prog w 0 sp false m u v.cells.toList with
        | none => rw [ht] at h; cases h
        | some y =>
          rw [ht] at h
          simp only [Option.map_some, Option.some.injEq, Prod.mk.injEq, DataW.iface.injEq] at h
          obtain ⟨⟨rfl, rfl⟩, rfl⟩ := h
          exact ⟨u, v, m, rfl, hn, _, ht⟩
    | _ => simp at h
theorem ends_cells {W : World} (h : laidMetH Tryd.prog laidL W) : W.cell? ⟨0, 0, none⟩ = some (endV 0) ∧ W.cell? ⟨0, 1, none⟩ = some (endV 1) ∧ ∃ c t, W.heap[0]? = some (.cells c t (0, 0)) := by
  rw [MakeChecks.laidMetH_plain _ _ _ (by kernel_rfl)] at h
  obtain ⟨ps, ⟨g, t, cs, fuel, p, q, hg, ht, hv, hd, hq, hps⟩, _, hfr⟩ := h
  obtain rfl := Option.some.inj ((show Tryd.prog.globalNamed "bogworks/debt.ends" = some 0 by kernel_rfl).symm.trans hg)
  obtain rfl := Option.some.inj ((show (Tryd.prog.globals[0]?).map (·.type) = some 142 by kernel_rfl).symm.trans ht)
  obtain ⟨xs, m, _, ex, hlc, hl, hel⟩ := DataW.trod_array Tryd.underlying142 hd
  have c141 : Tryd.prog.cellsOf 141 = 1 := by kernel_rfl
  have c142 : Tryd.prog.cellsOf 142 = 2 := by kernel_rfl
  obtain ⟨a, b, hab⟩ := list2 (hlc.trans c142)
  obtain ⟨x0, x1, rfl⟩ : ∃ x0 x1, xs = [x0, x1] := by
    match xs, hl with
    | [x0, x1], _ => exact ⟨x0, x1, rfl⟩
  have e0 := hel 0 (by decide)
  have e1 := hel 1 (by decide)
  rw [c141, hab] at e0 e1
  have f0 : DataW.trod (fun _ => ()) Tryd.prog W 0 (fun _ => true) false m 141 [a] = some x0 := e0
  have f1 : DataW.trod (fun _ => ()) Tryd.prog W 0 (fun _ => true) false m 141 [b] = some x1 := e1
  clear e0 e1
  have hx := (Prod.mk.inj ex).1
  have hx : ([.iface "bogworks/debt.good" (.agg []), .iface "bogworks/debt.bad" (.agg [.agg []])] : List (DataW Unit)) = [x0.1, x1.1] := DataW.agg.inj hx
  obtain ⟨hx0, hx1⟩ := List.cons.inj hx
  have hx1 := (List.cons.inj hx1).1
  obtain ⟨u0, v0, m0, rfl, n0, q0, t0⟩ := iface_of (d := .agg []) (nm := "bogworks/debt.good") (p := x0.2) (f0.trans (by rw [hx0]))
  obtain ⟨u1, v1, m1, rfl, n1, q1, t1⟩ := iface_of (d := .agg [.agg []]) (nm := "bogworks/debt.bad") (p := x1.2) (f1.trans (by rw [hx1]))
  obtain rfl := name_good n0
  obtain rfl := name_bad n1
  have c182 : Tryd.prog.cellsOf 182 = 0 := by kernel_rfl
  have c184 : Tryd.prog.cellsOf 184 = 0 := by kernel_rfl
  obtain rfl := cells_nil ((open_len Tryd.underlying182 t0).trans c182)
  obtain rfl := cells_nil ((open_len Tryd.underlying184 t1).trans c184)
  have hcell := fun k => World.var?_cell hg hv k
  have hcs : cs = #[.iface 182 (.agg #[]), .iface 184 (.agg #[])] := Array.toList_inj.1 (by rw [hab])
  refine ⟨?_, ?_, ?_⟩
  · rw [hcell 0, hcs]; rfl
  · rw [hcell 1, hcs]; rfl
  · refine (hfr 0 0 ?_).1
    rw [hps, hcs]
    simp [MemPlace.row]
theorem ends_row {W : World} (h : laidMetH Tryd.prog laidL W) : rowD (some ⟨0, 0, none⟩) 1 encE ([0, 1] : List Nat) (full W) := by
  obtain ⟨h0, h1, c, t, hc⟩ := ends_cells h
  refine .inr ⟨0, 0, c, t, (0, 0), rfl, hc, fun i j hi hj => ?_⟩
  have hat : ∀ k, W.cell? ⟨0, k, none⟩ = c[k]? := fun k => by unfold World.cell?; rw [hc]; rfl
  obtain rfl : j = 0 := by omega
  have hi' : i < 2 := hi
  obtain rfl | rfl : i = 0 ∨ i = 1 := by omega
  · rw [← hat]; exact h0
  · rw [← hat]; exact h1
end Go.Proofs.YtpfgiednfjfdmaaDoor

