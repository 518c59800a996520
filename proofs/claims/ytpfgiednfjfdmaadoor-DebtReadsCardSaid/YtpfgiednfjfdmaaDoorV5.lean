/- Part 5 of 5 of what the proofs of this seat stand on: a small logic for walks, what the functions come to, and the walks themselves. No condition of its own. -/
import Derived.Test.YtpfgiednfjfdmaaDoorV4
import Derived.Test.YtpfgiednfjfdmaaDoorV3
set_option linter.unusedVariables false
set_option linter.unusedSimpArgs false
set_option linter.unusedSectionVars false
namespace Go.G
variable {P : Program} {W : World} {n : Nat} {D : List Deferred} {L : Tm} {M : List Res} {R : List Fact} {Q : Exit → Act → World → Prop} {o : Oper} {Z : World → Prop} {en : Nat}
/-- All orders; and at each step, as long as one is not carried out, something stays so. -/
def wpAnyE (en : Nat) (Z : World → Prop) (P : Program) (ops : Array Oper) (Q : Exit → Act → World → Prop) : Nat → Array Bool → Act → World → Prop
  | 0, listed, a, w => (listed.getD en false = false → Z w) ∧ Region.ready .any ops listed = [] ∧ Q .normal a w
  | fuel + 1, listed, a, w => (listed.getD en false = false → Z w) ∧ (Region.ready .any ops listed = [] → Q .normal a w) ∧ ∀ i ∈ Region.ready .any ops listed, wpOp P ops Q i (wpAnyE en Z P ops Q fuel (listed.setIfInBounds i true)) a w
theorem wpAnyE.any {ops : Array Oper} : ∀ {fuel : Nat} {listed : Array Bool} {a : Act} {w : World}, wpAnyE en Z P ops Q fuel listed a w → wpAny P .any ops Q fuel listed a w
  | 0, _, _, _, h => h.2
  | _ + 1, _, _, _, h => ⟨h.2.1, fun i hi => wpOp_mono (fun _ _ h' => h'.any) (h.2.2 i hi)⟩
def waitsE (fl : List Nat) (l : List Oper) (en : Nat) : Bool := match l[en]? with | some o => fl.all fun i => o.after.any fun ed => Region.binds .any ed && Nat.beq ed.on i | none => false
theorem waitsE_sound {fl : List Nat} {l : List Oper} (h : waitsE fl l en = true) : ∀ i ∈ fl, ∀ oe, l[en]? = some oe → ∃ ed ∈ oe.after, Region.binds .any ed = true ∧ ed.on = i := fun i hi oe ho => by
  unfold waitsE at h
  rw [ho] at h
  have h1 := List.all_eq_true.1 h i hi
  obtain ⟨ed, h2, h3⟩ := Array.any_eq_true'.1 h1
  simp only [Bool.and_eq_true] at h3
  exact ⟨ed, h2, h3.1, Nat.eq_of_beq_eq_true h3.2⟩
theorem wpAnyE_first {ops : Array Oper} {i : Nat} {oi : Oper} {v : Value} (hi : ops[i]? = some oi) (hsel : ∀ (j : Nat) (o : Oper) cs b, ops[j]? = some o → o.op ≠ .select cs b) (hie : i ≠ en) (hwt : ∀ oe, ops[en]? = some oe → ∃ ed ∈ oe.after, Region.binds .any ed = true ∧ ed.on = i) :
    ∀ (fuel : Nat) (listed : Array Bool) (a : Act) (w : World),
      (∀ j oj, ops[j]? = some oj → j ≠ i → listed.getD j true = false → (∀ e ∈ oj.after, Region.binds .any e = true → e.on ≠ i) → oi.apart ops oj = true) →
      i ∈ Region.ready .any ops listed → listed.getD en false = false → YieldsZ Z P ops oi v a →
      wpAnyE en Z P ops (NoP Q) fuel (listed.setIfInBounds i true) (a.put oi.dst v) w → wpAnyE en Z P ops (NoP Q) (fuel + 1) listed a w := by
  intro fuel
  induction fuel with
  | zero =>
    intro listed a w _ hr hel hy H
    have hz : Z w := H.1 (by rw [getD_set_ne false hie]; exact hel)
    refine ⟨fun _ => hz, fun h => (by rw [h] at hr; cases hr), fun j hj => ?_⟩
    by_cases hji : j = i
    · subst hji; exact hy.wpOp hi hz H
    · have := ready_mono hj hji
      rw [H.2.1] at this
      cases this
  | succ fuel ih =>
    intro listed a w hfree hr hel hy H
    have hz : Z w := H.1 (by rw [getD_set_ne false hie]; exact hel)
    refine ⟨fun _ => hz, fun h => (by rw [h] at hr; cases hr), fun j hj => ?_⟩
    by_cases hji : j = i
    · subst hji; exact hy.wpOp hi hz H
    · have h1 := H.2.2 j (ready_mono hj hji)
      obtain ⟨hjun, oj, hoj, hall⟩ := mem_ready.1 hj
      have hnot : ∀ e ∈ oj.after, Region.binds .any e = true → e.on ≠ i := fun e he hb heq => by
        have g1 := hall e he hb
        have g0 := (mem_ready.1 hr).1
        rw [heq] at g1
        rw [getD_both g0] at g1; cases g1
      have hjne : j ≠ en := fun e => by
        subst e
        obtain ⟨ed, h5, h6, h7⟩ := hwt oj hoj
        exact hnot ed h5 h6 h7
      have h2 := wpOpZ_put hoj (hfree j oj hoj hji hjun hnot) (fun cs b => hsel i oi cs b hi) (fun cs b => hsel j oj cs b hoj) hy h1
      refine wpOp_mono (fun a' w' h3 => ih (listed.setIfInBounds j true) a' w' (fun k ok hk hki hun hno => ?_) (ready_mono hr (Ne.symm hji)) (by rw [getD_set_ne false hjne]; exact hel) h3.1 ?_) h2
      · refine hfree k ok hk hki ?_ hno
        by_cases hjk : j = k
        · subst hjk; exact hjun
        · rw [getD_set_ne true hjk] at hun; exact hun
      · rw [Array.setIfInBounds_comm _ _ hji]
        exact h3.2
/-- A tail, in its order, and ahead of each step something stays so. -/
def wpListE (Z : World → Prop) (P : Program) (ops : Array Oper) (Q : Exit → Act → World → Prop) : List Oper → Act → World → Prop
  | [], a, w => Q .normal a w
  | o :: rest, a, w => Z w ∧ if Region.wanted o (yielded ops a.tmps) then o.wp P a w (wpListE Z P ops Q rest) Q ∨ (o.asks P a w ∧ LetsOut Q) else wpListE Z P ops Q rest (a.put o.dst undef) w
theorem oe_nil {ops : Array Oper} (h : Imp W n D L M R (Q .normal)) : Imp W n D L M R (wpListE Z P ops Q []) := h
theorem oe_lift {ops : Array Oper} {rest : List Oper} (hz : ∀ w, St W M R w → Z w) (h : Imp W n D L M R (wpList P ops (Exit.then (wpListE Z P ops (NoP Q) rest) (NoP Q)) [o])) : Imp W n D L M R (wpListE Z P ops (NoP Q) (o :: rest)) := by
  intro a w h1 h2 h3
  refine ⟨hz w h3, ?_⟩
  have := h a w h1 h2 h3
  unfold wpList at this
  split
  · rename_i hw
    rw [if_pos hw] at this
    rcases this with h' | ⟨_, a0, w0, h'⟩
    · refine .inl ?_
      unfold Oper.wp at *
      generalize (execOp a.eval o).run P w = r at h'
      unfold Oper.upon at h' ⊢
      split at h'
      · exact h'
      · exact h'
      · exact h'
      · refine Calls.mono h' fun e w'' he => ?_
        cases e with
        | returned u => exact he
        | panicked c => exact he.elim
        | outgrown => obtain ⟨a1, w1, hx⟩ := he; exact hx.elim
      · exact h'
      · exact h'.elim
      · exact h'.elim
    · exact h'.elim
  · rename_i hw
    rw [if_neg hw] at this
    exact this
theorem wpAnyE_tail {ops : Array Oper} (hb : backB ops.toList = true) (hen : en < ops.size) : ∀ (k t fuel : Nat) (listed : Array Bool) (a : Act) (w : World), t + k = ops.size → k ≤ fuel → listed.size = ops.size → Closed ops listed →
    (∀ i, i < t → listed.getD i false = true) → (∀ i, t ≤ i → i < ops.size → listed.getD i true = false) →
    (∀ listed', Closed ops listed' → ∀ i o, t ≤ i → ops[i]? = some o → (∀ e ∈ o.after, Region.binds .any e = true → listed'.getD e.on false = true) → ∀ j, j < i → listed'.getD j false = true) →
    wpListE Z P ops Q (ops.toList.drop t) a w → wpAnyE en Z P ops Q fuel listed a w := by
  intro k
  induction k with
  | zero =>
    intro t fuel listed a w htk _ hsz _ hl _ _ h
    have hdrop : ops.toList.drop t = [] := List.drop_eq_nil_of_le (by simp; omega)
    rw [hdrop] at h
    have hready : Region.ready .any ops listed = [] := by
      apply List.eq_nil_iff_forall_not_mem.2
      intro i hi
      obtain ⟨h0, o, ho, _⟩ := mem_ready.1 hi
      have hlt := (Array.getElem?_eq_some_iff.1 ho).1
      have := hl i (by omega)
      rw [getD_both h0] at this; cases this
    cases fuel with
    | zero => exact ⟨fun he => (by have := hl en (by omega); rw [this] at he; cases he), hready, h⟩
    | succ f => exact ⟨fun he => (by have := hl en (by omega); rw [this] at he; cases he), fun _ => h, fun i hi => by rw [hready] at hi; cases hi⟩
  | succ k ih =>
    intro t fuel listed a w htk hkf hsz hcl hl hu hm h
    have ht : t < ops.size := by omega
    obtain ⟨fuel, rfl⟩ : ∃ f, fuel = f + 1 := ⟨fuel - 1, by omega⟩
    have hot : ops[t]? = some ops[t] := Array.getElem?_eq_getElem ht
    have hback : ∀ i o, ops[i]? = some o → ∀ e ∈ o.after, Region.binds .any e = true → e.on < i := by
      intro i o ho e he hbi
      have hlt := (Array.getElem?_eq_some_iff.1 ho).1
      have := List.all_eq_true.1 hb i (List.mem_range.2 (by simpa using hlt))
      rw [show ops.toList[i]? = some o from by simpa using ho] at this
      have := Array.all_eq_true_iff_forall_mem.1 this e he
      simpa [hbi] using this
    have htr : t ∈ Region.ready .any ops listed := mem_ready.2 ⟨hu t (Nat.le_refl _) ht, _, hot, fun e he hbi => hl _ (hback t _ hot e he hbi)⟩
    have hz : Z w := by
      have ht2 : t < ops.toList.length := by simpa using ht
      rw [List.drop_eq_getElem_cons ht2] at h; exact h.1
    refine ⟨fun _ => hz, fun h0 => (by rw [h0] at htr; cases htr), fun i hi => ?_⟩
    obtain ⟨h0, o, ho, hp⟩ := mem_ready.1 hi
    have hlt := (Array.getElem?_eq_some_iff.1 ho).1
    have hge : t ≤ i := by
      rcases Nat.lt_or_ge i t with h' | h'
      · have := hl i h'; rw [getD_both h0] at this; cases this
      · exact h'
    have hit : i = t := by
      rcases Nat.lt_or_ge t i with h' | h'
      · have := hm listed hcl i o hge ho hp t h'
        rw [getD_both (hu t (Nat.le_refl _) ht)] at this; cases this
      · omega
    subst hit
    have hoi : o = ops[i] := Option.some.inj (ho.symm.trans hot)
    have hdrop : ops.toList.drop i = o :: ops.toList.drop (i + 1) := by
      rw [List.drop_eq_getElem_cons (by simpa using ht)]; simp [hoi]
    rw [hdrop] at h
    have hcl' : Closed ops (listed.setIfInBounds i true) := by
      intro j oj hj hlj e he hbi
      by_cases hij : i = j
      · subst hij
        have : oj = o := Option.some.inj (hj.symm.trans ho)
        subst this
        exact getD_set_true (hp e he hbi)
      · rw [getD_set_ne false hij] at hlj
        exact getD_set_true (hcl j oj hj hlj e he hbi)
    have hih := fun a w => ih (i + 1) fuel (listed.setIfInBounds i true) a w (by omega) (by omega) (by simp [hsz]) hcl'
      (fun j hj => by
        by_cases hij : i = j
        · subst hij; simp [hsz, ht]
        · rw [getD_set_ne false hij]; exact hl j (by omega))
      (fun j hj hj' => by rw [getD_set_ne true (by omega)]; exact hu j (by omega) hj')
      (fun l' hc' j oj hj => hm l' hc' j oj (by omega))
    unfold wpOp
    simp only [ho]
    unfold wpListE at h
    replace h := h.2
    split
    · rename_i hw
      rw [if_pos hw] at h
      exact h.imp (Oper.wp_mono fun a w => hih a w) id
    · rename_i hw
      rw [if_neg hw] at h
      exact hih _ _ h
theorem parE_any {free tail : List Oper} {ss : List Spc} (hZ : ∀ X F w, St W (X ++ M) (F ++ R) w → Z w) (hen : en < (free ++ tail).length) (hpb : parB free tail = true) (hl : ss.length = free.length) (hfr : ∀ o ∈ free, look L (o.dst.getD 1000000) = none) (hL : LateOK (free ++ tail).toArray ss) (hab : ∀ (i : Nat) (s : Spc) (c : List PanicEntry), ss[i]? = some s → s.ab = some c → Imp W n D L M R (Q (.panic c)))
    (hstep : ∀ i o s, free[i]? = some o → ss[i]? = some s → Step1 P W n M R (free ++ tail).toArray ss i o s (detL (free.take i) (ss.take i) L))
    (hfin : Fin W n D (wpListE Z P (free ++ tail).toArray Q tail) free ss L M R) :
    ∀ (fuel : Nat) (listed : Array Bool) (a : Act) (w : World), J W n D L M R (free ++ tail).toArray free ss listed a w → unl (free ++ tail).length listed ≤ fuel → wpAnyE en Z P (free ++ tail).toArray Q fuel listed a w := by
  simp only [parB, Bool.and_eq_true] at hpb
  obtain ⟨⟨⟨⟨hns, hfree⟩, hnd0⟩, hback⟩, htail⟩ := hpb
  have hnd := injB_sound hnd0
  have hmN : free.length ≤ (free ++ tail).length := by simp
  have hmask : ∀ listed', Closed (free ++ tail).toArray listed' → ∀ i o, free.length ≤ i → (free ++ tail).toArray[i]? = some o → (∀ e ∈ o.after, Region.binds .any e = true → listed'.getD e.on false = true) → ∀ j, j < i → listed'.getD j false = true := by
    intro listed' hc i o hi ho hp j hj
    have hlt : i < (free ++ tail).length := by simpa using (Array.getElem?_eq_some_iff.1 ho).1
    have h1 := List.all_eq_true.1 htail i (List.mem_range.2 hlt)
    simp only [Bool.or_eq_true] at h1
    rcases h1 with h1 | h1
    · have : i < free.length := by simpa using h1
      omega
    · have h2 := List.all_eq_true.1 h1 j (List.mem_range.2 hj)
      exact (masks_sound hc (free ++ tail) [] (fun j => by simp) (fun i hi => by simp at hi)).1 i o (Nat.zero_le _) ho hp j h2
  have hbk : ∀ i o, (free ++ tail).toArray[i]? = some o → ∀ e ∈ o.after, Region.binds .any e = true → e.on < i := by
    intro i o ho e he hbi
    have hlt : i < (free ++ tail).length := by simpa using (Array.getElem?_eq_some_iff.1 ho).1
    have := List.all_eq_true.1 hback i (List.mem_range.2 hlt)
    rw [show (free ++ tail)[i]? = some o from by simpa using ho] at this
    have := Array.all_eq_true_iff_forall_mem.1 this e he
    simpa [hbi] using this
  intro fuel
  induction fuel with
  | zero =>
    intro listed a w hJ hu
    have hall : ∀ i, i < free.length → listed.getD i false = true := by
      intro i hi
      cases h : listed.getD i true with
      | true =>
        have : i < listed.size := by rw [hJ.size]; simp; omega
        simp [this] at h ⊢; exact h
      | false =>
        have hsz : listed.size = (free ++ tail).length := by rw [hJ.size]; simp
        have := unl_set (N := (free ++ tail).length) (i := i) (by omega) hsz h
        omega
    obtain ⟨g, hg, hS⟩ := hJ.vals
    refine wpAnyE_tail (by simpa using hback) (by simpa using hen) ((free ++ tail).length - free.length) free.length 0 listed a w (by simp) (Nat.le_trans (unl_ge (fun i h1 h2 => hJ.late i h1 (by simpa using h2))) hu) hJ.size hJ.closed hall (fun i h1 h2 => hJ.late i h1 h2) hmask ?_
    have hd : ((free ++ tail).toArray).toList.drop free.length = tail := by simp
    rw [hd]
    have hsame : resOf ss listed g free.length = lastOf ss g free.length := by
      refine flatMap_same _ _ _ fun j hj => ?_
      have := List.mem_range.1 hj
      rw [hall j this, if_pos rfl]
      cases hsj : ss[j]? with
      | none => rfl
      | some sj =>
        unfold Spc.rsL Spc.last
        cases hl2 : sj.late with
        | none => simp [hl2]
        | some kr =>
          obtain ⟨k, r⟩ := kr
          have hk := (hL j sj k r hsj hl2).1
          simp [hl2, hall k (by omega)]
    have hsamf : ∀ (f : Spc → Value → List Fact), ((List.range free.length).flatMap fun i => if listed.getD i false then (match ss[i]? with | some s => f s (g i) | none => []) else []) = ((List.range free.length).flatMap fun i => if (Array.replicate free.length true).getD i false then (match ss[i]? with | some s => f s (g i) | none => []) else []) := by
      intro f
      refine flatMap_same _ _ _ fun j hj => ?_
      have := List.mem_range.1 hj
      rw [hall j this]; simp [this]
    refine fin_use free ss L M R hl hfin g a w hJ.defers hJ.frame hnd (fun i o s e1 e2 => hg i o s e1 e2 (hall i (List.getElem?_eq_some_iff.1 e1).1)) ?_
    rw [hsame] at hS
    have hf : fctOf ss listed g free.length = fctOf ss (Array.replicate free.length true) g free.length := hsamf Spc.fs
    rw [hf] at hS
    exact hS
  | succ fuel ih =>
    intro listed a w hJ hu
    by_cases hall : ∀ i, i < free.length → listed.getD i false = true
    · obtain ⟨g, hg, hS⟩ := hJ.vals
      refine wpAnyE_tail (by simpa using hback) (by simpa using hen) ((free ++ tail).length - free.length) free.length (fuel + 1) listed a w (by simp) (Nat.le_trans (unl_ge (fun i h1 h2 => hJ.late i h1 (by simpa using h2))) hu) hJ.size hJ.closed hall (fun i h1 h2 => hJ.late i h1 h2) hmask ?_
      have hd : ((free ++ tail).toArray).toList.drop free.length = tail := by simp
      rw [hd]
      have hsame : resOf ss listed g free.length = lastOf ss g free.length := by
        refine flatMap_same _ _ _ fun j hj => ?_
        have := List.mem_range.1 hj
        rw [hall j this, if_pos rfl]
        cases hsj : ss[j]? with
        | none => rfl
        | some sj =>
          unfold Spc.rsL Spc.last
          cases hl2 : sj.late with
          | none => simp [hl2]
          | some kr =>
            obtain ⟨k, r⟩ := kr
            have hk := (hL j sj k r hsj hl2).1
            simp [hl2, hall k (by omega)]
      have hsamf : ∀ (f : Spc → Value → List Fact), ((List.range free.length).flatMap fun i => if listed.getD i false then (match ss[i]? with | some s => f s (g i) | none => []) else []) = ((List.range free.length).flatMap fun i => if (Array.replicate free.length true).getD i false then (match ss[i]? with | some s => f s (g i) | none => []) else []) := by
        intro f
        refine flatMap_same _ _ _ fun j hj => ?_
        have := List.mem_range.1 hj
        rw [hall j this]; simp [this]
      refine fin_use free ss L M R hl hfin g a w hJ.defers hJ.frame hnd (fun i o s e1 e2 => hg i o s e1 e2 (hall i (List.getElem?_eq_some_iff.1 e1).1)) ?_
      rw [hsame] at hS
      have hf : fctOf ss listed g free.length = fctOf ss (Array.replicate free.length true) g free.length := hsamf Spc.fs
      rw [hf] at hS
      exact hS
    · have hex : ∃ i, i < free.length ∧ listed.getD i false = false := by
        apply Classical.byContradiction
        intro hne
        refine hall fun i hi => ?_
        cases h : listed.getD i false
        · exact absurd ⟨i, hi, h⟩ hne
        · rfl
      obtain ⟨k, ⟨hk, hkf⟩, hkm⟩ := least hex
      have hkt : listed.getD k true = false := by
        have : k < listed.size := by rw [hJ.size]; simp; omega
        simp [this] at hkf ⊢; exact hkf
      have hready : k ∈ Region.ready .any (free ++ tail).toArray listed := by
        refine mem_ready.2 ⟨hkt, (free ++ tail)[k]'(by simp; omega), by simp [List.getElem?_eq_getElem (show k < (free ++ tail).length by simp; omega)], fun e he hbi => ?_⟩
        have hlt := hbk k _ (by simp [List.getElem?_eq_getElem (show k < (free ++ tail).length by simp; omega)]) e he hbi
        cases h : listed.getD e.on false
        · exact absurd ⟨by omega, h⟩ (hkm e.on hlt)
        · rfl
      refine ⟨fun _ => (by obtain ⟨g, _, hS⟩ := hJ.vals; exact hZ _ _ w hS), fun h0 => (by rw [h0] at hready; cases hready), fun i hi => ?_⟩
      obtain ⟨h0, o, hoi, hp⟩ := mem_ready.1 hi
      have him : i < free.length := by
        rcases Nat.lt_or_ge i free.length with h' | h'
        · exact h'
        · have := hmask listed hJ.closed i o h' hoi hp k (by omega)
          rw [hkf] at this; cases this
      refine par_step (by simp only [parB, Bool.and_eq_true]; exact ⟨⟨⟨⟨hns, hfree⟩, hnd0⟩, hback⟩, htail⟩) hl hfr hL hab hstep hJ hi him _ fun a' w' hJ' => ih _ _ _ hJ' ?_
      have hsz : listed.size = (free ++ tail).length := by rw [hJ.size]; simp
      have := unl_set (N := (free ++ tail).length) (i := i) (by have := (List.getElem?_eq_some_iff.1 (show (free ++ tail)[i]? = some o by simpa using hoi)).1; omega) hsz h0
      omega
theorem floatE_any {fl : List Nat} {m : Nat} {l : List Oper} : ∀ (fuel : Nat) (listed : Array Bool) (a : Act) (w : World), (∀ i ∈ fl, listed.getD i false = true) → wpAnyE en Z P (floatL fl m l).toArray Q fuel listed a w → wpAnyE en Z P l.toArray Q fuel listed a w
  | 0, listed, a, w, hi, h => by
    refine ⟨h.1, ?_, h.2.2⟩
    cases hr : Region.ready .any l.toArray listed with
    | nil => rfl
    | cons x xs =>
      have : x ∈ Region.ready .any (floatL fl m l).toArray listed := (float_ready hi).2 (by rw [hr]; simp)
      rw [h.2.1] at this; cases this
  | fuel + 1, listed, a, w, hi, h => by
    refine ⟨h.1, fun hr => h.2.1 ?_, fun j hj => float_op (wpOp_mono (fun a' w' h' => floatE_any fuel _ a' w' (fun i hi' => getD_set_true (hi i hi')) h') (h.2.2 j ((float_ready hi).2 hj)))⟩
    cases hr' : Region.ready .any (floatL fl m l).toArray listed with
    | nil => rfl
    | cons x xs =>
      have : x ∈ Region.ready .any l.toArray listed := (float_ready hi).1 (by rw [hr']; simp)
      rw [hr] at this; cases this
theorem floatE_all {fl : List Nat} {m : Nat} {l : List Oper} (hZ : ∀ X F w, St W (X ++ M) (F ++ R) w → Z w) (hme : m ≤ en) (hen : en < l.length) (hwt : ∀ i ∈ fl, ∀ oe, l[en]? = some oe → ∃ ed ∈ oe.after, Region.binds .any ed = true ∧ ed.on = i) (hml : m ≤ l.length) {ss : List Spc} (hpb : parB ((floatL fl m l).take m) ((floatL fl m l).drop m) = true) (hlen : ss.length = ((floatL fl m l).take m).length) (hfr : ∀ o ∈ (floatL fl m l).take m, look L (o.dst.getD 1000000) = none) (hL : LateOK (floatL fl m l).toArray ss)
    (hab : ∀ (i : Nat) (s : Spc) (c : List PanicEntry), ss[i]? = some s → s.ab = some c → Imp W n D L M R (NoP Q (.panic c)))
    (hstep : ∀ i o s, ((floatL fl m l).take m)[i]? = some o → ss[i]? = some s → Step1 P W n M R (floatL fl m l).toArray ss i o s (detL (((floatL fl m l).take m).take i) (ss.take i) L))
    (hfin : Fin W n D (wpListE Z P (floatL fl m l).toArray (NoP Q) ((floatL fl m l).drop m)) ((floatL fl m l).take m) ss L M R)
    (hfl : FlZ Z P n L ((floatL fl m l).take m) ss fl) (hns : Region.noSelect l.toArray = true) (hbk : backB l = true) (htl : tailF fl (masks l []) m l.length = true) (hfs : freesB l fl = true) :
    ∀ (fuel : Nat) (listed : Array Bool) (a : Act) (w : World), J W n D L M R (floatL fl m l).toArray ((floatL fl m l).take m) ss listed a w → unl l.length listed ≤ fuel → wpAnyE en Z P l.toArray (NoP Q) fuel listed a w := by
  have hflat := hfl.at
  have hFat := floatL_at fl m l
  have hFlen := floatL_len fl m l
  generalize hF : floatL fl m l = F at *
  have hsplit : F.take m ++ F.drop m = F := List.take_append_drop m F
  have hmF : (F.take m).length = m := by rw [List.length_take]; omega
  have hlow : ∀ j, j < m → F[j]? = l[j]? := fun j hj => by
    rw [hFat j]; cases l[j]? with
    | none => rfl
    | some o => simp [hj]
  have hfree : ∀ j, j < m → (F.take m)[j]? = l[j]? := fun j hj => by rw [List.getElem?_take, if_pos hj, hlow j hj]
  have hlate : LateOK (F.take m ++ F.drop m).toArray ss := by rw [hsplit]; exact hL
  have hst' : ∀ i o s, (F.take m)[i]? = some o → ss[i]? = some s → Step1 P W n M R (F.take m ++ F.drop m).toArray ss i o s (detL ((F.take m).take i) (ss.take i) L) := by rw [hsplit]; exact hstep
  have hclosed : ∀ listed, Closed F.toArray listed → Closed l.toArray listed := fun listed hc j o ho hj e he hb => by
    have ho : l[j]? = some o := by simpa using ho
    refine hc j (if j < m then o else addE fl o) (by rw [List.getElem?_toArray, hFat, ho]; rfl) hj e ?_ hb
    split
    · exact he
    · unfold addE; exact Array.mem_append_left _ he
  have hback : ∀ i o, l[i]? = some o → ∀ e ∈ o.after, Region.binds .any e = true → e.on < i := by
    intro i o ho e he hbi
    have hlt : i < l.length := (List.getElem?_eq_some_iff.1 ho).1
    have := List.all_eq_true.1 hbk i (List.mem_range.2 hlt)
    rw [ho] at this
    have := Array.all_eq_true_iff_forall_mem.1 this e he
    simpa [hbi] using this
  intro fuel
  induction fuel with
  | zero =>
    intro listed a w hJ hu
    have hsz : listed.size = l.length := by rw [hJ.size]; simp [hFlen]
    have hall : ∀ i ∈ fl, listed.getD i false = true := fun i hi => by
      obtain ⟨o, v, d, ho, _⟩ := hflat i hi
      have hi' : i < m := by have := (List.getElem?_eq_some_iff.1 ho).1; omega
      cases h : listed.getD i true with
      | true =>
        have : i < listed.size := by omega
        simp [this] at h ⊢; exact h
      | false =>
        have := unl_set (N := l.length) (i := i) (by omega) hsz h
        omega
    refine floatE_any (fl := fl) (m := m) 0 listed a w hall ?_
    rw [hF, ← hsplit]
    replace hJ : J W n D L M R (F.take m ++ F.drop m).toArray (F.take m) ss listed a w := by rw [hsplit]; exact hJ
    exact parE_any hZ (by rw [hsplit, hFlen]; exact hen) hpb hlen hfr hlate hab hst' (by rw [hsplit]; exact hfin) 0 listed a w hJ (by rw [hsplit, hFlen]; exact hu)
  | succ fuel ih =>
    intro listed a w hJ hu
    have hsz : listed.size = l.length := by rw [hJ.size]; simp [hFlen]
    have hboth : ∀ j, j < l.length → listed.getD j true = listed.getD j false := fun j hj => by
      have : j < listed.size := by omega
      simp [this]
    by_cases hall : ∀ i ∈ fl, listed.getD i false = true
    · refine floatE_any (fl := fl) (m := m) (fuel + 1) listed a w hall ?_
      rw [hF, ← hsplit]
      replace hJ : J W n D L M R (F.take m ++ F.drop m).toArray (F.take m) ss listed a w := by rw [hsplit]; exact hJ
      exact parE_any hZ (by rw [hsplit, hFlen]; exact hen) hpb hlen hfr hlate hab hst' (by rw [hsplit]; exact hfin) (fuel + 1) listed a w hJ (by rw [hsplit, hFlen]; exact hu)
    · by_cases hrd : ∃ i ∈ fl, i ∈ Region.ready .any l.toArray listed
      · obtain ⟨i, hi, hir⟩ := hrd
        obtain ⟨o, v, d, ho, hs, hg, hdst, hdn, hpure⟩ := hflat i hi
        have him : i < m := by have := (List.getElem?_eq_some_iff.1 ho).1; omega
        have hol : l[i]? = some o := by rw [← hfree i him]; exact ho
        obtain ⟨h0, o', ho', hp⟩ := mem_ready.1 hir
        have ho' : l[i]? = some o' := by simpa using ho'
        rw [hol] at ho'; cases ho'
        have hJ' : J W n D L M R (F.take m ++ F.drop m).toArray (F.take m) ss listed a w := by rw [hsplit]; exact hJ
        obtain ⟨a', g, f1, hex, hgv, hS⟩ := frame_at hpb hlen hfr hlate hab hst' hJ' ho hp
        have hirF : i ∈ Region.ready .any (F.take m ++ F.drop m).toArray listed := by
          rw [hsplit]
          exact mem_ready.2 ⟨h0, o, by rw [List.getElem?_toArray, hlow i him]; exact hol, hp⟩
        have hy : YieldsZ Z P l.toArray o v a := ⟨by simp [Region.wanted, hg], fun w hz => by rw [hex]; exact hpure a' f1 w hz⟩
        refine wpAnyE_first (i := i) (oi := o) (v := v) (by simpa using hol) (Region.noSelect_spec hns) (by omega) (fun oe hoe => hwt i hi oe (by simpa using hoe)) fuel listed a w (freeAt_spec hol (List.all_eq_true.1 hfs i hi) hp) hir (getD_both (hJ.late en (by rw [hmF]; exact hme) (by simp [hFlen]; omega))) hy ?_
        · have hnd : Inj (F.take m) := by
            simp only [parB, Bool.and_eq_true] at hpb
            exact injB_sound hpb.1.1.2
          have hset : (resOf ss listed g (F.take m).length ++ M).Perm (restOf ss listed g (F.take m).length i ++ M) := by
            refine List.Perm.append_right M (List.Perm.of_eq ?_)
            refine flatMap_same _ _ _ fun j hj => ?_
            by_cases e : j = i
            · subst e
              have : listed.getD j false = false := by rw [← hboth j (by omega)]; exact h0
              rw [if_pos rfl, this, hs]; rfl
            · rw [if_neg e]
          have hJn := hJ.next (v := v) (o := o) (s := Spc.q v) (i := i) (w' := w) hnd hfr (by simp [hFlen, hmF]; omega) (by rw [← hsplit]; exact hirF) (by rw [List.getElem?_toArray, hlow i him]; exact hol) ho hs (by rw [hdst]; exact hdn) rfl rfl hL hgv (hS.perm hset)
          refine ih _ _ _ hJn ?_
          have := unl_set (N := l.length) (i := i) (by omega) hsz h0
          omega
      · have hex : ∃ i, (i ∈ fl ∧ listed.getD i false = false) := by
          apply Classical.byContradiction
          intro hne
          refine hall fun i hi => ?_
          cases h : listed.getD i false
          · exact absurd ⟨i, hi, h⟩ hne
          · rfl
        obtain ⟨k, ⟨hk, hkf⟩, hkm⟩ := least hex
        obtain ⟨ok, vk, dk, hok, _⟩ := hflat k hk
        have hkm' : k < m := by have := (List.getElem?_eq_some_iff.1 hok).1; omega
        have hokl : l[k]? = some ok := by rw [← hfree k hkm']; exact hok
        have hlt : ∀ j, j ∈ Region.ready .any l.toArray listed → j < m := by
          intro j hj
          rcases Nat.lt_or_ge j m with h | h
          · exact h
          · exfalso
            obtain ⟨j0, o, hoj, hp⟩ := mem_ready.1 hj
            have hoj' : l[j]? = some o := by simpa using hoj
            have hjl : j < l.length := (List.getElem?_eq_some_iff.1 hoj').1
            have h1 := List.all_eq_true.1 htl j (List.mem_range.2 hjl)
            simp only [Bool.or_eq_true] at h1
            have hnon : ∀ t, t < j → t ∉ fl → listed.getD t false = true := fun t ht hnf => by
              rcases h1 with h1 | h1
              · have : j < m := by simpa using h1
                omega
              · have h2 := List.all_eq_true.1 h1 t (List.mem_range.2 ht)
                simp only [Bool.or_eq_true, List.contains_eq_mem, decide_eq_true_eq] at h2
                rcases h2 with h2 | h2
                · exact absurd h2 hnf
                · exact (masks_sound (ops := l.toArray) (hclosed listed hJ.closed) l [] (fun j => by simp) (fun i hi => by simp at hi)).1 j o (Nat.zero_le _) hoj hp t h2
            refine hrd ⟨k, hk, mem_ready.2 ⟨by rw [hboth k (by omega)]; exact hkf, ok, by simpa using hokl, fun e he hb => ?_⟩⟩
            have hek := hback k ok hokl e he hb
            by_cases hef : e.on ∈ fl
            · cases h : listed.getD e.on false
              · exact absurd ⟨hef, h⟩ (hkm e.on hek)
              · rfl
            · exact hnon e.on (by omega) hef
        refine ⟨fun _ => (by obtain ⟨g, _, hS⟩ := hJ.vals; exact hZ _ _ w hS), fun hr => ?_, fun j hj => ?_⟩
        · exfalso
          have hex2 : ∃ t, t < l.length ∧ listed.getD t false = false := ⟨k, by omega, hkf⟩
          obtain ⟨t, ⟨ht, htf⟩, htm⟩ := least hex2
          have : t ∈ Region.ready .any l.toArray listed := mem_ready.2 ⟨by rw [hboth t ht]; exact htf, l[t], by simp, fun e he hb => by
            have hlt2 := hback t l[t] (List.getElem?_eq_getElem ht) e he hb
            cases h : listed.getD e.on false
            · exact absurd ⟨by omega, h⟩ (htm e.on hlt2)
            · rfl⟩
          rw [hr] at this; cases this
        · have hjm := hlt j hj
          obtain ⟨j0, o, hoj, hp⟩ := mem_ready.1 hj
          have hoj' : l[j]? = some o := by simpa using hoj
          refine float_op (fl := fl) (m := m) ?_
          rw [hF, ← hsplit]
          replace hJ : J W n D L M R (F.take m ++ F.drop m).toArray (F.take m) ss listed a w := by rw [hsplit]; exact hJ
          refine par_step hpb hlen hfr hlate hab hst' hJ (mem_ready.2 ⟨j0, o, ?_, hp⟩) (by omega) _ fun a' w' hJ' => ih _ _ _ (by rw [hsplit] at hJ'; exact hJ') ?_
          · rw [List.getElem?_toArray, hsplit, hlow j hjm]; exact hoj'
          · have := unl_set (N := l.length) (i := j) (by have := (List.getElem?_eq_some_iff.1 hoj').1; omega) hsz j0
            omega
theorem r_parE (en : Nat) {id : Nat} {l : List Oper} (Z : World → Prop) (hZ : ∀ X F w, St W (X ++ M) (F ++ R) w → Z w) (fl : List Nat) (m : Nat) (hme : Nat.ble m en = true) (hen : Nat.blt en l.length = true) (hwt : waitsE fl l en = true) (hml : Nat.ble m l.length = true) (hns : Region.noSelect l.toArray = true) (hbk : backB l = true) (htl : tailF fl (masks l []) m l.length = true) (hfs : freesB l fl = true)
    (hm : P.follows .mixedOrders = true) (hpb : parB ((floatL fl m l).take m) ((floatL fl m l).drop m) = true) (hfr : freshB L ((floatL fl m l).take m) = true)
    (h : ParO P W n M R (floatL fl m l).toArray (fun ss => FlZ Z P n L ((floatL fl m l).take m) ss fl ∧ preOf ss = [] ∧ lateX (floatL fl m l).toArray ss = true ∧ Fin W n D (wpListE Z P (floatL fl m l).toArray (NoP Q) ((floatL fl m l).drop m)) ((floatL fl m l).take m) ss L M R) ((floatL fl m l).take m) [] L) : Imp W n D L M R ((Code.region id l.toArray true).wp P Q) := by
  have hml : m ≤ l.length := by simpa using hml
  intro a w h1 h2 h3
  refine Code.wp_mono (Q := NoP Q) (fun e a' w' he => ?_) ?_
  · cases e with
    | normal => exact he
    | _ => exact he.elim
  refine wp_region_any hm ?_
  obtain ⟨ss, hl, ⟨hsi, hpre, hlx, hfin⟩, hs⟩ := ParO.out ((floatL fl m l).take m) [] L h
  rw [List.nil_append] at hsi hpre hlx hfin
  have hLB : lateB (floatL fl m l).toArray ss 0 ss = true := by simp only [lateX, Bool.and_eq_true] at hlx; exact hlx.1
  have hlk : ∀ o ∈ (floatL fl m l).take m, look L (o.dst.getD 1000000) = none := fun o ho => by
    have := List.all_eq_true.1 hfr o ho
    simpa using this
  refine (floatE_all (en := en) hZ (by simpa using hme) (by simpa using hen) (waitsE_sound hwt) hml hpb hl hlk (lateOK_of hLB) (fun k s c e1 e2 => (lateX_ab hlx k s c e1 e2).elim) (fun k o s e1 e2 => by
    have := hs k o s e1 e2
    rw [List.nil_append, List.length_nil, Nat.zero_add] at this
    exact this) hfin hsi hns hbk htl hfs _ _ _ _ ⟨?_, ?_, ?_, h1, h2, fun _ => undef, ?_, ?_⟩ ?_).any
  · simp [floatL_len]
  · intro j o _ hj
    rw [rep_false] at hj; cases hj
  · intro t _ ht
    have : t < l.length := by simpa [floatL_len] using ht
    simp [this]
  · intro i o s e1 _ hj
    rw [rep_false] at hj; cases hj
  · have e1 : resOf ss (Array.replicate l.toArray.size false) (fun _ => undef) ((floatL fl m l).take m).length = [] := by
      rw [← hpre, ← preOf_range, hl]
      refine flatMap_same _ _ _ fun j hj => ?_
      rw [rep_false]; rfl
    have e2 : ∀ k, fctOf ss (Array.replicate l.toArray.size false) (fun _ => undef) k = [] := by
      intro k
      unfold fctOf
      induction k with
      | zero => rfl
      | succ k ih => rw [List.range_succ, List.flatMap_append, ih, List.nil_append, List.flatMap_cons, List.flatMap_nil, List.append_nil, rep_false]; rfl
    rw [e1, e2]
    exact h3.heap rfl rfl rfl rfl
  · have := unl_tail (N := l.length) (m := 0) (listed := Array.replicate l.length false) (fun i hi => by omega)
    simpa using this
end Go.G


namespace Go.Proofs.YtpfgiednfjfdmaaDoor
open Go.G Debt10
set_option maxRecDepth 1000000
attribute [local irreducible] G.ParO G.Fin
variable (D : Debt) (uo po : Option Addr) (uc pc : Nat)
set_option maxHeartbeats 4000000 in
theorem next_m (l : List Opn) (b : Nat) (A br ow : Int) (who : Int) (d : Nat) (hn6 : D.dues.length ≤ 6) : FnM Tryd.prog 105 [valD D uo po uc pc, .agg (([.slice (some ⟨b, 0, none⟩) D.dues.length D.dues.length, i64 A, i64 br, i64 ow] : List Value)).toArray, i64 who, i64 (d : Int)] (bx b 3 ((arrL l D.dues.length).flatMap encI)) [rowD uo 5 encD D.dues, rowD po 4 encP D.paid] (fun u => u = i64 (nextV (nextTo D who d (valF l) D.dues.length))) := by
  refine FnM.intro Tryd.call105 Tryd.func105 rfl Tryd.ntmps105 rfl ?_
  intro W M Rf
  refine r_seq ?_
  refine r_region ?_
  refine o_boxA rfl rfl rfl rfl rfl (fun b4 => ?_)
  refine o_boxA rfl rfl rfl rfl rfl (fun b5 => ?_)
  refine o_q _ rfl rfl rfl (v_assign rfl rfl) ?_
  refine o_nil ?_
  with_reducible refine r_then ?_
  refine r_seq ?_
  refine r_region ?_
  refine o_q _ rfl rfl rfl (v_assign rfl rfl) ?_
  refine o_nil ?_
  with_reducible refine r_then ?_
  refine r_seq ?_
  refine r_seq ?_
  refine r_region ?_
  refine o_q _ rfl rfl rfl (v_assign rfl rfl) ?_
  refine o_nil ?_
  with_reducible refine r_then ?_
  refine r_block ?_
  refine r_loop (ι := Nat) (fun k => k ≤ D.dues.length) (fun k => [(2, i64 who), (3, i64 (d : Int)), (4, pt b4 0), (5, pt b5 0), (9, i64 (nextV (nextTo D who d (valF l) k))), (10, i64 (k : Int))]) (fun k => bx b5 81 [.slice (some ⟨b, 0, none⟩) D.dues.length D.dues.length, i64 A, i64 br, i64 ow] :: bx b4 25 (cellsD D uo po uc pc) :: bx b 3 ((arrL l D.dues.length).flatMap encI) :: M) (fun k => [rowD uo 5 encD D.dues, rowD po 4 encP D.paid] ++ Rf) (fun k => D.dues.length - k) 0 ?_ ?_ ?_
  ·
    refine Imp.box_to b5 [.slice (some ⟨b, 0, none⟩) D.dues.length D.dues.length, i64 A, i64 br, i64 ow] rfl ?_
    exact r_here (by (repeat (first | exact FSub.nil | refine FSub.cons rfl ?_)); first | done | fail) SelMC.sel SubRC.sub
  ·
    omega
  ·
    rintro k hI0
    refine r_seq ?_
    refine r_seq ?_
    refine r_region ?_
    refine o_q _ rfl rfl rfl (v_move rfl rfl) ?_
    refine o_q _ rfl rfl rfl (v_fieldAddr rfl Tryd.underlying25 inf22 rfl rfl rfl rfl) ?_
    refine o_q _ rfl rfl rfl (v_ld1 rfl Tryd.underlying22 rfl rfl rfl) ?_
    refine o_q _ rfl rfl rfl (v_len rfl rfl Tryd.underlying22 rfl) ?_
    refine o_q _ rfl rfl rfl (v_lss rfl rfl rfl) ?_
    refine o_nil ?_
    with_reducible refine r_then ?_
    refine r_condd rfl (fun hc16 => ?_) (fun hc16 => ?_)
    ·
      refine r_skip ?_
      with_reducible refine r_then ?_
      refine r_seq ?_
      refine r_block ?_
      refine r_seq ?_
      refine r_region ?_
      refine o_q _ rfl rfl rfl (v_fieldAddr rfl Tryd.underlying25 inf22 rfl rfl rfl rfl) ?_
      refine o_q _ rfl rfl rfl (v_ld1 rfl Tryd.underlying22 rfl rfl rfl) ?_
      refine o_q _ rfl rfl rfl (v_move rfl rfl) ?_
      refine o_q _ rfl rfl rfl (v_indexAddrSn rfl Tryd.underlying22 inf62 rfl rfl rfl (by omega) rfl) ?_
      refine o_q _ rfl rfl rfl (v_loadEN (us := encD (D.dues.getD k default)) rfl Tryd.underlying62 rfl inf62 rfl (by omega) rfl rfl rfl) ?_
      refine o_alloc rfl inf62 rfl rfl rfl rfl rfl (fun b11 => ?_)
      refine o_st rfl inf62 rfl rfl rfl rfl rfl rfl rfl rfl ?_
      refine o_nil ?_
      with_reducible refine r_then ?_
      refine r_seq ?_
      refine Imp.box_to b11 (encD (D.dues.getD k default)) rfl ?_
      have hnx : (nextTo D who d (valF l) k) = (nextTo D who d (valF l) k) := rfl
      obtain ⟨r, hr⟩ : ∃ r, (nextTo D who d (valF l) k) = r := ⟨_, rfl⟩
      rw [hr]
      obtain rfl | ⟨bb, rfl⟩ : r = none ∨ ∃ bb, r = some bb := by cases r with | none => exact .inl rfl | some bb => exact .inr ⟨bb, rfl⟩
      all_goals
      try have hnb := (next_some hr).1.1
      have hv0 : nextV none = -1 := rfl
      try have hv1 : nextV (some bb) = (bb : Int) := rfl
      refine r_region_q mixed (by kernel_rfl) ?_
      refine q_q _ rfl rfl rfl (v_fieldAddr rfl Tryd.underlying62 inf3 rfl rfl rfl rfl) ?_
      refine q_q _ rfl rfl rfl (v_ld1 rfl Tryd.underlying3 rfl rfl rfl) ?_
      refine q_q _ rfl rfl rfl (v_move rfl rfl) ?_
      refine q_test rfl rfl rfl (v_eql rfl rfl rfl) (fun h27 => ?_) (fun h27 => ?_)
      all_goals
        refine q_q _ rfl rfl rfl (v_move rfl rfl) ?_
        first | refine q_gn rfl rfl rfl rfl ?_ | refine q_g _ rfl rfl rfl rfl (v_fieldAddr rfl Tryd.underlying62 inf3 rfl rfl rfl rfl) ?_
        first | refine q_gn rfl rfl rfl rfl ?_ | refine q_g _ rfl rfl rfl rfl (v_ld1 rfl Tryd.underlying3 rfl rfl rfl) ?_
        first | refine q_gn rfl rfl rfl rfl ?_ | refine q_g _ rfl rfl rfl rfl (v_move rfl rfl) ?_
        first | refine q_gn rfl rfl rfl rfl ?_ | refine q_gtest rfl rfl rfl rfl (v_leq rfl rfl rfl) (fun h32 => ?_) (fun h32 => ?_)
        all_goals
          first | refine q_q _ rfl rfl rfl (v_pick_t rfl rfl rfl) ?_ | refine q_q _ rfl rfl rfl (v_pick_f rfl rfl rfl) ?_
          refine q_q _ rfl rfl rfl (v_move rfl rfl) ?_
          first | refine q_gn rfl rfl rfl rfl ?_ | refine q_g _ rfl rfl rfl rfl (v_fieldAddr rfl Tryd.underlying81 inf41 rfl rfl rfl rfl) ?_
          first | refine q_gn rfl rfl rfl rfl ?_ | refine q_g _ rfl rfl rfl rfl (v_ld1 rfl Tryd.underlying41 rfl rfl rfl) ?_
          first | refine q_gn rfl rfl rfl rfl ?_ | refine q_g _ rfl rfl rfl rfl (v_move rfl rfl) ?_
          first | refine q_gn rfl rfl rfl rfl ?_ | refine q_g _ rfl rfl rfl rfl (v_indexAddrB rfl Tryd.underlying41 inf3 rfl rfl (by omega)) ?_
          first | refine q_gn rfl rfl rfl rfl ?_ | refine q_g _ rfl rfl rfl rfl (v_cast (v := i64 (valF l k)) (v_ld1 rfl Tryd.underlying3 rfl rfl (boxI_get (by rw [arr_len]; omega))) (i64c ((arr_at (by omega)).trans (rfl)))) ?_
          first | refine q_gn rfl rfl rfl rfl ?_ | refine q_gtest rfl rfl rfl rfl (v_gtr rfl rfl rfl) (fun h40 => ?_) (fun h40 => ?_)
          all_goals
            first | refine q_q _ rfl rfl rfl (v_pick_t rfl rfl rfl) ?_ | refine q_q _ rfl rfl rfl (v_pick_f rfl rfl rfl) ?_
            refine q_q _ rfl rfl rfl (v_move rfl rfl) ?_
            first | refine q_gn rfl rfl rfl rfl ?_ | refine q_g _ rfl rfl rfl rfl (v_move rfl rfl) ?_
            first | refine q_gn rfl rfl rfl rfl ?_ | refine q_g _ rfl rfl rfl rfl (v_true (v_lss rfl rfl rfl) (by omega)) ?_ | refine q_g _ rfl rfl rfl rfl (v_false (v_lss rfl rfl rfl) (by omega)) ?_
            all_goals
              first | refine q_gn rfl rfl rfl rfl ?_ | refine q_g _ rfl rfl rfl rfl (v_move rfl rfl) ?_
              first | refine q_gn rfl rfl rfl rfl ?_ | refine q_g _ rfl rfl rfl rfl (v_fieldAddr rfl Tryd.underlying62 inf3 rfl rfl rfl rfl) ?_
              first | refine q_gn rfl rfl rfl rfl ?_ | refine q_g _ rfl rfl rfl rfl (v_ld1 rfl Tryd.underlying3 rfl rfl rfl) ?_
              first | refine q_gn rfl rfl rfl rfl ?_ | refine q_g _ rfl rfl rfl rfl (v_fieldAddr rfl Tryd.underlying25 inf22 rfl rfl rfl rfl) ?_
              first | refine q_gn rfl rfl rfl rfl ?_ | refine q_g _ rfl rfl rfl rfl (v_ld1 rfl Tryd.underlying22 rfl rfl rfl) ?_
              first | refine q_gn rfl rfl rfl rfl ?_ | refine q_g _ rfl rfl rfl rfl (v_move rfl rfl) ?_
              first | refine q_gn rfl rfl rfl rfl ?_ | refine q_g _ rfl rfl rfl rfl (v_indexAddrSn (k := bb) rfl Tryd.underlying22 inf62 rfl rfl rfl (by omega) rfl) ?_
              first | refine q_gn rfl rfl rfl rfl ?_ | refine q_g _ rfl rfl rfl rfl (v_fieldAddr rfl Tryd.underlying62 inf3 rfl rfl rfl rfl) ?_
              first | refine q_gn rfl rfl rfl rfl ?_ | refine q_g _ rfl rfl rfl rfl (v_loadE1 rfl Tryd.underlying3 rfl rfl (by omega) rfl rfl) ?_
              first | refine q_gn rfl rfl rfl rfl ?_ | refine q_gtest rfl rfl rfl rfl (v_lss rfl rfl rfl) (fun h54 => ?_) (fun h54 => ?_)
              all_goals
                first | refine q_gn rfl rfl rfl rfl ?_ | refine q_g _ rfl rfl rfl rfl (v_pick_t rfl rfl rfl) ?_ | refine q_g _ rfl rfl rfl rfl (v_pick_f rfl rfl rfl) ?_
                first | refine q_q _ rfl rfl rfl (v_pick_t rfl rfl rfl) ?_ | refine q_q _ rfl rfl rfl (v_pick_f rfl rfl rfl) ?_
                refine q_nil ?_
                with_reducible refine r_then ?_
                refine r_cond rfl (fun hc56 => ?_) (fun hc56 => ?_)
                ·
                  first
                  | (exfalso; revert hc56; decide)
                  | skip
                    refine r_region ?_
                    refine o_q _ rfl rfl rfl (v_move rfl rfl) ?_
                    refine o_q _ rfl rfl rfl (v_assign rfl rfl) ?_
                    refine o_nil ?_
                    with_reducible refine r_in_normal ?_; refine r_then ?_
                    refine r_region ?_
                    refine o_q _ rfl rfl rfl (v_move rfl rfl) ?_
                    refine o_q _ rfl rfl rfl (v_add rfl rfl rfl (by omega)) ?_
                    refine o_q _ rfl rfl rfl (v_assign rfl rfl) ?_
                    refine o_nil ?_
                    with_reducible refine r_then ?_
                    exact r_next (k + 1) (by exact r_here (by (repeat (first | exact FSub.nil | refine FSub.cons rfl ?_ | refine FSub.cons2 rfl (i64c (by rw [next_y ⟨⟨by omega, by omega⟩, by omega⟩ (.inl hr)]; rfl)) ?_ | refine FSub.cons2 rfl (i64c (by rw [next_y ⟨⟨by omega, by omega⟩, by omega⟩ (.inr ⟨_, hr, by omega⟩)]; rfl)) ?_ | refine FSub.cons2 rfl (i64c (by rw [next_n1 (fun hc => by obtain ⟨⟨h1, h2⟩, h3⟩ := hc; omega), hr])) ?_ | refine FSub.cons2 rfl (i64c (by rw [next_n2 hr (by omega), hr])) ?_)); first | done | fail) SelMC.sel SubRC.sub) (by first | omega | (show _ + 1 ≤ _; omega)) (by first | omega | (show _ - (_ + 1) < _ - _; omega))
                ·
                  first
                  | (exfalso; revert hc56; decide)
                  | skip
                    refine r_skip ?_
                    with_reducible refine r_in_normal ?_; refine r_then ?_
                    refine r_region ?_
                    refine o_q _ rfl rfl rfl (v_move rfl rfl) ?_
                    refine o_q _ rfl rfl rfl (v_add rfl rfl rfl (by omega)) ?_
                    refine o_q _ rfl rfl rfl (v_assign rfl rfl) ?_
                    refine o_nil ?_
                    with_reducible refine r_then ?_
                    exact r_next (k + 1) (by exact r_here (by (repeat (first | exact FSub.nil | refine FSub.cons rfl ?_ | refine FSub.cons2 rfl (i64c (by rw [next_y ⟨⟨by omega, by omega⟩, by omega⟩ (.inl hr)]; rfl)) ?_ | refine FSub.cons2 rfl (i64c (by rw [next_y ⟨⟨by omega, by omega⟩, by omega⟩ (.inr ⟨_, hr, by omega⟩)]; rfl)) ?_ | refine FSub.cons2 rfl (i64c (by rw [next_n1 (fun hc => by obtain ⟨⟨h1, h2⟩, h3⟩ := hc; omega), hr])) ?_ | refine FSub.cons2 rfl (i64c (by rw [next_n2 hr (by omega), hr])) ?_)); first | done | fail) SelMC.sel SubRC.sub) (by first | omega | (show _ + 1 ≤ _; omega)) (by first | omega | (show _ - (_ + 1) < _ - _; omega))
    ·
      refine r_exit ?_
      with_reducible refine r_then_exit ?_; refine r_then_exit ?_; refine r_in_here ?_; refine r_then ?_
      refine r_seq ?_
      refine r_region ?_
      refine o_q _ rfl rfl rfl (v_move rfl rfl) ?_
      refine o_q _ rfl rfl rfl (v_assign rfl rfl) ?_
      refine o_nil ?_
      with_reducible refine r_then ?_
      refine r_ret ?_
      obtain rfl : k = D.dues.length := by omega
      exact r_retm (Rd.tmp rfl rfl) rfl SelMC.sel SubRC.sub
theorem float_subZ {P : Program} {n : Nat} {L : Tm} {o : Oper} {Z : World → Prop} {t u : TypeId} {x y : Operand} {b c : Int} (ho : o.op = .binOp .sub t x y u) (hx : ev L x = some (i64 b)) (hy : ev L y = some (i64 c)) (h : -9223372036854775808 ≤ b - c ∧ b - c ≤ 9223372036854775807) : ∀ a, FSat n L a → ∀ w, Z w → (execOp a.eval o).run P w = .ok (.value (i64 (b - c))) w := fun f h1 w _ => by
  have hw : IntKind.i64.wrap (b - c) = b - c := IntWalk.i64_in _ h
  simp [execOp, ho, h1.ev hx, h1.ev hy, eqGuard, binOp, Op.intArith, hw]
theorem pay_cases {D : Debt} {am pa : List Int} (hg : GoodD D) (h : TruD D am pa) (who : Int) (d : Nat) (hd : d ≤ 30) {q : Nat} (hq : q ≤ (lstT D am pa who d).length) : ¬ 0 < (stA (lstT D am pa who d) (bagT D am pa who d) q) ∨ (0 < (stA (lstT D am pa who d) (bagT D am pa who d) q) ∧ (nextTo D who d (valF (stP (lstT D am pa who d) (bagT D am pa who d) q)) D.dues.length = none ∧ (stP (lstT D am pa who d) (bagT D am pa who d) q) = (payF (lstT D am pa who d) (bagT D am pa who d)) ∧ (stA (lstT D am pa who d) (bagT D am pa who d) q) = (restF (lstT D am pa who d) (bagT D am pa who d)))) ∨ (0 < (stA (lstT D am pa who d) (bagT D am pa who d) q) ∧ ∃ (i q' : Nat) (L : Int), nextTo D who d (valF (stP (lstT D am pa who d) (bagT D am pa who d) q)) D.dues.length = some i ∧ i < D.dues.length ∧ q < q' ∧ q' ≤ (lstT D am pa who d).length ∧ valF (stP (lstT D am pa who d) (bagT D am pa who d) q) i = L ∧ (0 < L ∧ L ≤ 1000) ∧ (stA (lstT D am pa who d) (bagT D am pa who d) q') = (stA (lstT D am pa who d) (bagT D am pa who d) q) - min (stA (lstT D am pa who d) (bagT D am pa who d) q) L ∧ (arrL (stP (lstT D am pa who d) (bagT D am pa who d) q) D.dues.length).set i (L - min (stA (lstT D am pa who d) (bagT D am pa who d) q) L) = arrL (stP (lstT D am pa who d) (bagT D am pa who d) q') D.dues.length) := by
  by_cases c : 0 < (stA (lstT D am pa who d) (bagT D am pa who d) q)
  · rcases pay_round hg h who d hd hq c with r | ⟨i, q', L, r⟩
    · exact .inr (.inl ⟨c, r⟩)
    · exact .inr (.inr ⟨c, i, q', L, r⟩)
  · exact .inl c
set_option maxHeartbeats 4000000 in
theorem pay_c (am pa : List Int) (b : Nat) (br ow : Int) (hg : GoodD D) (h : TruD D am pa) (who : Int) (d : Nat) (hd : d ≤ 30) : FnC Tryd.prog 86 [valD D uo po uc pc, .agg ([.slice (some ⟨b, 0, none⟩) D.dues.length D.dues.length, i64 (bagT D am pa who d), i64 br, i64 ow] : List Value).toArray, i64 who, i64 (d : Int)] (bx b 3 ((arrL (lstT D am pa who d) D.dues.length).flatMap encI)) [rowD uo 5 encD D.dues, rowD po 4 encP D.paid] (.agg ([.slice (some ⟨b, 0, none⟩) D.dues.length D.dues.length, i64 (restF (lstT D am pa who d) (bagT D am pa who d)), i64 br, i64 ow] : List Value).toArray) (bx b 3 ((arrL (payF (lstT D am pa who d) (bagT D am pa who d)) D.dues.length).flatMap encI)) := by
  have hp1 := hg.np
  have hp2 := hg.nd
  have hp3 := hg.ny
  refine FnC.intro Tryd.call86 Tryd.func86 rfl Tryd.ntmps86 rfl ?_
  intro W M Rf
  refine r_seq ?_
  refine r_region ?_
  refine o_boxA rfl rfl rfl rfl rfl (fun b4 => ?_)
  refine o_boxA rfl rfl rfl rfl rfl (fun b5 => ?_)
  refine o_alloc rfl inf81 rfl rfl rfl rfl rfl (fun b8 => ?_)
  refine o_nil ?_
  with_reducible refine r_then ?_
  refine r_seq ?_
  refine r_block ?_
  refine r_loop (ι := Nat) (fun q => q ≤ (lstT D am pa who d).length) (fun q => [(2, i64 who), (3, i64 (d : Int)), (4, pt b4 0), (5, pt b5 0), (8, pt b8 0)]) (fun q => bx b 3 ((arrL (stP (lstT D am pa who d) (bagT D am pa who d) q) D.dues.length).flatMap encI) :: bx b5 81 [.slice (some ⟨b, 0, none⟩) D.dues.length D.dues.length, i64 (stA (lstT D am pa who d) (bagT D am pa who d) q), i64 br, i64 ow] :: bx b4 25 (cellsD D uo po uc pc) :: bx b8 81 [.slice none 0 0, i64 0, i64 0, i64 0] :: M) (fun q => [rowD uo 5 encD D.dues, rowD po 4 encP D.paid] ++ Rf) (fun q => (lstT D am pa who d).length - q) 0 ?_ ?_ ?_
  ·
    refine Imp.box_to b ((arrL (stP (lstT D am pa who d) (bagT D am pa who d) 0) D.dues.length).flatMap encI) rfl ?_
    refine Imp.box_to b5 [.slice (some ⟨b, 0, none⟩) D.dues.length D.dues.length, i64 (stA (lstT D am pa who d) (bagT D am pa who d) 0), i64 br, i64 ow] rfl ?_
    refine Imp.box_to b8 [.slice none 0 0, i64 0, i64 0, i64 0] rfl ?_
    exact r_here (by (repeat (first | exact FSub.nil | refine FSub.cons rfl ?_)); first | done | fail) SelMC.sel SubRC.sub
  ·
    exact Nat.zero_le _
  ·
    rintro q hI0
    refine r_seq ?_
    refine r_seq ?_
    have hA := stA_bd hg h who d hd q
    obtain hA0 | ⟨hA0, hx0, he1, he2⟩ | ⟨hA0, i, q2, L, hx0, hi, hq2, hq3, hL, hL1, hsA, hsP⟩ := pay_cases hg h who d hd hI0
    all_goals
    refine r_region ?_
    refine o_q _ rfl rfl rfl (v_fieldAddr rfl Tryd.underlying81 inf3 rfl rfl rfl rfl) ?_
    refine o_q _ rfl rfl rfl (v_ld1 rfl Tryd.underlying3 rfl rfl rfl) ?_
    first | refine o_q _ rfl rfl rfl (v_true (v_gtr rfl rfl rfl) (by omega)) ?_ | refine o_q _ rfl rfl rfl (v_false (v_gtr rfl rfl rfl) (by omega)) ?_
    all_goals
      refine o_q _ rfl rfl rfl (v_move rfl rfl) ?_
      first | refine o_gn rfl rfl rfl rfl ?_ | refine o_g _ rfl rfl rfl rfl (v_ldW rfl Tryd.underlying25 rfl inf25 rfl rfl) ?_
      first | refine o_gn rfl rfl rfl rfl ?_ | refine o_g _ rfl rfl rfl rfl (v_ldW rfl Tryd.underlying81 rfl inf81 rfl rfl) ?_
      first | refine o_gn rfl rfl rfl rfl ?_ | refine o_g _ rfl rfl rfl rfl (v_move rfl rfl) ?_
      first | refine o_gn rfl rfl rfl rfl ?_ | refine o_g _ rfl rfl rfl rfl (v_move rfl rfl) ?_
      first | refine o_gn rfl rfl rfl rfl ?_ | refine o_g _ rfl rfl rfl rfl (v_cast (v := i64 (-1)) (OpQ.fnm (next_m D uo po uc pc (stP (lstT D am pa who d) (bagT D am pa who d) q) b (stA (lstT D am pa who d) (bagT D am pa who d) q) br ow who d hp2) rfl [] [] rfl rfl rfl SubRC.sub) (i64c (by rw [hx0]; rfl))) ?_ | refine o_g _ rfl rfl rfl rfl (v_cast (v := i64 (i : Int)) (OpQ.fnm (next_m D uo po uc pc (stP (lstT D am pa who d) (bagT D am pa who d) q) b (stA (lstT D am pa who d) (bagT D am pa who d) q) br ow who d hp2) rfl [] [] rfl rfl rfl SubRC.sub) (i64c (by rw [hx0]; rfl))) ?_
      first | refine o_gn rfl rfl rfl rfl ?_ | refine o_g _ rfl rfl rfl rfl (v_true (v_geq rfl rfl rfl) (by omega)) ?_ | refine o_g _ rfl rfl rfl rfl (v_false (v_geq rfl rfl rfl) (by omega)) ?_
      all_goals
        first | refine o_q _ rfl rfl rfl (v_pick_t rfl rfl rfl) ?_ | refine o_q _ rfl rfl rfl (v_pick_f rfl rfl rfl) ?_
        refine o_nil ?_
        with_reducible refine r_then ?_
        refine r_cond rfl (fun hc21 => ?_) (fun hc21 => ?_)
        ·
          first
          | (exfalso; revert hc21; decide)
          | skip
            refine r_skip ?_
            with_reducible refine r_then ?_
            refine r_block ?_
            refine r_seq ?_
            refine r_region ?_
            refine o_q _ rfl rfl rfl (v_ldW rfl Tryd.underlying25 rfl inf25 rfl rfl) ?_
            refine o_q _ rfl rfl rfl (v_ldW rfl Tryd.underlying81 rfl inf81 rfl rfl) ?_
            refine o_q _ rfl rfl rfl (v_move rfl rfl) ?_
            refine o_q _ rfl rfl rfl (v_move rfl rfl) ?_
            refine o_q _ rfl rfl rfl (v_cast (v := i64 (i : Int)) (OpQ.fnm (next_m D uo po uc pc (stP (lstT D am pa who d) (bagT D am pa who d) q) b (stA (lstT D am pa who d) (bagT D am pa who d) q) br ow who d hp2) rfl [] [] rfl rfl rfl SubRC.sub) (i64c (by rw [hx0]; rfl))) ?_
            refine o_q _ rfl rfl rfl (v_assign rfl rfl) ?_
            refine o_nil ?_
            with_reducible refine r_then ?_
            refine r_seq ?_
            refine r_region_q mixed (by kernel_rfl) ?_
            refine q_q _ rfl rfl rfl (v_fieldAddr rfl Tryd.underlying81 inf3 rfl rfl rfl rfl) ?_
            refine q_q _ rfl rfl rfl (v_ld1 rfl Tryd.underlying3 rfl rfl rfl) ?_
            refine q_q _ rfl rfl rfl (v_fieldAddr rfl Tryd.underlying81 inf41 rfl rfl rfl rfl) ?_
            refine q_q _ rfl rfl rfl (v_ld1 rfl Tryd.underlying41 rfl rfl rfl) ?_
            refine q_q _ rfl rfl rfl (v_move rfl rfl) ?_
            refine q_q _ rfl rfl rfl (v_indexAddrB rfl Tryd.underlying41 inf3 rfl rfl (by omega)) ?_
            refine q_q _ rfl rfl rfl (v_cast (v := i64 L) (v_ld1 rfl Tryd.underlying3 rfl rfl (boxI_get (by rw [arr_len]; omega))) (i64c ((arr_at (by omega)).trans (hL)))) ?_
            refine q_q _ rfl rfl rfl (v_min2 rfl rfl rfl) ?_
            refine q_q _ rfl rfl rfl (v_assign rfl rfl) ?_
            refine q_nil ?_
            with_reducible refine r_then ?_
            refine Imp.box_to b5 [.slice (some ⟨b, 0, none⟩) D.dues.length D.dues.length, i64 (stA (lstT D am pa who d) (bagT D am pa who d) q), i64 br, i64 ow] rfl ?_
            refine r_parE 17 (fun w => w.heap[b5]? = some (.cells ([.slice (some ⟨b, 0, none⟩) D.dues.length D.dues.length, i64 (stA (lstT D am pa who d) (bagT D am pa who d) q), i64 br, i64 ow] : List Value).toArray 81 (0, 0))) (fun X F w h => h.bl (List.mem_append_right _ (HasBox.mem (b := b5)))) [10, 11, 12, 13] 14 (by kernel_rfl) (by kernel_rfl) (by kernel_rfl) (by kernel_rfl) (by kernel_rfl) (by kernel_rfl) (by kernel_rfl) (by kernel_rfl) mixed (by kernel_rfl) (by rfl) ?_
            refine p_q _ rfl rfl rfl (fun _ _ => v_fieldAddr rfl Tryd.underlying81 inf41 rfl rfl rfl rfl) ?_
            refine p_q _ rfl rfl rfl (fun _ _ => v_ld1 rfl Tryd.underlying41 rfl rfl rfl) ?_
            refine p_q _ rfl rfl rfl (fun _ _ => v_move rfl rfl) ?_
            refine p_q _ rfl rfl rfl (fun _ _ => v_fieldAddr rfl Tryd.underlying81 inf41 rfl rfl rfl rfl) ?_
            refine p_q _ rfl rfl rfl (fun _ _ => v_ld1 rfl Tryd.underlying41 rfl rfl rfl) ?_
            refine p_q _ rfl rfl rfl (fun _ _ => v_move rfl rfl) ?_
            refine p_q _ rfl rfl rfl (fun _ _ => v_indexAddrB rfl Tryd.underlying41 inf3 rfl rfl (by omega)) ?_
            refine p_q _ rfl rfl rfl (fun _ _ => v_cast (v := i64 L) (v_ld1 rfl Tryd.underlying3 rfl rfl (boxI_get (by rw [arr_len]; omega))) (i64c ((arr_at (by omega)).trans (hL)))) ?_
            refine p_q _ rfl rfl rfl (fun _ _ => v_move rfl rfl) ?_
            refine p_q _ rfl rfl rfl (fun _ _ => v_sub rfl rfl rfl (by omega)) ?_
            refine p_q _ rfl rfl rfl (fun _ _ => v_fieldAddr rfl Tryd.underlying81 inf3 rfl rfl rfl rfl) ?_
            refine p_q _ rfl rfl rfl (fun _ _ => v_ld1 rfl Tryd.underlying3 rfl rfl rfl) ?_
            refine p_q _ rfl rfl rfl (fun _ _ => v_move rfl rfl) ?_
            refine p_q _ rfl rfl rfl (fun _ _ => v_sub rfl rfl rfl (by omega)) ?_
            refine p_nilF (by simp only [List.nil_append, List.cons_append]; rfl) rfl ⟨⟨_, _, _, rfl, rfl, rfl, rfl, rfl, float_field rfl Tryd.underlying81 inf3 rfl rfl rfl rfl⟩, ⟨_, _, _, rfl, rfl, rfl, rfl, rfl, float_cell (vs := [.slice (some ⟨b, 0, none⟩) D.dues.length D.dues.length, i64 (stA (lstT D am pa who d) (bagT D am pa who d) q), i64 br, i64 ow]) (B := 81) rfl Tryd.underlying3 rfl rfl rfl (fun _ h => h)⟩, ⟨_, _, _, rfl, rfl, rfl, rfl, rfl, float_mv rfl rfl⟩, ⟨_, _, _, rfl, rfl, rfl, rfl, rfl, float_subZ rfl rfl rfl (by omega)⟩, trivial⟩ ?_
            refine f_q rfl ?_
            refine f_q rfl ?_
            refine f_q rfl ?_
            refine f_q rfl ?_
            refine f_q rfl ?_
            refine f_q rfl ?_
            refine f_q rfl ?_
            refine f_q rfl ?_
            refine f_q rfl ?_
            refine f_q rfl ?_
            refine f_q rfl ?_
            refine f_q rfl ?_
            refine f_q rfl ?_
            refine f_q rfl ?_
            refine f_nil ?_
            refine oe_lift (fun w h => h.bl (HasBox.mem (b := b5))) ?_
            refine o_q _ rfl rfl rfl (v_indexAddrB rfl Tryd.underlying41 inf3 rfl rfl (by omega)) ?_
            refine o_nil ?_
            refine r_then ?_
            refine oe_lift (fun w h => h.bl (HasBox.mem (b := b5))) ?_
            refine o_st rfl inf3 rfl rfl rfl rfl rfl rfl rfl (boxI_ble (by rw [arr_len]; omega)) ?_
            refine o_nil ?_
            refine r_then ?_
            refine oe_lift (fun w h => h.bl (HasBox.mem (b := b5))) ?_
            refine o_q _ rfl rfl rfl (v_fieldAddr rfl Tryd.underlying81 inf3 rfl rfl rfl rfl) ?_
            refine o_nil ?_
            refine r_then ?_
            refine oe_lift (fun w h => h.bl (HasBox.mem (b := b5))) ?_
            refine o_st rfl inf3 rfl rfl rfl rfl rfl rfl rfl rfl ?_
            refine o_nil ?_
            refine r_then ?_
            refine oe_nil ?_
            refine r_nop ?_
            with_reducible refine r_in_normal ?_; refine r_then ?_
            exact r_next (q2) (by refine Imp.box_to b ((arrL (stP (lstT D am pa who d) (bagT D am pa who d) q2) D.dues.length).flatMap encI) (box_next (by rw [arr_len]; omega) hsP) ?_; refine Imp.box_to b5 [.slice (some ⟨b, 0, none⟩) D.dues.length D.dues.length, i64 (stA (lstT D am pa who d) (bagT D am pa who d) q2), i64 br, i64 ow] (by rw [hsA]; rfl) ?_; exact r_here (by (repeat (first | exact FSub.nil | refine FSub.cons rfl ?_)); first | done | fail) SelMC.sel SubRC.sub) (by exact hq3) (by show (lstT D am pa who d).length - q2 < (lstT D am pa who d).length - q; omega)
        ·
          first
          | (exfalso; revert hc21; decide)
          | skip
            refine r_exit ?_
            with_reducible refine r_then_exit ?_; refine r_then_exit ?_; refine r_in_here ?_; refine r_then ?_
            refine r_seq ?_
            obtain ⟨hf1, hf2⟩ : (stP (lstT D am pa who d) (bagT D am pa who d) q) = (payF (lstT D am pa who d) (bagT D am pa who d)) ∧ (stA (lstT D am pa who d) (bagT D am pa who d) q) = (restF (lstT D am pa who d) (bagT D am pa who d)) := by first | exact ⟨he1, he2⟩ | exact st_end (lst_fit hg h who d hd).pos (bag_bd hg h who d hd).1 (by omega)
            rw [hf1, hf2]
            refine r_region ?_
            refine o_q _ rfl rfl rfl (v_ldW rfl Tryd.underlying81 rfl inf81 rfl rfl) ?_
            refine o_st rfl inf81 rfl rfl rfl rfl rfl rfl rfl rfl ?_
            refine o_nil ?_
            with_reducible refine r_then ?_
            refine r_ret ?_
            refine Imp.box_to b8 [.slice (some ⟨b, 0, none⟩) D.dues.length D.dues.length, i64 (restF (lstT D am pa who d) (bagT D am pa who d)), i64 br, i64 ow] rfl ?_
            exact r_rete [bx b 3 ((arrL (payF (lstT D am pa who d) (bagT D am pa who d)) D.dues.length).flatMap encI)] [] (Rd.one rfl (RdI.cellW Tryd.underlying81 rfl inf81 rfl rfl)) ⟨rfl, rfl, rfl⟩ SelMC.sel SubRC.sub
end Go.Proofs.YtpfgiednfjfdmaaDoor


namespace Go.Proofs.YtpfgiednfjfdmaaDoor
open Go.G Debt10
set_option maxRecDepth 1000000
attribute [local irreducible] G.ParO G.Fin
section
variable {D : Debt} {am pa : List Int} (hg : GoodD D) (h : TruD D am pa)
abbrev setX (D : Debt) (am pa : List Int) (who : Int) (d : Nat) : Nat := setT ((accT D am pa who (d + 1)).1.filter isOpen)
def sumX (D : Debt) (am pa : List Int) (d : Nat) : Nat → Int
  | 0 => 0
  | k + 1 => sumX D am pa d k + total (accT D am pa (k : Int) (d + 1)).1
include hg h
end
attribute [local irreducible] leftT aheadT gradeS setT sumT trA trP acc0
variable (D : Debt) (uo po : Option Addr) (uc pc : Nat)
end Go.Proofs.YtpfgiednfjfdmaaDoor


namespace Go.Proofs.YtpfgiednfjfdmaaDoor
open Go.G Debt10
set_option maxRecDepth 1000000
attribute [local irreducible] G.ParO G.Fin
section
variable {D : Debt} {am pa : List Int} (hg : GoodD D) (h : TruD D am pa)
include hg h
end
attribute [local irreducible] leftT aheadT gradeS setT sumT trA trP acc0 lateK setK
variable (D : Debt) (uo po : Option Addr) (uc pc : Nat)
end Go.Proofs.YtpfgiednfjfdmaaDoor


namespace Go.Proofs.YtpfgiednfjfdmaaDoor
open Go.G Debt10
set_option maxRecDepth 1000000
attribute [local irreducible] G.ParO G.Fin
attribute [local irreducible] leftT aheadT gradeS setT trA trP acc0 setK
/-- What a call of the reference's account hands back besides: where it lies, what was brought, what is its own. -/
abbrev AcX (c : Int) : Type := { y : Nat × Int × Int // (0 ≤ y.2.1 ∧ y.2.1 ≤ c) ∧ (0 ≤ y.2.2 ∧ y.2.2 ≤ c) }
theorem row_w {α : Type} {oa : Option Addr} {sz : Nat} {enc : α → List Value} {xs : List α} {w : World} (h : rowD oa sz enc xs (full w)) (hne : 0 < xs.length) : ∃ b off, oa = some ⟨b, off, none⟩ ∧ ∀ (i j : Nat) (h : i < xs.length), j < sz → w.cell? ⟨b, off + i * sz + j, none⟩ = (enc xs[i])[j]? := by
  rcases h with h0 | ⟨b, off, C, T, fr, h1, h2, h3⟩
  · subst h0; simp at hne
  · refine ⟨b, off, h1, fun i j hi hj => ?_⟩
    have h2' : w.heap[b]? = some (.cells C T fr) := h2
    rw [cell_of_row w b _ C T fr h2']; exact h3 i j hi hj
theorem float_idx {P : Program} {n : Nat} {L : Tm} {o : Oper} {Z : World → Prop} {α : Type} {oa : Option Addr} {sz : Nat} {enc : α → List Value} {xs : List α} {T : TypeId} {x ix : Operand} {l c : Nat} {e : TypeId} {i : TypeInfo} {k : Nat} {kd : IntKind} (ho : o.op = .indexAddr T x ix) (hT : P.underlying T = some (.slice e)) (hi : P.info? e = some i) (hx : ev L x = some (.slice oa l c)) (hk : ev L ix = some (.int kd (k : Int))) (hsz : i.size = sz) (h1 : k < l) (hl : l = xs.length) (hz : ∀ w, Z w → rowD oa sz enc xs (full w)) : ∀ a, FSat n L a → ∀ w, Z w → (execOp a.eval o).run P w = .ok (.value (pe oa k sz 0)) w := fun g g1 w g2 => by
  subst hl hsz
  obtain ⟨b, off, rfl, _⟩ := row_w (hz w g2) (by omega)
  have h0 : (0 : Int) ≤ (k : Int) := by omega
  have h2 : (k : Int) < (xs.length : Int) := by omega
  simp [execOp, ho, g1.ev hx, g1.ev hk, Instr.indexAt, run_underlying hT, asIntOf, h0, h2, h1, run_sizeOf' hi, add_at, pe]
theorem float_elt {P : Program} {n : Nat} {L : Tm} {o : Oper} {Z : World → Prop} {α : Type} [Inhabited α] {oa : Option Addr} {sz : Nat} {enc : α → List Value} {xs : List α} {T : TypeId} {x : Operand} {a j : Nat} {v : Value} {d : TypeDesc} (ho : o.op = .load T x) (hT : P.underlying T = some d) (hd : aggD d = false) (hx : ev L x = some (pe oa a sz j)) (ha : a < xs.length) (hj : Nat.blt j sz = true) (hv : (enc (xs.getD a default))[j]? = some v) (hz : ∀ w, Z w → rowD oa sz enc xs (full w)) : ∀ a, FSat n L a → ∀ w, Z w → (execOp a.eval o).run P w = .ok (.value v) w := fun f h1 w h2 => by
  obtain ⟨b, off, rfl, hc⟩ := row_w (hz w h2) (by omega)
  have hcell := hc a j ha (by simpa using hj)
  rw [show xs.getD a default = xs[a] from by simp [List.getD, ha]] at hv
  rw [hv] at hcell
  have hagg := run_isAgg' (w := w) hT
  rw [hd] at hagg
  simp [execOp, ho, h1.ev hx, Instr.loadAt, pe, Instr.sureAddr, loadVar, hagg, hcell]
variable (D : Debt) (uo po : Option Addr) (uc pc : Nat)
set_option maxHeartbeats 4000000 in
theorem before_0 (am pa : List Int) (ao qo : Option Addr) (ac qc : Nat) (hg : GoodD D) (h : TruD D am pa) (who : Int) (d : Nat) (hd : d ≤ 30) (hd0 : d = 0) : FnS Tryd.prog 75 [valD D uo po uc pc, vTr ao am.length ac qo pa.length qc, i64 who, i64 (d : Int), i64 0] [] [rowD uo 5 encD D.dues, rowD po 4 encP D.paid, rowD ao 1 encI am, rowD qo 1 encI pa] (fun e M' R' => ∃ x : AcX (4000 * (d : Int) + 3500), e = .returned (.agg ([.slice (some ⟨x.1.1, 0, none⟩) D.dues.length D.dues.length, i64 (restF (lstT D am pa who d) (bagT D am pa who d)), i64 x.1.2.1, i64 x.1.2.2] : List Value).toArray) ∧ M' = [bx x.1.1 3 ((arrL (payF (lstT D am pa who d) (bagT D am pa who d)) D.dues.length).flatMap encI)] ∧ R' = []) := by
  have hp1 := hg.np
  have hp2 := hg.nd
  have hp3 := hg.ny
  have hna := h.na
  have hnp := h.np
  refine FnS.intro0 Tryd.call75 Tryd.func75 rfl Tryd.ntmps75 rfl ?_
  intro W M Rf
  refine r_seq ?_
  refine r_region ?_
  refine o_boxA rfl rfl rfl rfl rfl (fun b5 => ?_)
  refine o_boxA rfl rfl rfl rfl rfl (fun b6 => ?_)
  refine o_alloc rfl inf81 rfl rfl rfl rfl rfl (fun b10 => ?_)
  refine o_nil ?_
  with_reducible refine r_then ?_
  refine r_seq ?_
  refine r_region ?_
  refine o_q _ rfl rfl rfl (v_fieldAddr rfl Tryd.underlying25 inf22 rfl rfl rfl rfl) ?_
  refine o_q _ rfl rfl rfl (v_ld1 rfl Tryd.underlying22 rfl rfl rfl) ?_
  refine o_q _ rfl rfl rfl (v_len rfl rfl Tryd.underlying22 rfl) ?_
  refine o_make (enc := encI) (sz := 1) (0 : Int) rfl Tryd.underlying41 inf3 rfl rfl rfl rfl rfl rfl rfl rfl rfl (Nat.le_refl _) ⟨by omega, by decide⟩ (fun b17 => ?_)
  refine o_q _ rfl rfl rfl (v_bSp (us := [.slice (some ⟨b17, 0, none⟩) D.dues.length D.dues.length, i64 0, i64 0, i64 0]) rfl Tryd.underlying81 inf81 plt81 rfl rfl rfl (by repeat (first | exact trivial | refine ⟨rfl, ?_⟩)) (by show 1 ≤ 4; decide) rfl) ?_
  refine o_alloc rfl inf81 rfl rfl rfl rfl rfl (fun b11 => ?_)
  refine o_st rfl inf81 rfl rfl rfl rfl rfl rfl rfl rfl ?_
  refine o_nil ?_
  with_reducible refine r_then ?_
  refine r_seq ?_
  refine r_seq ?_
  refine Imp.own_to (.slice (some ⟨b17, 0, none⟩) D.dues.length D.dues.length) (arrL [] D.dues.length) (arr_nil _) ?_
  refine Imp.boxOwn2 b17 D.dues.length (arr_len _ _).symm ?_
  refine r_region ?_
  refine o_q _ rfl rfl rfl (v_move rfl rfl) ?_
  refine o_q _ rfl rfl rfl (v_gtr rfl rfl rfl) ?_
  refine o_nil ?_
  with_reducible refine r_then ?_
  refine r_condd rfl (fun hc20 => ?_) (fun hc20 => ?_)
  ·
    (exfalso; omega)
  ·
    refine r_skip ?_
    with_reducible refine r_then ?_
    refine r_seq ?_
    refine r_seq ?_
    obtain ⟨b, rfl⟩ : ∃ b, b = b17 := ⟨_, rfl⟩
    obtain ⟨br, hbr0⟩ : ∃ br : Int, br = 0 := ⟨0, rfl⟩
    obtain ⟨ow, how0⟩ : ∃ ow : Int, ow = 0 := ⟨0, rfl⟩
    refine Imp.box_to b11 [.slice (some ⟨b, 0, none⟩) D.dues.length D.dues.length, i64 (accT D am pa who (d)).2, i64 br, i64 ow] (by rw [hbr0, how0, hd0]; unfold acc0; rfl) ?_
    refine Imp.box_to b ((arrL (accT D am pa who (d)).1 D.dues.length).flatMap encI) (by rw [hd0]; unfold acc0; rfl) ?_
    refine r_region ?_
    refine o_q _ rfl rfl rfl (v_assign rfl rfl) ?_
    refine o_nil ?_
    with_reducible refine r_then ?_
    refine r_block ?_
    refine r_loop (ι := Nat × Int) (fun gh => gh.1 ≤ D.dues.length ∧ (0 ≤ gh.2 ∧ gh.2 ≤ 4000 * (d : Int) + 500 * (gh.1 : Int))) (fun gh => [(2, i64 who), (3, i64 (d : Int)), (4, i64 0), (5, pt b5 0), (6, pt b6 0), (10, pt b10 0), (11, pt b11 0), (12, i64 (gh.1 : Int))]) (fun gh => bx b 3 ((arrL ((accT D am pa who (d)).1 ++ newTo D (amF am) who d gh.1) D.dues.length).flatMap encI) :: bx b11 81 [.slice (some ⟨b, 0, none⟩) D.dues.length D.dues.length, i64 (accT D am pa who (d)).2, i64 br, i64 gh.2] :: bx b6 43 [.slice ao am.length ac, .slice qo pa.length qc] :: bx b5 25 (cellsD D uo po uc pc) :: bx b10 81 [.slice none 0 0, i64 0, i64 0, i64 0] :: M) (fun gh => [rowD uo 5 encD D.dues, rowD po 4 encP D.paid, rowD ao 1 encI am, rowD qo 1 encI pa] ++ Rf) (fun gh => D.dues.length - gh.1) (0, ow) ?_ ?_ ?_
    ·
      refine Imp.box_to b ((arrL ((accT D am pa who (d)).1 ++ newTo D (amF am) who d 0) D.dues.length).flatMap encI) (by rw [show newTo D (amF am) who d 0 = [] from rfl, List.append_nil]) ?_
      refine Imp.box_to b6 [.slice ao am.length ac, .slice qo pa.length qc] rfl ?_
      refine Imp.box_to b10 [.slice none 0 0, i64 0, i64 0, i64 0] rfl ?_
      exact r_here (by (repeat (first | exact FSub.nil | refine FSub.cons rfl ?_)); first | done | fail) SelMC.sel SubRC.sub
    ·
      exact ⟨Nat.zero_le _, by show 0 ≤ ow; omega, by show ow ≤ 4000 * (d : Int) + 500 * ((0 : Nat) : Int); omega⟩
    ·
      rintro ⟨k, ow1⟩ hI0
      dsimp only at hI0
      dsimp only
      obtain ⟨hk1, hk2, hk3⟩ := hI0
      refine r_seq ?_
      refine r_seq ?_
      refine r_region ?_
      refine o_q _ rfl rfl rfl (v_move rfl rfl) ?_
      refine o_q _ rfl rfl rfl (v_fieldAddr rfl Tryd.underlying25 inf22 rfl rfl rfl rfl) ?_
      refine o_q _ rfl rfl rfl (v_ld1 rfl Tryd.underlying22 rfl rfl rfl) ?_
      refine o_q _ rfl rfl rfl (v_len rfl rfl Tryd.underlying22 rfl) ?_
      refine o_q _ rfl rfl rfl (v_lss rfl rfl rfl) ?_
      refine o_nil ?_
      with_reducible refine r_then ?_
      refine r_condd rfl (fun hc31 => ?_) (fun hc31 => ?_)
      ·
        refine r_skip ?_
        with_reducible refine r_then ?_
        refine r_seq ?_
        refine r_block ?_
        refine r_seq ?_
        refine r_region ?_
        refine o_q _ rfl rfl rfl (v_fieldAddr rfl Tryd.underlying25 inf22 rfl rfl rfl rfl) ?_
        refine o_q _ rfl rfl rfl (v_ld1 rfl Tryd.underlying22 rfl rfl rfl) ?_
        refine o_q _ rfl rfl rfl (v_move rfl rfl) ?_
        refine o_q _ rfl rfl rfl (v_indexAddrSn rfl Tryd.underlying22 inf62 rfl rfl rfl (by omega) rfl) ?_
        refine o_q _ rfl rfl rfl (v_fieldAddr rfl Tryd.underlying62 inf3 rfl rfl rfl rfl) ?_
        refine o_q _ rfl rfl rfl (v_loadE1 (v := i64 (D.dues.getD k default).who) (j := 0) rfl Tryd.underlying3 rfl rfl (by omega) rfl rfl) ?_
        refine o_q _ rfl rfl rfl (v_move rfl rfl) ?_
        refine o_test rfl rfl rfl (v_eql rfl rfl rfl) (fun h41 => ?_) (fun h41 => ?_)
        all_goals
          refine o_q _ rfl rfl rfl (v_move rfl rfl) ?_
          first | refine o_gn rfl rfl rfl rfl ?_ | refine o_g _ rfl rfl rfl rfl (v_fieldAddr rfl Tryd.underlying25 inf22 rfl rfl rfl rfl) ?_
          first | refine o_gn rfl rfl rfl rfl ?_ | refine o_g _ rfl rfl rfl rfl (v_ld1 rfl Tryd.underlying22 rfl rfl rfl) ?_
          first | refine o_gn rfl rfl rfl rfl ?_ | refine o_g _ rfl rfl rfl rfl (v_move rfl rfl) ?_
          first | refine o_gn rfl rfl rfl rfl ?_ | refine o_g _ rfl rfl rfl rfl (v_indexAddrSn rfl Tryd.underlying22 inf62 rfl rfl rfl (by omega) rfl) ?_
          first | refine o_gn rfl rfl rfl rfl ?_ | refine o_g _ rfl rfl rfl rfl (v_fieldAddr rfl Tryd.underlying62 inf3 rfl rfl rfl rfl) ?_
          first | refine o_gn rfl rfl rfl rfl ?_ | refine o_g _ rfl rfl rfl rfl (v_loadE1 (v := i64 (D.dues.getD k default).day) (j := 1) rfl Tryd.underlying3 rfl rfl (by omega) rfl rfl) ?_
          first | refine o_gn rfl rfl rfl rfl ?_ | refine o_g _ rfl rfl rfl rfl (v_move rfl rfl) ?_
          first | refine o_gn rfl rfl rfl rfl ?_ | refine o_gtest rfl rfl rfl rfl (v_eql rfl rfl rfl) (fun h50 => ?_) (fun h50 => ?_)
          all_goals
            first | refine o_q _ rfl rfl rfl (v_pick_t rfl rfl rfl) ?_ | refine o_q _ rfl rfl rfl (v_pick_f rfl rfl rfl) ?_
            refine o_nil ?_
            with_reducible refine r_then ?_
            refine r_cond rfl (fun hc51 => ?_) (fun hc51 => ?_)
            ·
              first
              | (exfalso; revert hc51; decide)
              | skip
                refine r_seq ?_
                refine r_par' 8 mixed (by kernel_rfl) (by rfl) ?_
                refine p_q _ rfl rfl rfl (fun _ _ => v_fieldAddr rfl Tryd.underlying81 inf41 rfl rfl rfl rfl) ?_
                refine p_q _ rfl rfl rfl (fun _ _ => v_ld1 rfl Tryd.underlying41 rfl rfl rfl) ?_
                refine p_q _ rfl rfl rfl (fun _ _ => v_move rfl rfl) ?_
                refine p_q _ rfl rfl rfl (fun _ _ => v_fieldAddr rfl Tryd.underlying43 inf41 rfl rfl rfl rfl) ?_
                refine p_q _ rfl rfl rfl (fun _ _ => v_ld1 rfl Tryd.underlying41 rfl rfl rfl) ?_
                refine p_q _ rfl rfl rfl (fun _ _ => v_move rfl rfl) ?_
                refine p_q _ rfl rfl rfl (fun _ _ => v_indexAddrSn rfl Tryd.underlying41 inf3 rfl rfl rfl (by omega) rfl) ?_
                refine p_q _ rfl rfl rfl (fun _ _ => v_loadE1 (v := i64 (am.getD k default)) rfl Tryd.underlying3 rfl rfl (by omega) rfl rfl) ?_
                refine p_nil2 (by simp only [List.nil_append, List.cons_append]; rfl) rfl ?_
                refine f_q rfl ?_
                refine f_q rfl ?_
                refine f_q rfl ?_
                refine f_q rfl ?_
                refine f_q rfl ?_
                refine f_q rfl ?_
                refine f_q rfl ?_
                refine f_q rfl ?_
                refine f_nil ?_
                refine o_q _ rfl rfl rfl (v_indexAddrB rfl Tryd.underlying41 inf3 rfl rfl (by omega)) ?_
                refine o_st rfl inf3 rfl rfl rfl rfl rfl rfl rfl (boxI_ble (by rw [arr_len]; omega)) ?_
                refine o_nil ?_
                with_reducible refine r_then ?_
                have hak := h.bdA hg k (by omega)
                refine r_par' 8 mixed (by kernel_rfl) (by rfl) ?_
                refine p_q _ rfl rfl rfl (fun _ _ => v_fieldAddr rfl Tryd.underlying81 inf3 rfl rfl rfl rfl) ?_
                refine p_q _ rfl rfl rfl (fun _ _ => v_ld1 rfl Tryd.underlying3 rfl rfl rfl) ?_
                refine p_q _ rfl rfl rfl (fun _ _ => v_fieldAddr rfl Tryd.underlying43 inf41 rfl rfl rfl rfl) ?_
                refine p_q _ rfl rfl rfl (fun _ _ => v_ld1 rfl Tryd.underlying41 rfl rfl rfl) ?_
                refine p_q _ rfl rfl rfl (fun _ _ => v_move rfl rfl) ?_
                refine p_q _ rfl rfl rfl (fun _ _ => v_indexAddrSn rfl Tryd.underlying41 inf3 rfl rfl rfl (by omega) rfl) ?_
                refine p_q _ rfl rfl rfl (fun _ _ => v_loadE1 (v := i64 (am.getD k default)) rfl Tryd.underlying3 rfl rfl (by omega) rfl rfl) ?_
                refine p_q _ rfl rfl rfl (fun _ _ => v_add rfl rfl rfl (by omega)) ?_
                refine p_nil2 (by simp only [List.nil_append, List.cons_append]; rfl) rfl ?_
                refine f_q rfl ?_
                refine f_q rfl ?_
                refine f_q rfl ?_
                refine f_q rfl ?_
                refine f_q rfl ?_
                refine f_q rfl ?_
                refine f_q rfl ?_
                refine f_q rfl ?_
                refine f_nil ?_
                refine o_q _ rfl rfl rfl (v_fieldAddr rfl Tryd.underlying81 inf3 rfl rfl rfl rfl) ?_
                refine o_st rfl inf3 rfl rfl rfl rfl rfl rfl rfl rfl ?_
                refine o_nil ?_
                with_reducible refine r_in_normal ?_; refine r_then ?_
                refine r_region ?_
                refine o_q _ rfl rfl rfl (v_move rfl rfl) ?_
                refine o_q _ rfl rfl rfl (v_add rfl rfl rfl (by omega)) ?_
                refine o_q _ rfl rfl rfl (v_assign rfl rfl) ?_
                refine o_nil ?_
                with_reducible refine r_then ?_
                exact r_next ((k + 1, ow1 + am.getD k default)) (by refine Imp.box_to b11 [.slice (some ⟨b, 0, none⟩) D.dues.length D.dues.length, i64 (accT D am pa who (d)).2, i64 br, i64 (ow1 + am.getD k default)] rfl ?_; refine Imp.box_to b ((arrL ((accT D am pa who (d)).1 ++ newTo D (amF am) who d (k + 1)) D.dues.length).flatMap encI) (box_next (by rw [arr_len]; omega) (new_arrT hg h who d (k := k) (by omega) (by assumption) (by assumption))) ?_; exact r_here (by (repeat (first | exact FSub.nil | refine FSub.cons rfl ?_)); first | done | fail) SelMC.sel SubRC.sub) (by exact ⟨by show k + 1 ≤ _; omega, by show 0 ≤ ow1 + _; omega, by show ow1 + _ ≤ 4000 * (d : Int) + 500 * ((k + 1 : Nat) : Int); omega⟩) (by show D.dues.length - (k + 1) < D.dues.length - k; omega)
            ·
              first
              | (exfalso; revert hc51; decide)
              | skip
                refine r_skip ?_
                with_reducible refine r_in_normal ?_; refine r_then ?_
                refine r_region ?_
                refine o_q _ rfl rfl rfl (v_move rfl rfl) ?_
                refine o_q _ rfl rfl rfl (v_add rfl rfl rfl (by omega)) ?_
                refine o_q _ rfl rfl rfl (v_assign rfl rfl) ?_
                refine o_nil ?_
                with_reducible refine r_then ?_
                exact r_next ((k + 1, ow1)) (by refine Imp.box_to b ((arrL ((accT D am pa who (d)).1 ++ newTo D (amF am) who d (k + 1)) D.dues.length).flatMap encI) (by rw [newTo_n (D := D) (am := amF am) (who := who) (d := d) (k := k) (by omega)]) ?_; exact r_here (by (repeat (first | exact FSub.nil | refine FSub.cons rfl ?_)); first | done | fail) SelMC.sel SubRC.sub) (by exact ⟨by show k + 1 ≤ _; omega, by show 0 ≤ ow1; omega, by show ow1 ≤ 4000 * (d : Int) + 500 * ((k + 1 : Nat) : Int); omega⟩) (by show D.dues.length - (k + 1) < D.dues.length - k; omega)
      ·
        refine r_exit ?_
        with_reducible refine r_then_exit ?_; refine r_then_exit ?_; refine r_in_here ?_; refine r_then ?_
        refine r_seq ?_
        obtain rfl : k = D.dues.length := by omega
        have hbd := accT_fit hg h who d
        refine r_region ?_
        refine o_q _ rfl rfl rfl (v_fieldAddr rfl Tryd.underlying81 inf3 rfl rfl rfl rfl) ?_
        refine o_q _ rfl rfl rfl (v_ld1 rfl Tryd.underlying3 rfl rfl rfl) ?_
        refine o_q _ rfl rfl rfl (v_move rfl rfl) ?_
        refine o_q _ rfl rfl rfl (v_add rfl rfl rfl (by omega)) ?_
        refine o_q _ rfl rfl rfl (v_fieldAddr rfl Tryd.underlying81 inf3 rfl rfl rfl rfl) ?_
        refine o_q _ rfl rfl rfl (v_ld1 rfl Tryd.underlying3 rfl rfl rfl) ?_
        refine o_q _ rfl rfl rfl (v_move rfl rfl) ?_
        refine o_q _ rfl rfl rfl (v_add rfl rfl rfl (by omega)) ?_
        refine o_q _ rfl rfl rfl (v_fieldAddr rfl Tryd.underlying81 inf3 rfl rfl rfl rfl) ?_
        refine o_st rfl inf3 rfl rfl rfl rfl rfl rfl rfl rfl ?_
        refine o_q _ rfl rfl rfl (v_fieldAddr rfl Tryd.underlying81 inf3 rfl rfl rfl rfl) ?_
        refine o_st rfl inf3 rfl rfl rfl rfl rfl rfl rfl rfl ?_
        refine o_nil ?_
        with_reducible refine r_then ?_
        refine r_seq ?_
        refine r_seq ?_
        refine Imp.box_to b11 [.slice (some ⟨b, 0, none⟩) D.dues.length D.dues.length, i64 ((accT D am pa who (d)).2 + (paidTo D (amF pa) who d 0)), i64 br, i64 ow1] (by show ([_, i64 ((accT D am pa who (d)).2 + 0), i64 (br + 0), _] : List Value) = [_, i64 ((accT D am pa who (d)).2 + (paidTo D (amF pa) who d 0)), i64 br, _]; rw [Int.add_zero br]; rfl) ?_
        refine r_region ?_
        refine o_q _ rfl rfl rfl (v_assign rfl rfl) ?_
        refine o_nil ?_
        with_reducible refine r_then ?_
        refine r_block ?_
        refine r_loop (ι := Nat × Int) (fun gh => gh.1 ≤ D.paid.length ∧ (0 ≤ gh.2 ∧ gh.2 ≤ 4000 * (d : Int) + 500 * (gh.1 : Int))) (fun gh => [(2, i64 who), (3, i64 (d : Int)), (4, i64 0), (5, pt b5 0), (6, pt b6 0), (10, pt b10 0), (11, pt b11 0), (13, i64 (gh.1 : Int))]) (fun gh => bx b 3 ((arrL (lstT D am pa who d) D.dues.length).flatMap encI) :: bx b11 81 [.slice (some ⟨b, 0, none⟩) D.dues.length D.dues.length, i64 ((accT D am pa who (d)).2 + (paidTo D (amF pa) who d gh.1)), i64 gh.2, i64 ow1] :: bx b6 43 [.slice ao am.length ac, .slice qo pa.length qc] :: bx b5 25 (cellsD D uo po uc pc) :: bx b10 81 [.slice none 0 0, i64 0, i64 0, i64 0] :: M) (fun gh => [rowD uo 5 encD D.dues, rowD po 4 encP D.paid, rowD ao 1 encI am, rowD qo 1 encI pa] ++ Rf) (fun gh => D.paid.length - gh.1) (0, br) ?_ ?_ ?_
        ·
          refine Imp.box_to b ((arrL (lstT D am pa who d) D.dues.length).flatMap encI) rfl ?_
          exact r_here (by (repeat (first | exact FSub.nil | refine FSub.cons rfl ?_)); first | done | fail) SelMC.sel SubRC.sub
        ·
          exact ⟨Nat.zero_le _, by show 0 ≤ br; omega, by show br ≤ 4000 * (d : Int) + 500 * ((0 : Nat) : Int); omega⟩
        ·
          rintro ⟨k, br1⟩ hI1
          dsimp only at hI1
          dsimp only
          obtain ⟨hj1, hj2, hj3⟩ := hI1
          refine r_seq ?_
          refine r_seq ?_
          refine r_region ?_
          refine o_q _ rfl rfl rfl (v_move rfl rfl) ?_
          refine o_q _ rfl rfl rfl (v_fieldAddr rfl Tryd.underlying25 inf23 rfl rfl rfl rfl) ?_
          refine o_q _ rfl rfl rfl (v_ld1 rfl Tryd.underlying23 rfl rfl rfl) ?_
          refine o_q _ rfl rfl rfl (v_len rfl rfl Tryd.underlying23 rfl) ?_
          refine o_q _ rfl rfl rfl (v_lss rfl rfl rfl) ?_
          refine o_nil ?_
          with_reducible refine r_then ?_
          refine r_condd rfl (fun hc84 => ?_) (fun hc84 => ?_)
          ·
            refine r_skip ?_
            with_reducible refine r_then ?_
            refine r_seq ?_
            refine r_block ?_
            refine r_seq ?_
            refine r_region ?_
            refine o_q _ rfl rfl rfl (v_fieldAddr rfl Tryd.underlying25 inf23 rfl rfl rfl rfl) ?_
            refine o_q _ rfl rfl rfl (v_ld1 rfl Tryd.underlying23 rfl rfl rfl) ?_
            refine o_q _ rfl rfl rfl (v_move rfl rfl) ?_
            refine o_q _ rfl rfl rfl (v_indexAddrSn rfl Tryd.underlying23 inf54 rfl rfl rfl (by omega) rfl) ?_
            refine o_q _ rfl rfl rfl (v_fieldAddr rfl Tryd.underlying54 inf3 rfl rfl rfl rfl) ?_
            refine o_q _ rfl rfl rfl (v_loadE1 (v := i64 (D.paid.getD k default).who) (j := 0) rfl Tryd.underlying3 rfl rfl (by omega) rfl rfl) ?_
            refine o_q _ rfl rfl rfl (v_move rfl rfl) ?_
            refine o_test rfl rfl rfl (v_eql rfl rfl rfl) (fun h94 => ?_) (fun h94 => ?_)
            all_goals
              refine o_q _ rfl rfl rfl (v_move rfl rfl) ?_
              first | refine o_gn rfl rfl rfl rfl ?_ | refine o_g _ rfl rfl rfl rfl (v_fieldAddr rfl Tryd.underlying25 inf23 rfl rfl rfl rfl) ?_
              first | refine o_gn rfl rfl rfl rfl ?_ | refine o_g _ rfl rfl rfl rfl (v_ld1 rfl Tryd.underlying23 rfl rfl rfl) ?_
              first | refine o_gn rfl rfl rfl rfl ?_ | refine o_g _ rfl rfl rfl rfl (v_move rfl rfl) ?_
              first | refine o_gn rfl rfl rfl rfl ?_ | refine o_g _ rfl rfl rfl rfl (v_indexAddrSn rfl Tryd.underlying23 inf54 rfl rfl rfl (by omega) rfl) ?_
              first | refine o_gn rfl rfl rfl rfl ?_ | refine o_g _ rfl rfl rfl rfl (v_fieldAddr rfl Tryd.underlying54 inf3 rfl rfl rfl rfl) ?_
              first | refine o_gn rfl rfl rfl rfl ?_ | refine o_g _ rfl rfl rfl rfl (v_loadE1 (v := i64 (D.paid.getD k default).day) (j := 1) rfl Tryd.underlying3 rfl rfl (by omega) rfl rfl) ?_
              first | refine o_gn rfl rfl rfl rfl ?_ | refine o_g _ rfl rfl rfl rfl (v_move rfl rfl) ?_
              first | refine o_gn rfl rfl rfl rfl ?_ | refine o_gtest rfl rfl rfl rfl (v_eql rfl rfl rfl) (fun h103 => ?_) (fun h103 => ?_)
              all_goals
                first | refine o_q _ rfl rfl rfl (v_pick_t rfl rfl rfl) ?_ | refine o_q _ rfl rfl rfl (v_pick_f rfl rfl rfl) ?_
                refine o_nil ?_
                with_reducible refine r_then ?_
                refine r_cond rfl (fun hc104 => ?_) (fun hc104 => ?_)
                ·
                  first
                  | (exfalso; revert hc104; decide)
                  | skip
                    have hpk := h.bdP hg k (by omega)
                    have hpt := paid_bdT hg h who d (n := k) (by omega)
                    have hbd2 := accT_fit hg h who d
                    refine r_parZ (fun w => w.heap[b6]? = some (.cells ([.slice ao am.length ac, .slice qo pa.length qc] : List Value).toArray 43 (0, 0)) ∧ rowD qo 1 encI pa (full w)) (fun X F w h => ⟨h.bl (List.mem_append_right _ (HasBox.mem (b := b6))), h.fact (φ := rowD qo 1 encI pa) (List.mem_append_right _ (HasRow.mem))⟩) [10, 11, 12, 13, 14, 15] 16 (by kernel_rfl) (by kernel_rfl) (by kernel_rfl) (by kernel_rfl) (by kernel_rfl) mixed (by kernel_rfl) (by rfl) ?_
                    refine p_q _ rfl rfl rfl (fun _ _ => v_fieldAddr rfl Tryd.underlying81 inf3 rfl rfl rfl rfl) ?_
                    refine p_q _ rfl rfl rfl (fun _ _ => v_ld1 rfl Tryd.underlying3 rfl rfl rfl) ?_
                    refine p_q _ rfl rfl rfl (fun _ _ => v_fieldAddr rfl Tryd.underlying43 inf41 rfl rfl rfl rfl) ?_
                    refine p_q _ rfl rfl rfl (fun _ _ => v_ld1 rfl Tryd.underlying41 rfl rfl rfl) ?_
                    refine p_q _ rfl rfl rfl (fun _ _ => v_move rfl rfl) ?_
                    refine p_q _ rfl rfl rfl (fun _ _ => v_indexAddrSn rfl Tryd.underlying41 inf3 rfl rfl rfl (by omega) rfl) ?_
                    refine p_q _ rfl rfl rfl (fun _ _ => v_loadE1 (v := i64 (pa.getD k default)) rfl Tryd.underlying3 rfl rfl (by omega) rfl rfl) ?_
                    refine p_q _ rfl rfl rfl (fun _ _ => v_add rfl rfl rfl (by omega)) ?_
                    refine p_q _ rfl rfl rfl (fun _ _ => v_fieldAddr rfl Tryd.underlying81 inf3 rfl rfl rfl rfl) ?_
                    refine p_q _ rfl rfl rfl (fun _ _ => v_ld1 rfl Tryd.underlying3 rfl rfl rfl) ?_
                    refine p_q _ rfl rfl rfl (fun _ _ => v_fieldAddr rfl Tryd.underlying43 inf41 rfl rfl rfl rfl) ?_
                    refine p_q _ rfl rfl rfl (fun _ _ => v_ld1 rfl Tryd.underlying41 rfl rfl rfl) ?_
                    refine p_q _ rfl rfl rfl (fun _ _ => v_move rfl rfl) ?_
                    refine p_q _ rfl rfl rfl (fun _ _ => v_indexAddrSn rfl Tryd.underlying41 inf3 rfl rfl rfl (by omega) rfl) ?_
                    refine p_q _ rfl rfl rfl (fun _ _ => v_loadE1 (v := i64 (pa.getD k default)) rfl Tryd.underlying3 rfl rfl (by omega) rfl rfl) ?_
                    refine p_q _ rfl rfl rfl (fun _ _ => v_add rfl rfl rfl (by omega)) ?_
                    refine p_nilF (by simp only [List.nil_append, List.cons_append]; rfl) rfl ⟨⟨_, _, _, rfl, rfl, rfl, rfl, rfl, float_field rfl Tryd.underlying43 inf41 rfl rfl rfl rfl⟩, ⟨_, _, _, rfl, rfl, rfl, rfl, rfl, float_cell (vs := [.slice ao am.length ac, .slice qo pa.length qc]) (B := 43) rfl Tryd.underlying41 rfl rfl rfl (fun _ h => h.1)⟩, ⟨_, _, _, rfl, rfl, rfl, rfl, rfl, float_mv rfl rfl⟩, ⟨_, _, _, rfl, rfl, rfl, rfl, rfl, float_idx (k := k) (enc := encI) (xs := pa) rfl Tryd.underlying41 inf3 rfl rfl rfl (by omega) rfl (fun _ h => h.2)⟩, ⟨_, _, _, rfl, rfl, rfl, rfl, rfl, float_elt (v := i64 (pa.getD k default)) (enc := encI) (xs := pa) rfl Tryd.underlying3 rfl rfl (by omega) rfl rfl (fun _ h => h.2)⟩, ⟨_, _, _, rfl, rfl, rfl, rfl, rfl, float_addZ rfl rfl rfl (by omega)⟩, trivial⟩ ?_
                    refine f_q rfl ?_
                    refine f_q rfl ?_
                    refine f_q rfl ?_
                    refine f_q rfl ?_
                    refine f_q rfl ?_
                    refine f_q rfl ?_
                    refine f_q rfl ?_
                    refine f_q rfl ?_
                    refine f_q rfl ?_
                    refine f_q rfl ?_
                    refine f_q rfl ?_
                    refine f_q rfl ?_
                    refine f_q rfl ?_
                    refine f_q rfl ?_
                    refine f_q rfl ?_
                    refine f_q rfl ?_
                    refine f_nil ?_
                    refine oz_lift (fun w h => ⟨h.bl (HasBox.mem (b := b6)), h.fact (φ := rowD qo 1 encI pa) HasRow.mem⟩) ?_
                    refine o_q _ rfl rfl rfl (v_fieldAddr rfl Tryd.underlying81 inf3 rfl rfl rfl rfl) ?_
                    refine o_nil ?_
                    refine r_then ?_
                    refine oz_lift (fun w h => ⟨h.bl (HasBox.mem (b := b6)), h.fact (φ := rowD qo 1 encI pa) HasRow.mem⟩) ?_
                    refine o_st rfl inf3 rfl rfl rfl rfl rfl rfl rfl rfl ?_
                    refine o_nil ?_
                    refine r_then ?_
                    refine oz_lift (fun w h => ⟨h.bl (HasBox.mem (b := b6)), h.fact (φ := rowD qo 1 encI pa) HasRow.mem⟩) ?_
                    refine o_q _ rfl rfl rfl (v_fieldAddr rfl Tryd.underlying81 inf3 rfl rfl rfl rfl) ?_
                    refine o_nil ?_
                    refine r_then ?_
                    refine oz_lift (fun w h => ⟨h.bl (HasBox.mem (b := b6)), h.fact (φ := rowD qo 1 encI pa) HasRow.mem⟩) ?_
                    refine o_st rfl inf3 rfl rfl rfl rfl rfl rfl rfl rfl ?_
                    refine o_nil ?_
                    refine r_then ?_
                    refine oz_nil (fun w h => ⟨h.bl (HasBox.mem (b := b6)), h.fact (φ := rowD qo 1 encI pa) HasRow.mem⟩) ?_
                    refine r_nop ?_
                    with_reducible refine r_in_normal ?_; refine r_then ?_
                    refine r_region ?_
                    refine o_q _ rfl rfl rfl (v_move rfl rfl) ?_
                    refine o_q _ rfl rfl rfl (v_add rfl rfl rfl (by omega)) ?_
                    refine o_q _ rfl rfl rfl (v_assign rfl rfl) ?_
                    refine o_nil ?_
                    with_reducible refine r_then ?_
                    exact r_next ((k + 1, br1 + pa.getD k default)) (by refine Imp.box_to b11 [.slice (some ⟨b, 0, none⟩) D.dues.length D.dues.length, i64 ((accT D am pa who (d)).2 + (paidTo D (amF pa) who d (k + 1))), i64 (br1 + pa.getD k default), i64 ow1] (by rw [← add_y (A := (accT D am pa who (d)).2) (paidTo_y (D := D) (pa := amF pa) (who := who) (d := d) (k := k) (by omega) (by omega))]; rfl) ?_; exact r_here (by (repeat (first | exact FSub.nil | refine FSub.cons rfl ?_)); first | done | fail) SelMC.sel SubRC.sub) (by exact ⟨by show k + 1 ≤ _; omega, by show 0 ≤ br1 + _; omega, by show br1 + _ ≤ 4000 * (d : Int) + 500 * ((k + 1 : Nat) : Int); omega⟩) (by show D.paid.length - (k + 1) < D.paid.length - k; omega)
                ·
                  first
                  | (exfalso; revert hc104; decide)
                  | skip
                    refine r_skip ?_
                    with_reducible refine r_in_normal ?_; refine r_then ?_
                    refine r_region ?_
                    refine o_q _ rfl rfl rfl (v_move rfl rfl) ?_
                    refine o_q _ rfl rfl rfl (v_add rfl rfl rfl (by omega)) ?_
                    refine o_q _ rfl rfl rfl (v_assign rfl rfl) ?_
                    refine o_nil ?_
                    with_reducible refine r_then ?_
                    exact r_next ((k + 1, br1)) (by refine Imp.box_to b11 [.slice (some ⟨b, 0, none⟩) D.dues.length D.dues.length, i64 ((accT D am pa who (d)).2 + (paidTo D (amF pa) who d (k + 1))), i64 br1, i64 ow1] (by rw [paidTo_n (D := D) (pa := amF pa) (who := who) (d := d) (k := k) (by omega)]) ?_; exact r_here (by (repeat (first | exact FSub.nil | refine FSub.cons rfl ?_)); first | done | fail) SelMC.sel SubRC.sub) (by exact ⟨by show k + 1 ≤ _; omega, by show 0 ≤ br1; omega, by show br1 ≤ 4000 * (d : Int) + 500 * ((k + 1 : Nat) : Int); omega⟩) (by show D.paid.length - (k + 1) < D.paid.length - k; omega)
          ·
            refine r_exit ?_
            with_reducible refine r_then_exit ?_; refine r_then_exit ?_; refine r_in_here ?_; refine r_then ?_
            refine r_seq ?_
            obtain rfl : k = D.paid.length := by omega
            refine Imp.box_to b11 [.slice (some ⟨b, 0, none⟩) D.dues.length D.dues.length, i64 (bagT D am pa who d), i64 br1, i64 ow1] rfl ?_
            refine r_region ?_
            refine o_q _ rfl rfl rfl (v_ldW rfl Tryd.underlying25 rfl inf25 rfl rfl) ?_
            refine o_q _ rfl rfl rfl (v_ldW rfl Tryd.underlying81 rfl inf81 rfl rfl) ?_
            refine o_q _ rfl rfl rfl (v_move rfl rfl) ?_
            refine o_q _ rfl rfl rfl (v_move rfl rfl) ?_
            refine o_fnc (pay_c D uo po uc pc am pa b br1 ow1 hg h who d hd) rfl [] [] rfl rfl rfl rfl rfl rfl SubRC.sub ?_
            refine o_st rfl inf81 rfl rfl rfl rfl rfl rfl rfl rfl ?_
            refine o_nil ?_
            with_reducible refine r_then ?_
            refine r_ret ?_
            refine Imp.box_to b10 [.slice (some ⟨b, 0, none⟩) D.dues.length D.dues.length, i64 (restF (lstT D am pa who d) (bagT D am pa who d)), i64 br1, i64 ow1] rfl ?_
            exact r_rete [bx b 3 ((arrL (payF (lstT D am pa who d) (bagT D am pa who d)) D.dues.length).flatMap encI)] [] (Rd.one rfl (RdI.cellW Tryd.underlying81 rfl inf81 rfl rfl)) ⟨⟨(b, br1, ow1), ⟨hj2, by show br1 ≤ 4000 * (d : Int) + 3500; omega⟩, ⟨hk2, by show ow1 ≤ 4000 * (d : Int) + 3500; omega⟩⟩, rfl, rfl, rfl⟩ SelMC.sel SubRC.sub
set_option maxHeartbeats 4000000 in
theorem before_s (am pa : List Int) (ao qo : Option Addr) (ac qc : Nat) (hg : GoodD D) (h : TruD D am pa) (who : Int) (d : Nat) (hd : d ≤ 30) (dp : Nat) (hdp1 : d = dp + 1) (haft : ∀ dp : Nat, d = dp + 1 → FnS Tryd.prog 53 [valD D uo po uc pc, vTr ao am.length ac qo pa.length qc, i64 who, i64 (dp : Int)] [] [rowD uo 5 encD D.dues, rowD po 4 encP D.paid, rowD ao 1 encI am, rowD qo 1 encI pa] (fun e M' R' => ∃ x : AcX (4000 * ((dp : Int) + 1)), e = .returned (.agg ([.slice (some ⟨x.1.1, 0, none⟩) D.dues.length D.dues.length, i64 (accT D am pa who (dp + 1)).2, i64 x.1.2.1, i64 x.1.2.2] : List Value).toArray) ∧ M' = [bx x.1.1 3 ((arrL (accT D am pa who (dp + 1)).1 D.dues.length).flatMap encI)] ∧ R' = [])) : FnS Tryd.prog 75 [valD D uo po uc pc, vTr ao am.length ac qo pa.length qc, i64 who, i64 (d : Int), i64 0] [] [rowD uo 5 encD D.dues, rowD po 4 encP D.paid, rowD ao 1 encI am, rowD qo 1 encI pa] (fun e M' R' => ∃ x : AcX (4000 * (d : Int) + 3500), e = .returned (.agg ([.slice (some ⟨x.1.1, 0, none⟩) D.dues.length D.dues.length, i64 (restF (lstT D am pa who d) (bagT D am pa who d)), i64 x.1.2.1, i64 x.1.2.2] : List Value).toArray) ∧ M' = [bx x.1.1 3 ((arrL (payF (lstT D am pa who d) (bagT D am pa who d)) D.dues.length).flatMap encI)] ∧ R' = []) := by
  have hp1 := hg.np
  have hp2 := hg.nd
  have hp3 := hg.ny
  have hna := h.na
  have hnp := h.np
  refine FnS.intro0 Tryd.call75 Tryd.func75 rfl Tryd.ntmps75 rfl ?_
  intro W M Rf
  refine r_seq ?_
  refine r_region ?_
  refine o_boxA rfl rfl rfl rfl rfl (fun b5 => ?_)
  refine o_boxA rfl rfl rfl rfl rfl (fun b6 => ?_)
  refine o_alloc rfl inf81 rfl rfl rfl rfl rfl (fun b10 => ?_)
  refine o_nil ?_
  with_reducible refine r_then ?_
  refine r_seq ?_
  refine r_region ?_
  refine o_q _ rfl rfl rfl (v_fieldAddr rfl Tryd.underlying25 inf22 rfl rfl rfl rfl) ?_
  refine o_q _ rfl rfl rfl (v_ld1 rfl Tryd.underlying22 rfl rfl rfl) ?_
  refine o_q _ rfl rfl rfl (v_len rfl rfl Tryd.underlying22 rfl) ?_
  refine o_make (enc := encI) (sz := 1) (0 : Int) rfl Tryd.underlying41 inf3 rfl rfl rfl rfl rfl rfl rfl rfl rfl (Nat.le_refl _) ⟨by omega, by decide⟩ (fun b17 => ?_)
  refine o_q _ rfl rfl rfl (v_bSp (us := [.slice (some ⟨b17, 0, none⟩) D.dues.length D.dues.length, i64 0, i64 0, i64 0]) rfl Tryd.underlying81 inf81 plt81 rfl rfl rfl (by repeat (first | exact trivial | refine ⟨rfl, ?_⟩)) (by show 1 ≤ 4; decide) rfl) ?_
  refine o_alloc rfl inf81 rfl rfl rfl rfl rfl (fun b11 => ?_)
  refine o_st rfl inf81 rfl rfl rfl rfl rfl rfl rfl rfl ?_
  refine o_nil ?_
  with_reducible refine r_then ?_
  refine r_seq ?_
  refine r_seq ?_
  refine Imp.own_to (.slice (some ⟨b17, 0, none⟩) D.dues.length D.dues.length) (arrL [] D.dues.length) (arr_nil _) ?_
  refine Imp.boxOwn2 b17 D.dues.length (arr_len _ _).symm ?_
  refine r_region ?_
  refine o_q _ rfl rfl rfl (v_move rfl rfl) ?_
  refine o_q _ rfl rfl rfl (v_gtr rfl rfl rfl) ?_
  refine o_nil ?_
  with_reducible refine r_then ?_
  refine r_condd rfl (fun hc20 => ?_) (fun hc20 => ?_)
  ·
    refine r_region ?_
    refine o_q _ rfl rfl rfl (v_ldW rfl Tryd.underlying25 rfl inf25 rfl rfl) ?_
    refine o_q _ rfl rfl rfl (v_ldW rfl Tryd.underlying43 rfl inf43 rfl rfl) ?_
    refine o_q _ rfl rfl rfl (v_move rfl rfl) ?_
    refine o_q _ rfl rfl rfl (v_move rfl rfl) ?_
    refine o_q _ rfl rfl rfl (v_cast (v := i64 (dp : Int)) (v_sub rfl rfl rfl (by omega)) (i64c (by omega))) ?_
    refine o_fnR (haft dp hdp1) rfl rfl rfl rfl rfl SubRC.sub (fun x26 => ?_)
    refine o_st rfl inf81 rfl rfl rfl rfl rfl rfl rfl rfl ?_
    refine o_nil ?_
    with_reducible refine r_then ?_
    refine r_seq ?_
    refine r_seq ?_
    obtain ⟨⟨b, br, ow⟩, hbr, how⟩ := x26
    replace hbr : 0 ≤ br ∧ br ≤ 4000 * ((dp : Int) + 1) := hbr
    replace how : 0 ≤ ow ∧ ow ≤ 4000 * ((dp : Int) + 1) := how
    refine Imp.box_to b11 [.slice (some ⟨b, 0, none⟩) D.dues.length D.dues.length, i64 (accT D am pa who (d)).2, i64 br, i64 ow] (by rw [hdp1]; rfl) ?_
    refine Imp.box_to b ((arrL (accT D am pa who (d)).1 D.dues.length).flatMap encI) (by rw [hdp1]) ?_
    refine r_region ?_
    refine o_q _ rfl rfl rfl (v_assign rfl rfl) ?_
    refine o_nil ?_
    with_reducible refine r_then ?_
    refine r_block ?_
    refine r_loop (ι := Nat × Int) (fun gh => gh.1 ≤ D.dues.length ∧ (0 ≤ gh.2 ∧ gh.2 ≤ 4000 * (d : Int) + 500 * (gh.1 : Int))) (fun gh => [(2, i64 who), (3, i64 (d : Int)), (4, i64 0), (5, pt b5 0), (6, pt b6 0), (10, pt b10 0), (11, pt b11 0), (12, i64 (gh.1 : Int))]) (fun gh => bx b 3 ((arrL ((accT D am pa who (d)).1 ++ newTo D (amF am) who d gh.1) D.dues.length).flatMap encI) :: bx b11 81 [.slice (some ⟨b, 0, none⟩) D.dues.length D.dues.length, i64 (accT D am pa who (d)).2, i64 br, i64 gh.2] :: bx b6 43 [.slice ao am.length ac, .slice qo pa.length qc] :: bx b5 25 (cellsD D uo po uc pc) :: bx b10 81 [.slice none 0 0, i64 0, i64 0, i64 0] :: M) (fun gh => [rowD uo 5 encD D.dues, rowD po 4 encP D.paid, rowD ao 1 encI am, rowD qo 1 encI pa] ++ Rf) (fun gh => D.dues.length - gh.1) (0, ow) ?_ ?_ ?_
    ·
      refine Imp.box_to b ((arrL ((accT D am pa who (d)).1 ++ newTo D (amF am) who d 0) D.dues.length).flatMap encI) (by rw [show newTo D (amF am) who d 0 = [] from rfl, List.append_nil]) ?_
      refine Imp.box_to b6 [.slice ao am.length ac, .slice qo pa.length qc] rfl ?_
      refine Imp.box_to b10 [.slice none 0 0, i64 0, i64 0, i64 0] rfl ?_
      exact r_here (by (repeat (first | exact FSub.nil | refine FSub.cons rfl ?_)); first | done | fail) SelMC.sel SubRC.sub
    ·
      exact ⟨Nat.zero_le _, by show 0 ≤ ow; omega, by show ow ≤ 4000 * (d : Int) + 500 * ((0 : Nat) : Int); omega⟩
    ·
      rintro ⟨k, ow1⟩ hI0
      dsimp only at hI0
      dsimp only
      obtain ⟨hk1, hk2, hk3⟩ := hI0
      refine r_seq ?_
      refine r_seq ?_
      refine r_region ?_
      refine o_q _ rfl rfl rfl (v_move rfl rfl) ?_
      refine o_q _ rfl rfl rfl (v_fieldAddr rfl Tryd.underlying25 inf22 rfl rfl rfl rfl) ?_
      refine o_q _ rfl rfl rfl (v_ld1 rfl Tryd.underlying22 rfl rfl rfl) ?_
      refine o_q _ rfl rfl rfl (v_len rfl rfl Tryd.underlying22 rfl) ?_
      refine o_q _ rfl rfl rfl (v_lss rfl rfl rfl) ?_
      refine o_nil ?_
      with_reducible refine r_then ?_
      refine r_condd rfl (fun hc31 => ?_) (fun hc31 => ?_)
      ·
        refine r_skip ?_
        with_reducible refine r_then ?_
        refine r_seq ?_
        refine r_block ?_
        refine r_seq ?_
        refine r_region ?_
        refine o_q _ rfl rfl rfl (v_fieldAddr rfl Tryd.underlying25 inf22 rfl rfl rfl rfl) ?_
        refine o_q _ rfl rfl rfl (v_ld1 rfl Tryd.underlying22 rfl rfl rfl) ?_
        refine o_q _ rfl rfl rfl (v_move rfl rfl) ?_
        refine o_q _ rfl rfl rfl (v_indexAddrSn rfl Tryd.underlying22 inf62 rfl rfl rfl (by omega) rfl) ?_
        refine o_q _ rfl rfl rfl (v_fieldAddr rfl Tryd.underlying62 inf3 rfl rfl rfl rfl) ?_
        refine o_q _ rfl rfl rfl (v_loadE1 (v := i64 (D.dues.getD k default).who) (j := 0) rfl Tryd.underlying3 rfl rfl (by omega) rfl rfl) ?_
        refine o_q _ rfl rfl rfl (v_move rfl rfl) ?_
        refine o_test rfl rfl rfl (v_eql rfl rfl rfl) (fun h41 => ?_) (fun h41 => ?_)
        all_goals
          refine o_q _ rfl rfl rfl (v_move rfl rfl) ?_
          first | refine o_gn rfl rfl rfl rfl ?_ | refine o_g _ rfl rfl rfl rfl (v_fieldAddr rfl Tryd.underlying25 inf22 rfl rfl rfl rfl) ?_
          first | refine o_gn rfl rfl rfl rfl ?_ | refine o_g _ rfl rfl rfl rfl (v_ld1 rfl Tryd.underlying22 rfl rfl rfl) ?_
          first | refine o_gn rfl rfl rfl rfl ?_ | refine o_g _ rfl rfl rfl rfl (v_move rfl rfl) ?_
          first | refine o_gn rfl rfl rfl rfl ?_ | refine o_g _ rfl rfl rfl rfl (v_indexAddrSn rfl Tryd.underlying22 inf62 rfl rfl rfl (by omega) rfl) ?_
          first | refine o_gn rfl rfl rfl rfl ?_ | refine o_g _ rfl rfl rfl rfl (v_fieldAddr rfl Tryd.underlying62 inf3 rfl rfl rfl rfl) ?_
          first | refine o_gn rfl rfl rfl rfl ?_ | refine o_g _ rfl rfl rfl rfl (v_loadE1 (v := i64 (D.dues.getD k default).day) (j := 1) rfl Tryd.underlying3 rfl rfl (by omega) rfl rfl) ?_
          first | refine o_gn rfl rfl rfl rfl ?_ | refine o_g _ rfl rfl rfl rfl (v_move rfl rfl) ?_
          first | refine o_gn rfl rfl rfl rfl ?_ | refine o_gtest rfl rfl rfl rfl (v_eql rfl rfl rfl) (fun h50 => ?_) (fun h50 => ?_)
          all_goals
            first | refine o_q _ rfl rfl rfl (v_pick_t rfl rfl rfl) ?_ | refine o_q _ rfl rfl rfl (v_pick_f rfl rfl rfl) ?_
            refine o_nil ?_
            with_reducible refine r_then ?_
            refine r_cond rfl (fun hc51 => ?_) (fun hc51 => ?_)
            ·
              first
              | (exfalso; revert hc51; decide)
              | skip
                refine r_seq ?_
                refine r_par' 8 mixed (by kernel_rfl) (by rfl) ?_
                refine p_q _ rfl rfl rfl (fun _ _ => v_fieldAddr rfl Tryd.underlying81 inf41 rfl rfl rfl rfl) ?_
                refine p_q _ rfl rfl rfl (fun _ _ => v_ld1 rfl Tryd.underlying41 rfl rfl rfl) ?_
                refine p_q _ rfl rfl rfl (fun _ _ => v_move rfl rfl) ?_
                refine p_q _ rfl rfl rfl (fun _ _ => v_fieldAddr rfl Tryd.underlying43 inf41 rfl rfl rfl rfl) ?_
                refine p_q _ rfl rfl rfl (fun _ _ => v_ld1 rfl Tryd.underlying41 rfl rfl rfl) ?_
                refine p_q _ rfl rfl rfl (fun _ _ => v_move rfl rfl) ?_
                refine p_q _ rfl rfl rfl (fun _ _ => v_indexAddrSn rfl Tryd.underlying41 inf3 rfl rfl rfl (by omega) rfl) ?_
                refine p_q _ rfl rfl rfl (fun _ _ => v_loadE1 (v := i64 (am.getD k default)) rfl Tryd.underlying3 rfl rfl (by omega) rfl rfl) ?_
                refine p_nil2 (by simp only [List.nil_append, List.cons_append]; rfl) rfl ?_
                refine f_q rfl ?_
                refine f_q rfl ?_
                refine f_q rfl ?_
                refine f_q rfl ?_
                refine f_q rfl ?_
                refine f_q rfl ?_
                refine f_q rfl ?_
                refine f_q rfl ?_
                refine f_nil ?_
                refine o_q _ rfl rfl rfl (v_indexAddrB rfl Tryd.underlying41 inf3 rfl rfl (by omega)) ?_
                refine o_st rfl inf3 rfl rfl rfl rfl rfl rfl rfl (boxI_ble (by rw [arr_len]; omega)) ?_
                refine o_nil ?_
                with_reducible refine r_then ?_
                have hak := h.bdA hg k (by omega)
                refine r_par' 8 mixed (by kernel_rfl) (by rfl) ?_
                refine p_q _ rfl rfl rfl (fun _ _ => v_fieldAddr rfl Tryd.underlying81 inf3 rfl rfl rfl rfl) ?_
                refine p_q _ rfl rfl rfl (fun _ _ => v_ld1 rfl Tryd.underlying3 rfl rfl rfl) ?_
                refine p_q _ rfl rfl rfl (fun _ _ => v_fieldAddr rfl Tryd.underlying43 inf41 rfl rfl rfl rfl) ?_
                refine p_q _ rfl rfl rfl (fun _ _ => v_ld1 rfl Tryd.underlying41 rfl rfl rfl) ?_
                refine p_q _ rfl rfl rfl (fun _ _ => v_move rfl rfl) ?_
                refine p_q _ rfl rfl rfl (fun _ _ => v_indexAddrSn rfl Tryd.underlying41 inf3 rfl rfl rfl (by omega) rfl) ?_
                refine p_q _ rfl rfl rfl (fun _ _ => v_loadE1 (v := i64 (am.getD k default)) rfl Tryd.underlying3 rfl rfl (by omega) rfl rfl) ?_
                refine p_q _ rfl rfl rfl (fun _ _ => v_add rfl rfl rfl (by omega)) ?_
                refine p_nil2 (by simp only [List.nil_append, List.cons_append]; rfl) rfl ?_
                refine f_q rfl ?_
                refine f_q rfl ?_
                refine f_q rfl ?_
                refine f_q rfl ?_
                refine f_q rfl ?_
                refine f_q rfl ?_
                refine f_q rfl ?_
                refine f_q rfl ?_
                refine f_nil ?_
                refine o_q _ rfl rfl rfl (v_fieldAddr rfl Tryd.underlying81 inf3 rfl rfl rfl rfl) ?_
                refine o_st rfl inf3 rfl rfl rfl rfl rfl rfl rfl rfl ?_
                refine o_nil ?_
                with_reducible refine r_in_normal ?_; refine r_then ?_
                refine r_region ?_
                refine o_q _ rfl rfl rfl (v_move rfl rfl) ?_
                refine o_q _ rfl rfl rfl (v_add rfl rfl rfl (by omega)) ?_
                refine o_q _ rfl rfl rfl (v_assign rfl rfl) ?_
                refine o_nil ?_
                with_reducible refine r_then ?_
                exact r_next ((k + 1, ow1 + am.getD k default)) (by refine Imp.box_to b11 [.slice (some ⟨b, 0, none⟩) D.dues.length D.dues.length, i64 (accT D am pa who (d)).2, i64 br, i64 (ow1 + am.getD k default)] rfl ?_; refine Imp.box_to b ((arrL ((accT D am pa who (d)).1 ++ newTo D (amF am) who d (k + 1)) D.dues.length).flatMap encI) (box_next (by rw [arr_len]; omega) (new_arrT hg h who d (k := k) (by omega) (by assumption) (by assumption))) ?_; exact r_here (by (repeat (first | exact FSub.nil | refine FSub.cons rfl ?_)); first | done | fail) SelMC.sel SubRC.sub) (by exact ⟨by show k + 1 ≤ _; omega, by show 0 ≤ ow1 + _; omega, by show ow1 + _ ≤ 4000 * (d : Int) + 500 * ((k + 1 : Nat) : Int); omega⟩) (by show D.dues.length - (k + 1) < D.dues.length - k; omega)
            ·
              first
              | (exfalso; revert hc51; decide)
              | skip
                refine r_skip ?_
                with_reducible refine r_in_normal ?_; refine r_then ?_
                refine r_region ?_
                refine o_q _ rfl rfl rfl (v_move rfl rfl) ?_
                refine o_q _ rfl rfl rfl (v_add rfl rfl rfl (by omega)) ?_
                refine o_q _ rfl rfl rfl (v_assign rfl rfl) ?_
                refine o_nil ?_
                with_reducible refine r_then ?_
                exact r_next ((k + 1, ow1)) (by refine Imp.box_to b ((arrL ((accT D am pa who (d)).1 ++ newTo D (amF am) who d (k + 1)) D.dues.length).flatMap encI) (by rw [newTo_n (D := D) (am := amF am) (who := who) (d := d) (k := k) (by omega)]) ?_; exact r_here (by (repeat (first | exact FSub.nil | refine FSub.cons rfl ?_)); first | done | fail) SelMC.sel SubRC.sub) (by exact ⟨by show k + 1 ≤ _; omega, by show 0 ≤ ow1; omega, by show ow1 ≤ 4000 * (d : Int) + 500 * ((k + 1 : Nat) : Int); omega⟩) (by show D.dues.length - (k + 1) < D.dues.length - k; omega)
      ·
        refine r_exit ?_
        with_reducible refine r_then_exit ?_; refine r_then_exit ?_; refine r_in_here ?_; refine r_then ?_
        refine r_seq ?_
        obtain rfl : k = D.dues.length := by omega
        have hbd := accT_fit hg h who d
        refine r_region ?_
        refine o_q _ rfl rfl rfl (v_fieldAddr rfl Tryd.underlying81 inf3 rfl rfl rfl rfl) ?_
        refine o_q _ rfl rfl rfl (v_ld1 rfl Tryd.underlying3 rfl rfl rfl) ?_
        refine o_q _ rfl rfl rfl (v_move rfl rfl) ?_
        refine o_q _ rfl rfl rfl (v_add rfl rfl rfl (by omega)) ?_
        refine o_q _ rfl rfl rfl (v_fieldAddr rfl Tryd.underlying81 inf3 rfl rfl rfl rfl) ?_
        refine o_q _ rfl rfl rfl (v_ld1 rfl Tryd.underlying3 rfl rfl rfl) ?_
        refine o_q _ rfl rfl rfl (v_move rfl rfl) ?_
        refine o_q _ rfl rfl rfl (v_add rfl rfl rfl (by omega)) ?_
        refine o_q _ rfl rfl rfl (v_fieldAddr rfl Tryd.underlying81 inf3 rfl rfl rfl rfl) ?_
        refine o_st rfl inf3 rfl rfl rfl rfl rfl rfl rfl rfl ?_
        refine o_q _ rfl rfl rfl (v_fieldAddr rfl Tryd.underlying81 inf3 rfl rfl rfl rfl) ?_
        refine o_st rfl inf3 rfl rfl rfl rfl rfl rfl rfl rfl ?_
        refine o_nil ?_
        with_reducible refine r_then ?_
        refine r_seq ?_
        refine r_seq ?_
        refine Imp.box_to b11 [.slice (some ⟨b, 0, none⟩) D.dues.length D.dues.length, i64 ((accT D am pa who (d)).2 + (paidTo D (amF pa) who d 0)), i64 br, i64 ow1] (by show ([_, i64 ((accT D am pa who (d)).2 + 0), i64 (br + 0), _] : List Value) = [_, i64 ((accT D am pa who (d)).2 + (paidTo D (amF pa) who d 0)), i64 br, _]; rw [Int.add_zero br]; rfl) ?_
        refine r_region ?_
        refine o_q _ rfl rfl rfl (v_assign rfl rfl) ?_
        refine o_nil ?_
        with_reducible refine r_then ?_
        refine r_block ?_
        refine r_loop (ι := Nat × Int) (fun gh => gh.1 ≤ D.paid.length ∧ (0 ≤ gh.2 ∧ gh.2 ≤ 4000 * (d : Int) + 500 * (gh.1 : Int))) (fun gh => [(2, i64 who), (3, i64 (d : Int)), (4, i64 0), (5, pt b5 0), (6, pt b6 0), (10, pt b10 0), (11, pt b11 0), (13, i64 (gh.1 : Int))]) (fun gh => bx b 3 ((arrL (lstT D am pa who d) D.dues.length).flatMap encI) :: bx b11 81 [.slice (some ⟨b, 0, none⟩) D.dues.length D.dues.length, i64 ((accT D am pa who (d)).2 + (paidTo D (amF pa) who d gh.1)), i64 gh.2, i64 ow1] :: bx b6 43 [.slice ao am.length ac, .slice qo pa.length qc] :: bx b5 25 (cellsD D uo po uc pc) :: bx b10 81 [.slice none 0 0, i64 0, i64 0, i64 0] :: M) (fun gh => [rowD uo 5 encD D.dues, rowD po 4 encP D.paid, rowD ao 1 encI am, rowD qo 1 encI pa] ++ Rf) (fun gh => D.paid.length - gh.1) (0, br) ?_ ?_ ?_
        ·
          refine Imp.box_to b ((arrL (lstT D am pa who d) D.dues.length).flatMap encI) rfl ?_
          exact r_here (by (repeat (first | exact FSub.nil | refine FSub.cons rfl ?_)); first | done | fail) SelMC.sel SubRC.sub
        ·
          exact ⟨Nat.zero_le _, by show 0 ≤ br; omega, by show br ≤ 4000 * (d : Int) + 500 * ((0 : Nat) : Int); omega⟩
        ·
          rintro ⟨k, br1⟩ hI1
          dsimp only at hI1
          dsimp only
          obtain ⟨hj1, hj2, hj3⟩ := hI1
          refine r_seq ?_
          refine r_seq ?_
          refine r_region ?_
          refine o_q _ rfl rfl rfl (v_move rfl rfl) ?_
          refine o_q _ rfl rfl rfl (v_fieldAddr rfl Tryd.underlying25 inf23 rfl rfl rfl rfl) ?_
          refine o_q _ rfl rfl rfl (v_ld1 rfl Tryd.underlying23 rfl rfl rfl) ?_
          refine o_q _ rfl rfl rfl (v_len rfl rfl Tryd.underlying23 rfl) ?_
          refine o_q _ rfl rfl rfl (v_lss rfl rfl rfl) ?_
          refine o_nil ?_
          with_reducible refine r_then ?_
          refine r_condd rfl (fun hc84 => ?_) (fun hc84 => ?_)
          ·
            refine r_skip ?_
            with_reducible refine r_then ?_
            refine r_seq ?_
            refine r_block ?_
            refine r_seq ?_
            refine r_region ?_
            refine o_q _ rfl rfl rfl (v_fieldAddr rfl Tryd.underlying25 inf23 rfl rfl rfl rfl) ?_
            refine o_q _ rfl rfl rfl (v_ld1 rfl Tryd.underlying23 rfl rfl rfl) ?_
            refine o_q _ rfl rfl rfl (v_move rfl rfl) ?_
            refine o_q _ rfl rfl rfl (v_indexAddrSn rfl Tryd.underlying23 inf54 rfl rfl rfl (by omega) rfl) ?_
            refine o_q _ rfl rfl rfl (v_fieldAddr rfl Tryd.underlying54 inf3 rfl rfl rfl rfl) ?_
            refine o_q _ rfl rfl rfl (v_loadE1 (v := i64 (D.paid.getD k default).who) (j := 0) rfl Tryd.underlying3 rfl rfl (by omega) rfl rfl) ?_
            refine o_q _ rfl rfl rfl (v_move rfl rfl) ?_
            refine o_test rfl rfl rfl (v_eql rfl rfl rfl) (fun h94 => ?_) (fun h94 => ?_)
            all_goals
              refine o_q _ rfl rfl rfl (v_move rfl rfl) ?_
              first | refine o_gn rfl rfl rfl rfl ?_ | refine o_g _ rfl rfl rfl rfl (v_fieldAddr rfl Tryd.underlying25 inf23 rfl rfl rfl rfl) ?_
              first | refine o_gn rfl rfl rfl rfl ?_ | refine o_g _ rfl rfl rfl rfl (v_ld1 rfl Tryd.underlying23 rfl rfl rfl) ?_
              first | refine o_gn rfl rfl rfl rfl ?_ | refine o_g _ rfl rfl rfl rfl (v_move rfl rfl) ?_
              first | refine o_gn rfl rfl rfl rfl ?_ | refine o_g _ rfl rfl rfl rfl (v_indexAddrSn rfl Tryd.underlying23 inf54 rfl rfl rfl (by omega) rfl) ?_
              first | refine o_gn rfl rfl rfl rfl ?_ | refine o_g _ rfl rfl rfl rfl (v_fieldAddr rfl Tryd.underlying54 inf3 rfl rfl rfl rfl) ?_
              first | refine o_gn rfl rfl rfl rfl ?_ | refine o_g _ rfl rfl rfl rfl (v_loadE1 (v := i64 (D.paid.getD k default).day) (j := 1) rfl Tryd.underlying3 rfl rfl (by omega) rfl rfl) ?_
              first | refine o_gn rfl rfl rfl rfl ?_ | refine o_g _ rfl rfl rfl rfl (v_move rfl rfl) ?_
              first | refine o_gn rfl rfl rfl rfl ?_ | refine o_gtest rfl rfl rfl rfl (v_eql rfl rfl rfl) (fun h103 => ?_) (fun h103 => ?_)
              all_goals
                first | refine o_q _ rfl rfl rfl (v_pick_t rfl rfl rfl) ?_ | refine o_q _ rfl rfl rfl (v_pick_f rfl rfl rfl) ?_
                refine o_nil ?_
                with_reducible refine r_then ?_
                refine r_cond rfl (fun hc104 => ?_) (fun hc104 => ?_)
                ·
                  first
                  | (exfalso; revert hc104; decide)
                  | skip
                    have hpk := h.bdP hg k (by omega)
                    have hpt := paid_bdT hg h who d (n := k) (by omega)
                    have hbd2 := accT_fit hg h who d
                    refine r_parZ (fun w => w.heap[b6]? = some (.cells ([.slice ao am.length ac, .slice qo pa.length qc] : List Value).toArray 43 (0, 0)) ∧ rowD qo 1 encI pa (full w)) (fun X F w h => ⟨h.bl (List.mem_append_right _ (HasBox.mem (b := b6))), h.fact (φ := rowD qo 1 encI pa) (List.mem_append_right _ (HasRow.mem))⟩) [10, 11, 12, 13, 14, 15] 16 (by kernel_rfl) (by kernel_rfl) (by kernel_rfl) (by kernel_rfl) (by kernel_rfl) mixed (by kernel_rfl) (by rfl) ?_
                    refine p_q _ rfl rfl rfl (fun _ _ => v_fieldAddr rfl Tryd.underlying81 inf3 rfl rfl rfl rfl) ?_
                    refine p_q _ rfl rfl rfl (fun _ _ => v_ld1 rfl Tryd.underlying3 rfl rfl rfl) ?_
                    refine p_q _ rfl rfl rfl (fun _ _ => v_fieldAddr rfl Tryd.underlying43 inf41 rfl rfl rfl rfl) ?_
                    refine p_q _ rfl rfl rfl (fun _ _ => v_ld1 rfl Tryd.underlying41 rfl rfl rfl) ?_
                    refine p_q _ rfl rfl rfl (fun _ _ => v_move rfl rfl) ?_
                    refine p_q _ rfl rfl rfl (fun _ _ => v_indexAddrSn rfl Tryd.underlying41 inf3 rfl rfl rfl (by omega) rfl) ?_
                    refine p_q _ rfl rfl rfl (fun _ _ => v_loadE1 (v := i64 (pa.getD k default)) rfl Tryd.underlying3 rfl rfl (by omega) rfl rfl) ?_
                    refine p_q _ rfl rfl rfl (fun _ _ => v_add rfl rfl rfl (by omega)) ?_
                    refine p_q _ rfl rfl rfl (fun _ _ => v_fieldAddr rfl Tryd.underlying81 inf3 rfl rfl rfl rfl) ?_
                    refine p_q _ rfl rfl rfl (fun _ _ => v_ld1 rfl Tryd.underlying3 rfl rfl rfl) ?_
                    refine p_q _ rfl rfl rfl (fun _ _ => v_fieldAddr rfl Tryd.underlying43 inf41 rfl rfl rfl rfl) ?_
                    refine p_q _ rfl rfl rfl (fun _ _ => v_ld1 rfl Tryd.underlying41 rfl rfl rfl) ?_
                    refine p_q _ rfl rfl rfl (fun _ _ => v_move rfl rfl) ?_
                    refine p_q _ rfl rfl rfl (fun _ _ => v_indexAddrSn rfl Tryd.underlying41 inf3 rfl rfl rfl (by omega) rfl) ?_
                    refine p_q _ rfl rfl rfl (fun _ _ => v_loadE1 (v := i64 (pa.getD k default)) rfl Tryd.underlying3 rfl rfl (by omega) rfl rfl) ?_
                    refine p_q _ rfl rfl rfl (fun _ _ => v_add rfl rfl rfl (by omega)) ?_
                    refine p_nilF (by simp only [List.nil_append, List.cons_append]; rfl) rfl ⟨⟨_, _, _, rfl, rfl, rfl, rfl, rfl, float_field rfl Tryd.underlying43 inf41 rfl rfl rfl rfl⟩, ⟨_, _, _, rfl, rfl, rfl, rfl, rfl, float_cell (vs := [.slice ao am.length ac, .slice qo pa.length qc]) (B := 43) rfl Tryd.underlying41 rfl rfl rfl (fun _ h => h.1)⟩, ⟨_, _, _, rfl, rfl, rfl, rfl, rfl, float_mv rfl rfl⟩, ⟨_, _, _, rfl, rfl, rfl, rfl, rfl, float_idx (k := k) (enc := encI) (xs := pa) rfl Tryd.underlying41 inf3 rfl rfl rfl (by omega) rfl (fun _ h => h.2)⟩, ⟨_, _, _, rfl, rfl, rfl, rfl, rfl, float_elt (v := i64 (pa.getD k default)) (enc := encI) (xs := pa) rfl Tryd.underlying3 rfl rfl (by omega) rfl rfl (fun _ h => h.2)⟩, ⟨_, _, _, rfl, rfl, rfl, rfl, rfl, float_addZ rfl rfl rfl (by omega)⟩, trivial⟩ ?_
                    refine f_q rfl ?_
                    refine f_q rfl ?_
                    refine f_q rfl ?_
                    refine f_q rfl ?_
                    refine f_q rfl ?_
                    refine f_q rfl ?_
                    refine f_q rfl ?_
                    refine f_q rfl ?_
                    refine f_q rfl ?_
                    refine f_q rfl ?_
                    refine f_q rfl ?_
                    refine f_q rfl ?_
                    refine f_q rfl ?_
                    refine f_q rfl ?_
                    refine f_q rfl ?_
                    refine f_q rfl ?_
                    refine f_nil ?_
                    refine oz_lift (fun w h => ⟨h.bl (HasBox.mem (b := b6)), h.fact (φ := rowD qo 1 encI pa) HasRow.mem⟩) ?_
                    refine o_q _ rfl rfl rfl (v_fieldAddr rfl Tryd.underlying81 inf3 rfl rfl rfl rfl) ?_
                    refine o_nil ?_
                    refine r_then ?_
                    refine oz_lift (fun w h => ⟨h.bl (HasBox.mem (b := b6)), h.fact (φ := rowD qo 1 encI pa) HasRow.mem⟩) ?_
                    refine o_st rfl inf3 rfl rfl rfl rfl rfl rfl rfl rfl ?_
                    refine o_nil ?_
                    refine r_then ?_
                    refine oz_lift (fun w h => ⟨h.bl (HasBox.mem (b := b6)), h.fact (φ := rowD qo 1 encI pa) HasRow.mem⟩) ?_
                    refine o_q _ rfl rfl rfl (v_fieldAddr rfl Tryd.underlying81 inf3 rfl rfl rfl rfl) ?_
                    refine o_nil ?_
                    refine r_then ?_
                    refine oz_lift (fun w h => ⟨h.bl (HasBox.mem (b := b6)), h.fact (φ := rowD qo 1 encI pa) HasRow.mem⟩) ?_
                    refine o_st rfl inf3 rfl rfl rfl rfl rfl rfl rfl rfl ?_
                    refine o_nil ?_
                    refine r_then ?_
                    refine oz_nil (fun w h => ⟨h.bl (HasBox.mem (b := b6)), h.fact (φ := rowD qo 1 encI pa) HasRow.mem⟩) ?_
                    refine r_nop ?_
                    with_reducible refine r_in_normal ?_; refine r_then ?_
                    refine r_region ?_
                    refine o_q _ rfl rfl rfl (v_move rfl rfl) ?_
                    refine o_q _ rfl rfl rfl (v_add rfl rfl rfl (by omega)) ?_
                    refine o_q _ rfl rfl rfl (v_assign rfl rfl) ?_
                    refine o_nil ?_
                    with_reducible refine r_then ?_
                    exact r_next ((k + 1, br1 + pa.getD k default)) (by refine Imp.box_to b11 [.slice (some ⟨b, 0, none⟩) D.dues.length D.dues.length, i64 ((accT D am pa who (d)).2 + (paidTo D (amF pa) who d (k + 1))), i64 (br1 + pa.getD k default), i64 ow1] (by rw [← add_y (A := (accT D am pa who (d)).2) (paidTo_y (D := D) (pa := amF pa) (who := who) (d := d) (k := k) (by omega) (by omega))]; rfl) ?_; exact r_here (by (repeat (first | exact FSub.nil | refine FSub.cons rfl ?_)); first | done | fail) SelMC.sel SubRC.sub) (by exact ⟨by show k + 1 ≤ _; omega, by show 0 ≤ br1 + _; omega, by show br1 + _ ≤ 4000 * (d : Int) + 500 * ((k + 1 : Nat) : Int); omega⟩) (by show D.paid.length - (k + 1) < D.paid.length - k; omega)
                ·
                  first
                  | (exfalso; revert hc104; decide)
                  | skip
                    refine r_skip ?_
                    with_reducible refine r_in_normal ?_; refine r_then ?_
                    refine r_region ?_
                    refine o_q _ rfl rfl rfl (v_move rfl rfl) ?_
                    refine o_q _ rfl rfl rfl (v_add rfl rfl rfl (by omega)) ?_
                    refine o_q _ rfl rfl rfl (v_assign rfl rfl) ?_
                    refine o_nil ?_
                    with_reducible refine r_then ?_
                    exact r_next ((k + 1, br1)) (by refine Imp.box_to b11 [.slice (some ⟨b, 0, none⟩) D.dues.length D.dues.length, i64 ((accT D am pa who (d)).2 + (paidTo D (amF pa) who d (k + 1))), i64 br1, i64 ow1] (by rw [paidTo_n (D := D) (pa := amF pa) (who := who) (d := d) (k := k) (by omega)]) ?_; exact r_here (by (repeat (first | exact FSub.nil | refine FSub.cons rfl ?_)); first | done | fail) SelMC.sel SubRC.sub) (by exact ⟨by show k + 1 ≤ _; omega, by show 0 ≤ br1; omega, by show br1 ≤ 4000 * (d : Int) + 500 * ((k + 1 : Nat) : Int); omega⟩) (by show D.paid.length - (k + 1) < D.paid.length - k; omega)
          ·
            refine r_exit ?_
            with_reducible refine r_then_exit ?_; refine r_then_exit ?_; refine r_in_here ?_; refine r_then ?_
            refine r_seq ?_
            obtain rfl : k = D.paid.length := by omega
            refine Imp.box_to b11 [.slice (some ⟨b, 0, none⟩) D.dues.length D.dues.length, i64 (bagT D am pa who d), i64 br1, i64 ow1] rfl ?_
            refine r_region ?_
            refine o_q _ rfl rfl rfl (v_ldW rfl Tryd.underlying25 rfl inf25 rfl rfl) ?_
            refine o_q _ rfl rfl rfl (v_ldW rfl Tryd.underlying81 rfl inf81 rfl rfl) ?_
            refine o_q _ rfl rfl rfl (v_move rfl rfl) ?_
            refine o_q _ rfl rfl rfl (v_move rfl rfl) ?_
            refine o_fnc (pay_c D uo po uc pc am pa b br1 ow1 hg h who d hd) rfl [] [] rfl rfl rfl rfl rfl rfl SubRC.sub ?_
            refine o_st rfl inf81 rfl rfl rfl rfl rfl rfl rfl rfl ?_
            refine o_nil ?_
            with_reducible refine r_then ?_
            refine r_ret ?_
            refine Imp.box_to b10 [.slice (some ⟨b, 0, none⟩) D.dues.length D.dues.length, i64 (restF (lstT D am pa who d) (bagT D am pa who d)), i64 br1, i64 ow1] rfl ?_
            exact r_rete [bx b 3 ((arrL (payF (lstT D am pa who d) (bagT D am pa who d)) D.dues.length).flatMap encI)] [] (Rd.one rfl (RdI.cellW Tryd.underlying81 rfl inf81 rfl rfl)) ⟨⟨(b, br1, ow1), ⟨hj2, by show br1 ≤ 4000 * (d : Int) + 3500; omega⟩, ⟨hk2, by show ow1 ≤ 4000 * (d : Int) + 3500; omega⟩⟩, rfl, rfl, rfl⟩ SelMC.sel SubRC.sub
  ·
    (exfalso; omega)
end Go.Proofs.YtpfgiednfjfdmaaDoor


namespace Go.Proofs.YtpfgiednfjfdmaaDoor
open Go.G Debt10
set_option maxRecDepth 1000000
attribute [local irreducible] G.ParO G.Fin
attribute [local irreducible] leftT aheadT gradeS setT trA trP acc0 setK
variable (D : Debt) (uo po : Option Addr) (uc pc : Nat)
set_option maxHeartbeats 4000000 in
theorem after_of (am pa : List Int) (ao qo : Option Addr) (ac qc : Nat) (hg : GoodD D) (h : TruD D am pa) (who : Int) (d : Nat) (hd : d ≤ 30) (hbef : FnS Tryd.prog 75 [valD D uo po uc pc, vTr ao am.length ac qo pa.length qc, i64 who, i64 (d : Int), i64 0] [] [rowD uo 5 encD D.dues, rowD po 4 encP D.paid, rowD ao 1 encI am, rowD qo 1 encI pa] (fun e M' R' => ∃ x : AcX (4000 * (d : Int) + 3500), e = .returned (.agg ([.slice (some ⟨x.1.1, 0, none⟩) D.dues.length D.dues.length, i64 (restF (lstT D am pa who d) (bagT D am pa who d)), i64 x.1.2.1, i64 x.1.2.2] : List Value).toArray) ∧ M' = [bx x.1.1 3 ((arrL (payF (lstT D am pa who d) (bagT D am pa who d)) D.dues.length).flatMap encI)] ∧ R' = [])) : FnS Tryd.prog 53 [valD D uo po uc pc, vTr ao am.length ac qo pa.length qc, i64 who, i64 (d : Int)] [] [rowD uo 5 encD D.dues, rowD po 4 encP D.paid, rowD ao 1 encI am, rowD qo 1 encI pa] (fun e M' R' => ∃ x : AcX (4000 * ((d : Int) + 1)), e = .returned (.agg ([.slice (some ⟨x.1.1, 0, none⟩) D.dues.length D.dues.length, i64 (accT D am pa who (d + 1)).2, i64 x.1.2.1, i64 x.1.2.2] : List Value).toArray) ∧ M' = [bx x.1.1 3 ((arrL (accT D am pa who (d + 1)).1 D.dues.length).flatMap encI)] ∧ R' = []) := by
  have hp1 := hg.np
  have hp2 := hg.nd
  have hp3 := hg.ny
  have hna := h.na
  have hnp := h.np
  refine FnS.intro0 Tryd.call53 Tryd.func53 rfl Tryd.ntmps53 rfl ?_
  intro W M Rf
  refine r_seq ?_
  refine r_region ?_
  refine o_boxA rfl rfl rfl rfl rfl (fun b4 => ?_)
  refine o_boxA rfl rfl rfl rfl rfl (fun b5 => ?_)
  refine o_alloc rfl inf81 rfl rfl rfl rfl rfl (fun b8 => ?_)
  refine o_nil ?_
  with_reducible refine r_then ?_
  refine r_seq ?_
  refine r_region ?_
  refine o_q _ rfl rfl rfl (v_ldW rfl Tryd.underlying25 rfl inf25 rfl rfl) ?_
  refine o_q _ rfl rfl rfl (v_ldW rfl Tryd.underlying43 rfl inf43 rfl rfl) ?_
  refine o_q _ rfl rfl rfl (v_move rfl rfl) ?_
  refine o_q _ rfl rfl rfl (v_move rfl rfl) ?_
  refine o_fnR hbef rfl rfl rfl rfl rfl SubRC.sub (fun x15 => ?_)
  refine o_alloc rfl inf81 rfl rfl rfl rfl rfl (fun b9 => ?_)
  refine o_st rfl inf81 rfl rfl rfl rfl rfl rfl rfl rfl ?_
  refine o_nil ?_
  with_reducible refine r_then ?_
  refine r_seq ?_
  refine r_seq ?_
  obtain ⟨⟨b, br, ow⟩, hbr, how⟩ := x15
  replace hbr : 0 ≤ br ∧ br ≤ 4000 * (d : Int) + 3500 := hbr
  replace how : 0 ≤ ow ∧ ow ≤ 4000 * (d : Int) + 3500 := how
  refine Imp.box_to b9 [.slice (some ⟨b, 0, none⟩) D.dues.length D.dues.length, i64 (restF (lstT D am pa who d) (bagT D am pa who d)), i64 br, i64 ow] rfl ?_
  refine r_region ?_
  refine o_q _ rfl rfl rfl (v_assign rfl rfl) ?_
  refine o_nil ?_
  with_reducible refine r_then ?_
  refine r_block ?_
  refine r_loop (ι := Nat × Int) (fun gh => gh.1 ≤ D.dues.length ∧ (0 ≤ gh.2 ∧ gh.2 ≤ 4000 * (d : Int) + 3500 + 10 * (gh.1 : Int))) (fun gh => [(2, i64 who), (3, i64 (d : Int)), (4, pt b4 0), (5, pt b5 0), (8, pt b8 0), (9, pt b9 0), (10, i64 (gh.1 : Int))]) (fun gh => bx b 3 ((arrL (growN d gh.1 (payF (lstT D am pa who d) (bagT D am pa who d))) D.dues.length).flatMap encI) :: bx b9 81 [.slice (some ⟨b, 0, none⟩) D.dues.length D.dues.length, i64 (restF (lstT D am pa who d) (bagT D am pa who d)), i64 br, i64 gh.2] :: bx b5 43 [.slice ao am.length ac, .slice qo pa.length qc] :: bx b4 25 (cellsD D uo po uc pc) :: bx b8 81 [.slice none 0 0, i64 0, i64 0, i64 0] :: M) (fun gh => [rowD uo 5 encD D.dues, rowD po 4 encP D.paid, rowD ao 1 encI am, rowD qo 1 encI pa] ++ Rf) (fun gh => D.dues.length - gh.1) (0, ow) ?_ ?_ ?_
  ·
    refine Imp.box_to b ((arrL (growN d 0 (payF (lstT D am pa who d) (bagT D am pa who d))) D.dues.length).flatMap encI) (by rw [growN_0]) ?_
    refine Imp.box_to b8 [.slice none 0 0, i64 0, i64 0, i64 0] rfl ?_
    exact r_here (by (repeat (first | exact FSub.nil | refine FSub.cons rfl ?_)); first | done | fail) SelMC.sel SubRC.sub
  ·
    exact ⟨Nat.zero_le _, by show 0 ≤ ow; omega, by show ow ≤ 4000 * (d : Int) + 3500 + 10 * ((0 : Nat) : Int); omega⟩
  ·
    rintro ⟨k, ow1⟩ hI0
    dsimp only at hI0
    dsimp only
    obtain ⟨hk1, hk2, hk3⟩ := hI0
    refine r_seq ?_
    refine r_seq ?_
    refine r_region ?_
    refine o_q _ rfl rfl rfl (v_move rfl rfl) ?_
    refine o_q _ rfl rfl rfl (v_fieldAddr rfl Tryd.underlying25 inf22 rfl rfl rfl rfl) ?_
    refine o_q _ rfl rfl rfl (v_ld1 rfl Tryd.underlying22 rfl rfl rfl) ?_
    refine o_q _ rfl rfl rfl (v_len rfl rfl Tryd.underlying22 rfl) ?_
    refine o_q _ rfl rfl rfl (v_lss rfl rfl rfl) ?_
    refine o_nil ?_
    with_reducible refine r_then ?_
    refine r_condd rfl (fun hc20 => ?_) (fun hc20 => ?_)
    ·
      refine r_skip ?_
      with_reducible refine r_then ?_
      refine r_seq ?_
      refine r_block ?_
      refine r_seq ?_
      have hgb := pay_bdT hg h who d (by omega) k
      obtain ⟨_, _, _, hlate⟩ := hg.dues k (by omega)
      refine r_region ?_
      refine o_q _ rfl rfl rfl (v_fieldAddr rfl Tryd.underlying25 inf22 rfl rfl rfl rfl) ?_
      refine o_q _ rfl rfl rfl (v_ld1 rfl Tryd.underlying22 rfl rfl rfl) ?_
      refine o_q _ rfl rfl rfl (v_move rfl rfl) ?_
      refine o_q _ rfl rfl rfl (v_indexAddrSn rfl Tryd.underlying22 inf62 rfl rfl rfl (by omega) rfl) ?_
      refine o_q _ rfl rfl rfl (v_fieldAddr rfl Tryd.underlying62 inf3 rfl rfl rfl rfl) ?_
      refine o_q _ rfl rfl rfl (v_loadE1 (v := i64 (D.dues.getD k default).day) (j := 1) rfl Tryd.underlying3 rfl rfl (by omega) rfl rfl) ?_
      refine o_q _ rfl rfl rfl (v_move rfl rfl) ?_
      refine o_test rfl rfl rfl (v_lss rfl rfl rfl) (fun h30 => ?_) (fun h30 => ?_)
      all_goals
        refine o_q _ rfl rfl rfl (v_move rfl rfl) ?_
        first | refine o_gn rfl rfl rfl rfl ?_ | refine o_g _ rfl rfl rfl rfl (v_fieldAddr rfl Tryd.underlying81 inf41 rfl rfl rfl rfl) ?_
        first | refine o_gn rfl rfl rfl rfl ?_ | refine o_g _ rfl rfl rfl rfl (v_ld1 rfl Tryd.underlying41 rfl rfl rfl) ?_
        first | refine o_gn rfl rfl rfl rfl ?_ | refine o_g _ rfl rfl rfl rfl (v_move rfl rfl) ?_
        first | refine o_gn rfl rfl rfl rfl ?_ | refine o_g _ rfl rfl rfl rfl (v_indexAddrB rfl Tryd.underlying41 inf3 rfl rfl (by omega)) ?_
        first | refine o_gn rfl rfl rfl rfl ?_ | refine o_g _ rfl rfl rfl rfl (v_cast (v := i64 (valF (payF (lstT D am pa who d) (bagT D am pa who d)) k)) (v_ld1 rfl Tryd.underlying3 rfl rfl (boxI_get (by rw [arr_len]; omega))) (i64c ((arr_at (by omega)).trans (grow_valT hg h who d k)))) ?_
        first | refine o_gn rfl rfl rfl rfl ?_ | refine o_gtest rfl rfl rfl rfl (v_gtr rfl rfl rfl) (fun h37 => ?_) (fun h37 => ?_)
        all_goals
          first | refine o_q _ rfl rfl rfl (v_pick_t rfl rfl rfl) ?_ | refine o_q _ rfl rfl rfl (v_pick_f rfl rfl rfl) ?_
          refine o_nil ?_
          with_reducible refine r_then ?_
          refine r_cond rfl (fun hc38 => ?_) (fun hc38 => ?_)
          ·
            first
            | (exfalso; revert hc38; decide)
            | skip
              refine r_seq ?_
              refine r_par' 15 mixed (by kernel_rfl) (by rfl) ?_
              refine p_q _ rfl rfl rfl (fun _ _ => v_fieldAddr rfl Tryd.underlying81 inf41 rfl rfl rfl rfl) ?_
              refine p_q _ rfl rfl rfl (fun _ _ => v_ld1 rfl Tryd.underlying41 rfl rfl rfl) ?_
              refine p_q _ rfl rfl rfl (fun _ _ => v_move rfl rfl) ?_
              refine p_q _ rfl rfl rfl (fun _ _ => v_fieldAddr rfl Tryd.underlying81 inf41 rfl rfl rfl rfl) ?_
              refine p_q _ rfl rfl rfl (fun _ _ => v_ld1 rfl Tryd.underlying41 rfl rfl rfl) ?_
              refine p_q _ rfl rfl rfl (fun _ _ => v_move rfl rfl) ?_
              refine p_q _ rfl rfl rfl (fun _ _ => v_indexAddrB rfl Tryd.underlying41 inf3 rfl rfl (by omega)) ?_
              refine p_q _ rfl rfl rfl (fun _ _ => v_cast (v := i64 (valF (payF (lstT D am pa who d) (bagT D am pa who d)) k)) (v_ld1 rfl Tryd.underlying3 rfl rfl (boxI_get (by rw [arr_len]; omega))) (i64c ((arr_at (by omega)).trans (grow_valT hg h who d k)))) ?_
              refine p_q _ rfl rfl rfl (fun _ _ => v_fieldAddr rfl Tryd.underlying25 inf22 rfl rfl rfl rfl) ?_
              refine p_q _ rfl rfl rfl (fun _ _ => v_ld1 rfl Tryd.underlying22 rfl rfl rfl) ?_
              refine p_q _ rfl rfl rfl (fun _ _ => v_move rfl rfl) ?_
              refine p_q _ rfl rfl rfl (fun _ _ => v_indexAddrSn rfl Tryd.underlying22 inf62 rfl rfl rfl (by omega) rfl) ?_
              refine p_q _ rfl rfl rfl (fun _ _ => v_fieldAddr rfl Tryd.underlying62 inf3 rfl rfl rfl rfl) ?_
              refine p_q _ rfl rfl rfl (fun _ _ => v_loadE1 (v := i64 (D.dues.getD k default).late) (j := 4) rfl Tryd.underlying3 rfl rfl (by omega) rfl rfl) ?_
              refine p_q _ rfl rfl rfl (fun _ _ => v_add rfl rfl rfl (by omega)) ?_
              refine p_nil2 (by simp only [List.nil_append, List.cons_append]; rfl) rfl ?_
              refine f_q rfl ?_
              refine f_q rfl ?_
              refine f_q rfl ?_
              refine f_q rfl ?_
              refine f_q rfl ?_
              refine f_q rfl ?_
              refine f_q rfl ?_
              refine f_q rfl ?_
              refine f_q rfl ?_
              refine f_q rfl ?_
              refine f_q rfl ?_
              refine f_q rfl ?_
              refine f_q rfl ?_
              refine f_q rfl ?_
              refine f_q rfl ?_
              refine f_nil ?_
              refine o_q _ rfl rfl rfl (v_indexAddrB rfl Tryd.underlying41 inf3 rfl rfl (by omega)) ?_
              refine o_st rfl inf3 rfl rfl rfl rfl rfl rfl rfl (boxI_ble (by rw [arr_len]; omega)) ?_
              refine o_nil ?_
              with_reducible refine r_then ?_
              refine r_par' 9 mixed (by kernel_rfl) (by rfl) ?_
              refine p_q _ rfl rfl rfl (fun _ _ => v_fieldAddr rfl Tryd.underlying81 inf3 rfl rfl rfl rfl) ?_
              refine p_q _ rfl rfl rfl (fun _ _ => v_ld1 rfl Tryd.underlying3 rfl rfl rfl) ?_
              refine p_q _ rfl rfl rfl (fun _ _ => v_fieldAddr rfl Tryd.underlying25 inf22 rfl rfl rfl rfl) ?_
              refine p_q _ rfl rfl rfl (fun _ _ => v_ld1 rfl Tryd.underlying22 rfl rfl rfl) ?_
              refine p_q _ rfl rfl rfl (fun _ _ => v_move rfl rfl) ?_
              refine p_q _ rfl rfl rfl (fun _ _ => v_indexAddrSn rfl Tryd.underlying22 inf62 rfl rfl rfl (by omega) rfl) ?_
              refine p_q _ rfl rfl rfl (fun _ _ => v_fieldAddr rfl Tryd.underlying62 inf3 rfl rfl rfl rfl) ?_
              refine p_q _ rfl rfl rfl (fun _ _ => v_loadE1 (v := i64 (D.dues.getD k default).late) (j := 4) rfl Tryd.underlying3 rfl rfl (by omega) rfl rfl) ?_
              refine p_q _ rfl rfl rfl (fun _ _ => v_add rfl rfl rfl (by omega)) ?_
              refine p_nil2 (by simp only [List.nil_append, List.cons_append]; rfl) rfl ?_
              refine f_q rfl ?_
              refine f_q rfl ?_
              refine f_q rfl ?_
              refine f_q rfl ?_
              refine f_q rfl ?_
              refine f_q rfl ?_
              refine f_q rfl ?_
              refine f_q rfl ?_
              refine f_q rfl ?_
              refine f_nil ?_
              refine o_q _ rfl rfl rfl (v_fieldAddr rfl Tryd.underlying81 inf3 rfl rfl rfl rfl) ?_
              refine o_st rfl inf3 rfl rfl rfl rfl rfl rfl rfl rfl ?_
              refine o_nil ?_
              with_reducible refine r_in_normal ?_; refine r_then ?_
              refine r_region ?_
              refine o_q _ rfl rfl rfl (v_move rfl rfl) ?_
              refine o_q _ rfl rfl rfl (v_add rfl rfl rfl (by omega)) ?_
              refine o_q _ rfl rfl rfl (v_assign rfl rfl) ?_
              refine o_nil ?_
              with_reducible refine r_then ?_
              exact r_next ((k + 1, ow1 + (D.dues.getD k default).late)) (by refine Imp.box_to b9 [.slice (some ⟨b, 0, none⟩) D.dues.length D.dues.length, i64 (restF (lstT D am pa who d) (bagT D am pa who d)), i64 br, i64 (ow1 + (D.dues.getD k default).late)] rfl ?_; refine Imp.box_to b ((arrL (growN d (k + 1) (payF (lstT D am pa who d) (bagT D am pa who d))) D.dues.length).flatMap encI) (box_next (by rw [arr_len]; omega) (grow_yT hg h who d (k := k) (by omega) (by omega) (by omega))) ?_; exact r_here (by (repeat (first | exact FSub.nil | refine FSub.cons rfl ?_)); first | done | fail) SelMC.sel SubRC.sub) (by exact ⟨by show k + 1 ≤ _; omega, by show 0 ≤ ow1 + _; omega, by show ow1 + _ ≤ 4000 * (d : Int) + 3500 + 10 * ((k + 1 : Nat) : Int); omega⟩) (by show D.dues.length - (k + 1) < D.dues.length - k; omega)
          ·
            first
            | (exfalso; revert hc38; decide)
            | skip
              refine r_skip ?_
              with_reducible refine r_in_normal ?_; refine r_then ?_
              refine r_region ?_
              refine o_q _ rfl rfl rfl (v_move rfl rfl) ?_
              refine o_q _ rfl rfl rfl (v_add rfl rfl rfl (by omega)) ?_
              refine o_q _ rfl rfl rfl (v_assign rfl rfl) ?_
              refine o_nil ?_
              with_reducible refine r_then ?_
              exact r_next ((k + 1, ow1)) (by refine Imp.box_to b ((arrL (growN d (k + 1) (payF (lstT D am pa who d) (bagT D am pa who d))) D.dues.length).flatMap encI) (by rw [grow_nT hg h who d (k := k) (by omega)]) ?_; exact r_here (by (repeat (first | exact FSub.nil | refine FSub.cons rfl ?_)); first | done | fail) SelMC.sel SubRC.sub) (by exact ⟨by show k + 1 ≤ _; omega, by show 0 ≤ ow1; omega, by show ow1 ≤ 4000 * (d : Int) + 3500 + 10 * ((k + 1 : Nat) : Int); omega⟩) (by show D.dues.length - (k + 1) < D.dues.length - k; omega)
    ·
      refine r_exit ?_
      with_reducible refine r_then_exit ?_; refine r_then_exit ?_; refine r_in_here ?_; refine r_then ?_
      refine r_seq ?_
      obtain rfl : k = D.dues.length := by omega
      obtain ⟨hd1, hd2⟩ := day_doneT hg h who d hd
      refine Imp.box_to b9 [.slice (some ⟨b, 0, none⟩) D.dues.length D.dues.length, i64 (accT D am pa who (d + 1)).2, i64 br, i64 ow1] (by rw [← hd2]) ?_
      refine Imp.box_to b ((arrL (accT D am pa who (d + 1)).1 D.dues.length).flatMap encI) (by rw [hd1]) ?_
      refine r_region ?_
      refine o_q _ rfl rfl rfl (v_ldW rfl Tryd.underlying81 rfl inf81 rfl rfl) ?_
      refine o_st rfl inf81 rfl rfl rfl rfl rfl rfl rfl rfl ?_
      refine o_nil ?_
      with_reducible refine r_then ?_
      refine r_ret ?_
      refine Imp.box_to b8 [.slice (some ⟨b, 0, none⟩) D.dues.length D.dues.length, i64 (accT D am pa who (d + 1)).2, i64 br, i64 ow1] rfl ?_
      exact r_rete [bx b 3 ((arrL (accT D am pa who (d + 1)).1 D.dues.length).flatMap encI)] [] (Rd.one rfl (RdI.cellW Tryd.underlying81 rfl inf81 rfl rfl)) ⟨⟨(b, br, ow1), ⟨by show 0 ≤ br; omega, by show br ≤ 4000 * ((d : Int) + 1); omega⟩, ⟨hk2, by show ow1 ≤ 4000 * ((d : Int) + 1); omega⟩⟩, rfl, rfl, rfl⟩ SelMC.sel SubRC.sub
theorem before_v (am pa : List Int) (ao qo : Option Addr) (ac qc : Nat) (hg : GoodD D) (h : TruD D am pa) (who : Int) : ∀ (d : Nat) (_ : d ≤ 30), FnS Tryd.prog 75 [valD D uo po uc pc, vTr ao am.length ac qo pa.length qc, i64 who, i64 (d : Int), i64 0] [] [rowD uo 5 encD D.dues, rowD po 4 encP D.paid, rowD ao 1 encI am, rowD qo 1 encI pa] (fun e M' R' => ∃ x : AcX (4000 * (d : Int) + 3500), e = .returned (.agg ([.slice (some ⟨x.1.1, 0, none⟩) D.dues.length D.dues.length, i64 (restF (lstT D am pa who d) (bagT D am pa who d)), i64 x.1.2.1, i64 x.1.2.2] : List Value).toArray) ∧ M' = [bx x.1.1 3 ((arrL (payF (lstT D am pa who d) (bagT D am pa who d)) D.dues.length).flatMap encI)] ∧ R' = [])
  | 0, hd => before_0 D uo po uc pc am pa ao qo ac qc hg h who 0 hd rfl
  | d + 1, hd => before_s D uo po uc pc am pa ao qo ac qc hg h who (d + 1) hd d rfl (fun dp hdp => by
      obtain rfl : d = dp := by omega
      exact after_of D uo po uc pc am pa ao qo ac qc hg h who d (by omega) (before_v am pa ao qo ac qc hg h who d (by omega)))
theorem after_v (am pa : List Int) (ao qo : Option Addr) (ac qc : Nat) (hg : GoodD D) (h : TruD D am pa) (who : Int) (d : Nat) (hd : d ≤ 30) : FnS Tryd.prog 53 [valD D uo po uc pc, vTr ao am.length ac qo pa.length qc, i64 who, i64 (d : Int)] [] [rowD uo 5 encD D.dues, rowD po 4 encP D.paid, rowD ao 1 encI am, rowD qo 1 encI pa] (fun e M' R' => ∃ x : AcX (4000 * ((d : Int) + 1)), e = .returned (.agg ([.slice (some ⟨x.1.1, 0, none⟩) D.dues.length D.dues.length, i64 (accT D am pa who (d + 1)).2, i64 x.1.2.1, i64 x.1.2.2] : List Value).toArray) ∧ M' = [bx x.1.1 3 ((arrL (accT D am pa who (d + 1)).1 D.dues.length).flatMap encI)] ∧ R' = []) :=
  after_of D uo po uc pc am pa ao qo ac qc hg h who d hd (before_v D uo po uc pc am pa ao qo ac qc hg h who d hd)
end Go.Proofs.YtpfgiednfjfdmaaDoor


namespace Go.Proofs.YtpfgiednfjfdmaaDoor
open Go.G Debt10
set_option maxRecDepth 1000000
attribute [local irreducible] G.ParO G.Fin
variable (D : Debt) (uo po : Option Addr) (uc pc : Nat)
theorem sum_bdG {l : List Opn} (h : ∀ k, 0 ≤ valF l k ∧ valF l k ≤ 1000) : ∀ k : Nat, 0 ≤ sumTo (valF l) k ∧ sumTo (valF l) k ≤ 1000 * (k : Int)
  | 0 => by show (0 : Int) ≤ 0 ∧ (0 : Int) ≤ 1000 * 0; omega
  | k + 1 => by
    have h1 := sum_bdG h k
    have h2 := h k
    show 0 ≤ sumTo (valF l) k + valF l k ∧ sumTo (valF l) k + valF l k ≤ 1000 * ((k + 1 : Nat) : Int)
    push_cast; omega
set_option maxHeartbeats 4000000 in
theorem total_m (l : List Opn) (b : Nat) (A br ow : Int) (hn6 : D.dues.length ≤ 6) (hv : ∀ k, 0 ≤ valF l k ∧ valF l k ≤ 1000) : FnM Tryd.prog 73 [.agg (([.slice (some ⟨b, 0, none⟩) D.dues.length D.dues.length, i64 A, i64 br, i64 ow] : List Value)).toArray] (bx b 3 ((arrL l D.dues.length).flatMap encI)) [] (fun u => u = i64 (sumTo (valF l) D.dues.length)) := by
  refine FnM.intro Tryd.call73 Tryd.func73 rfl Tryd.ntmps73 rfl ?_
  intro W M Rf
  refine r_seq ?_
  refine r_region ?_
  refine o_boxA rfl rfl rfl rfl rfl (fun b1 => ?_)
  refine o_q _ rfl rfl rfl (v_assign rfl rfl) ?_
  refine o_nil ?_
  with_reducible refine r_then ?_
  refine r_seq ?_
  refine r_region ?_
  refine o_q _ rfl rfl rfl (v_assign rfl rfl) ?_
  refine o_nil ?_
  with_reducible refine r_then ?_
  refine r_seq ?_
  refine r_seq ?_
  refine r_region ?_
  refine o_q _ rfl rfl rfl (v_assign rfl rfl) ?_
  refine o_nil ?_
  with_reducible refine r_then ?_
  refine r_block ?_
  refine r_loop (ι := Nat) (fun k => k ≤ D.dues.length) (fun k => [(1, pt b1 0), (2, i64 0), (3, i64 (sumTo (valF l) k)), (4, i64 (k : Int))]) (fun k => bx b1 81 [.slice (some ⟨b, 0, none⟩) D.dues.length D.dues.length, i64 A, i64 br, i64 ow] :: bx b 3 ((arrL l D.dues.length).flatMap encI) :: M) (fun k => [] ++ Rf) (fun k => D.dues.length - k) 0 ?_ ?_ ?_
  ·
    refine Imp.box_to b1 [.slice (some ⟨b, 0, none⟩) D.dues.length D.dues.length, i64 A, i64 br, i64 ow] rfl ?_
    exact r_here (by (repeat (first | exact FSub.nil | refine FSub.cons rfl ?_)); first | done | fail) SelMC.sel SubRC.sub
  ·
    omega
  ·
    rintro k hI0
    refine r_seq ?_
    refine r_seq ?_
    refine r_region ?_
    refine o_q _ rfl rfl rfl (v_move rfl rfl) ?_
    refine o_q _ rfl rfl rfl (v_fieldAddr rfl Tryd.underlying81 inf41 rfl rfl rfl rfl) ?_
    refine o_q _ rfl rfl rfl (v_ld1 rfl Tryd.underlying41 rfl rfl rfl) ?_
    refine o_q _ rfl rfl rfl (v_len rfl rfl Tryd.underlying41 rfl) ?_
    refine o_q _ rfl rfl rfl (v_lss rfl rfl rfl) ?_
    refine o_nil ?_
    with_reducible refine r_then ?_
    refine r_condd rfl (fun hc9 => ?_) (fun hc9 => ?_)
    ·
      refine r_skip ?_
      with_reducible refine r_then ?_
      refine r_seq ?_
      refine r_block ?_
      have hvk := hv k
      have hsk := sum_bdG hv k
      refine r_region ?_
      refine o_q _ rfl rfl rfl (v_move rfl rfl) ?_
      refine o_q _ rfl rfl rfl (v_fieldAddr rfl Tryd.underlying81 inf41 rfl rfl rfl rfl) ?_
      refine o_q _ rfl rfl rfl (v_ld1 rfl Tryd.underlying41 rfl rfl rfl) ?_
      refine o_q _ rfl rfl rfl (v_move rfl rfl) ?_
      refine o_q _ rfl rfl rfl (v_indexAddrB rfl Tryd.underlying41 inf3 rfl rfl (by omega)) ?_
      refine o_q _ rfl rfl rfl (v_cast (v := i64 (valF l k)) (v_ld1 rfl Tryd.underlying3 rfl rfl (boxI_get (by rw [arr_len]; omega))) (i64c ((arr_at (by omega)).trans (rfl)))) ?_
      refine o_q _ rfl rfl rfl (v_add rfl rfl rfl (by omega)) ?_
      refine o_q _ rfl rfl rfl (v_assign rfl rfl) ?_
      refine o_nil ?_
      with_reducible refine r_in_normal ?_; refine r_then ?_
      refine r_region ?_
      refine o_q _ rfl rfl rfl (v_move rfl rfl) ?_
      refine o_q _ rfl rfl rfl (v_add rfl rfl rfl (by omega)) ?_
      refine o_q _ rfl rfl rfl (v_assign rfl rfl) ?_
      refine o_nil ?_
      with_reducible refine r_then ?_
      refine r_next (k + 1) ?_ ?_ ?_
      ·
        exact r_here (by (repeat (first | exact FSub.nil | refine FSub.cons rfl ?_)); first | done | fail) SelMC.sel SubRC.sub
      ·
        omega
      ·
        omega
    ·
      refine r_exit ?_
      with_reducible refine r_then_exit ?_; refine r_then_exit ?_; refine r_in_here ?_; refine r_then ?_
      refine r_seq ?_
      refine r_region ?_
      refine o_q _ rfl rfl rfl (v_move rfl rfl) ?_
      refine o_q _ rfl rfl rfl (v_assign rfl rfl) ?_
      refine o_nil ?_
      with_reducible refine r_then ?_
      refine r_ret ?_
      obtain rfl : k = D.dues.length := by omega
      exact r_retm (Rd.tmp rfl rfl) rfl SelMC.sel SubRC.sub
end Go.Proofs.YtpfgiednfjfdmaaDoor


namespace Go.G
variable {P : Program} {W : World} {n : Nat} {D : List Deferred} {L : Tm} {M : List Res} {R : List Fact} {Q : Exit → Act → World → Prop} {o : Oper}
/-- The operation is a call that hands back such a value, and lays what goes with it. -/
def LayR (P : Program) (L : Tm) (R : List Fact) (o : Oper) (val : Value → Prop) (res : Value → List Res) : Prop :=
  ∃ (k : FuncId) (args : List Value) (R0 : List Fact) (xs : List Operand) (ts : Array TypeId), o.op = .call { callee := .value (.func k), args := xs.toArray, argTypes := ts } ∧ evs L xs = some args ∧ FnS P k args [] R0 (fun e M' R' => ∃ v, e = .returned v ∧ val v ∧ M' = res v ∧ R' = []) ∧ SubR R R0
theorem LayR.mk {k : FuncId} {args : List Value} {R0 : List Fact} {xs : List Operand} {ts : Array TypeId} {val : Value → Prop} {res : Value → List Res} (h : FnS P k args [] R0 (fun e M' R' => ∃ v, e = .returned v ∧ val v ∧ M' = res v ∧ R' = [])) (ho : o.op = .call { callee := .value (.func k), args := xs.toArray, argTypes := ts }) (hx : evs L xs = some args) (hs : SubR R R0) : LayR P L R o val res := ⟨k, args, R0, xs, ts, ho, hx, h, hs⟩
theorem p_depO {ops : Array Oper} {K : List Spc → Prop} {rest : List Oper} {acc : List Spc} {d : Nat} {sj : Spc} (val : Value → Prop) (res : Value → List Res) (kT : Nat) (j : Nat) {oj : Oper} (hoj : ops[j]? = some oj) (hsj : acc[j]? = some sj) (hdj : sj.det = none) (hdep : depD ops o j = true) (hg : o.guard = none) (hdst : o.dst = some d) (hd : Nat.blt d n = true)
    (h : ∀ u, sj.pval u → LayR P ((oj.dst.getD 1000000, u) :: L) (sj.fct u ++ R) o val res) (hr : ParO P W n M R ops K rest (acc ++ [Spc.al val res kT (fun _ => [])]) L) : ParO P W n M R ops K (o :: rest) acc L := by
  refine ⟨Spc.al val res kT (fun _ => []), by simp [hdst, hd], .inl ⟨rfl, .inr (.inr (.inl ⟨hg, j, oj, sj, hoj, hsj, hdj, hdep, fun u hu => ?_⟩))⟩, by simpa [addL, Spc.al] using hr⟩
  obtain ⟨k, args, R0, xs, ts, ho, hx, hf, hs⟩ := h u hu
  intro Mx Rx a w h1 h2
  have h2 : St W (Mx ++ M) (Rx ++ (sj.fct u ++ R)) w := h2
  rw [exec_call [] [] ho rfl (h1.evs hx) hf.enter]
  simp only [List.nil_append, List.append_nil]
  have h3 : St W ([] ++ (Mx ++ M)) (R0 ++ (Rx ++ (sj.fct u ++ R))) w := h2.both (fun φ hφ => List.mem_append_right _ (hs φ hφ))
  refine ⟨rfl, (hf.calls W (Mx ++ M) (Rx ++ (sj.fct u ++ R)) w h3).mono ?_⟩
  rintro e w' ⟨M1, R1, ⟨v, rfl, hv, rfl, rfl⟩, hw'⟩
  refine .inl ⟨v, rfl, hv, ?_⟩
  exact hw'.weak (fun φ hφ => List.mem_append_right _ (List.mem_append_right _ hφ))
/-- The operation is a call that takes these, and hands back one value. -/
def TakR (P : Program) (L : Tm) (R : List Fact) (o : Oper) (v : Value) (r : List Res) : Prop :=
  ∃ (k : FuncId) (args : List Value) (R0 : List Fact) (xs : List Operand) (ts : Array TypeId), o.op = .call { callee := .value (.func k), args := xs.toArray, argTypes := ts } ∧ evs L xs = some args ∧ FnS P k args r R0 (fun e M' R' => e = .returned v ∧ M' = [] ∧ R' = []) ∧ SubR R R0
theorem TakR.mk {k : FuncId} {args : List Value} {R0 : List Fact} {xs : List Operand} {ts : Array TypeId} {v : Value} {r : List Res} (h : FnS P k args r R0 (fun e M' R' => e = .returned v ∧ M' = [] ∧ R' = [])) (ho : o.op = .call { callee := .value (.func k), args := xs.toArray, argTypes := ts }) (hx : evs L xs = some args) (hs : SubR R R0) : TakR P L R o v r := ⟨k, args, R0, xs, ts, ho, hx, h, hs⟩
theorem p_takeV {ops : Array Oper} {K : List Spc → Prop} {rest : List Oper} {acc : List Spc} {val : Value → Prop} {res : Value → List Res} (v : Value) {d x : Nat} (j : Nat) {oj : Oper}
    (hoj : ops[j]? = some oj) (hx : oj.dst.getD 1000000 = x) (hsj : acc[j]? = some (Spc.al val res acc.length (fun _ => []))) (hdep : depD ops o j = true) (hg : o.guard = none) (hdst : o.dst = some d) (hd : Nat.blt d n = true)
    (h : ∀ u, val u → TakR P ((x, u) :: L) R o v (res u))
    (hr : ParO P W n M R ops K rest (acc ++ [Spc.s5 (some v) (fun _ => True) j none]) ((d, v) :: L)) : ParO P W n M R ops K (o :: rest) acc L := by
  refine ⟨Spc.s5 (some v) (fun _ => True) j none, by simp [hdst, hd], .inr (.inl ⟨hg, j, oj, _, _, some v, _, none, _, rfl, hoj, hsj, rfl, rfl, hdep, fun u hu => ?_⟩), by simpa [addL, Spc.s5, hdst] using hr⟩
  obtain ⟨k, args, R0, xs, ts, ho, hxe, hf, hs⟩ := h u hu
  rw [hx]
  intro Mx Rx a w h1 h2
  have h2 : St W (Mx ++ (res u ++ M)) (Rx ++ R) w := h2
  rw [exec_call [] [] (xs := xs) ho rfl (h1.evs hxe) hf.enter]
  have h3 : St W (res u ++ (Mx ++ M)) (R0 ++ (Rx ++ R)) w := (h2.perm (by
    rw [← List.append_assoc, ← List.append_assoc]
    exact List.perm_append_comm.append_right M)).both (fun φ hφ => List.mem_append_right _ (hs φ hφ))
  rw [List.nil_append, List.append_nil]
  refine ⟨rfl, (hf.calls W (Mx ++ M) (Rx ++ R) w h3).mono ?_⟩
  rintro e w' ⟨M1, R1, ⟨rfl, rfl, rfl⟩, hw'⟩
  exact .inl ⟨v, rfl, rfl, hw'.weak (fun φ hφ => List.mem_append_right _ (List.mem_append_right _ hφ))⟩
theorem f_layO {X : Act → World → Prop} {os : List Oper} {ss : List Spc} {val : Value → Prop} {res : Value → List Res} {k d : Nat} (hdst : o.dst = some d) (h : ∀ u, val u → Fin W n D X os ss ((d, u) :: L) M R) : Fin W n D X (o :: os) (Spc.al val res k (fun _ => []) :: ss) L M R := by
  show ∀ v, val v → Fin W n D X os ss (putL o.dst v L) ([] ++ M) ([] ++ R)
  rw [hdst]
  exact h
end Go.G


namespace Go.Proofs.YtpfgiednfjfdmaaDoor
open Go.G Debt10
set_option maxRecDepth 1000000
attribute [local irreducible] G.ParO G.Fin
attribute [local irreducible] leftT aheadT gradeS setT trA trP acc0 setK
variable (D : Debt) (uo po : Option Addr) (uc pc : Nat)
/-- Where the row of an account lies. -/
def blkA : Value → Nat
  | .agg a => match a.toList with
    | Value.slice (some p) _ _ :: _ => p.block
    | _ => 0
  | _ => 0
def valAc (n : Nat) (c A : Int) (v : Value) : Prop := ∃ x : AcX c, v = .agg ([.slice (some ⟨x.1.1, 0, none⟩) n n, i64 A, i64 x.1.2.1, i64 x.1.2.2] : List Value).toArray
def resAc (n : Nat) (l : List Opn) (v : Value) : List Res := [bx (blkA v) 3 ((arrL l n).flatMap encI)]
theorem layAc {P : Program} {k : FuncId} {args : List Value} {R0 : List Fact} {n : Nat} {c A : Int} {l : List Opn} (h : FnS P k args [] R0 (fun e M' R' => ∃ x : AcX c, e = .returned (.agg ([.slice (some ⟨x.1.1, 0, none⟩) n n, i64 A, i64 x.1.2.1, i64 x.1.2.2] : List Value).toArray) ∧ M' = [bx x.1.1 3 ((arrL l n).flatMap encI)] ∧ R' = [])) : FnS P k args [] R0 (fun e M' R' => ∃ v, e = .returned v ∧ valAc n c A v ∧ M' = resAc n l v ∧ R' = []) :=
  ⟨h.enter, fun W Mf Rf w hw => (h.calls W Mf Rf w hw).mono (by
    rintro e w' ⟨M1, R1, ⟨x, rfl, rfl, rfl⟩, hs⟩
    exact ⟨_, _, ⟨_, rfl, ⟨x, rfl⟩, rfl, rfl⟩, hs⟩)⟩
theorem takeM {P : Program} {k : FuncId} {args : List Value} {R0 : List Fact} {m : Res} {v : Value} (h : FnM P k args m R0 (fun u => u = v)) : FnS P k args [m] R0 (fun e M' R' => e = .returned v ∧ M' = [] ∧ R' = []) :=
  ⟨h.enter, fun W Mf Rf w hw => (h.calls W Mf Rf w hw).mono (by
    rintro e w' ⟨u, rfl, rfl, hs⟩
    exact ⟨_, _, ⟨rfl, rfl, rfl⟩, hs.drop⟩)⟩
theorem total_t {n : Nat} {c A : Int} {L : Tm} {R : List Fact} {o : Oper} {l : List Opn} {u : Value} {x : Nat} {ts : Array TypeId} (D : Debt) (hn6 : D.dues.length ≤ 6) (hn : n = D.dues.length) (hv : ∀ k, 0 ≤ valF l k ∧ valF l k ≤ 1000) (hu : valAc n c A u) (ho : o.op = .call { callee := .value (.func 73), args := #[.tmp x], argTypes := ts }) : TakR Tryd.prog ((x, u) :: L) R o (i64 (sumTo (valF l) n)) (resAc n l u) := by
  obtain ⟨⟨⟨b, br, ow⟩, h1, h2⟩, rfl⟩ := hu
  subst hn
  exact TakR.mk (xs := [.tmp x]) (takeM (total_m D l b A br ow hn6 hv)) ho (by simp [evs, ev, look_cons_eq]) SubRC.sub
theorem tru_end {D : Debt} (hg : GoodD D) (e : Nat) : TruD D (amT D e) (paT D e) :=
  ⟨amT_len D e, paT_len D e, fun i hi => by
    obtain ⟨_, _, ⟨h1, h2, h3, _⟩, _⟩ := hg.dues i hi
    rw [amT_at hi]; unfold amE; split <;> omega, fun i hi => by
    obtain ⟨_, _, h1, h2, h3, _⟩ := hg.paid i hi
    rw [paT_at hi]; unfold paE; split <;> omega⟩
set_option maxHeartbeats 4000000 in
theorem left51_v (hg : GoodD D) (who : Int) (d : Nat) (hd : d ≤ 30) : FnV Tryd.prog 51 [valD D uo po uc pc, i64 who, i64 (d : Int)] [rowD uo 5 encD D.dues, rowD po 4 encP D.paid] (vS ⟨total (accT D (amT D 0) (paT D 0) who (d + 1)).1, total (accT D (amT D 1) (paT D 1) who (d + 1)).1⟩) := by
  have hp1 := hg.np
  have hp2 := hg.nd
  have hp3 := hg.ny
  have hl1 : D.dues.length ≤ 40 := by omega
  have hl2 : D.paid.length ≤ 40 := by omega
  refine FnV.intro Tryd.call51 Tryd.func51 rfl Tryd.ntmps51 rfl ?_
  intro W M Rf
  refine r_seq ?_
  refine r_region ?_
  refine o_boxA rfl rfl rfl rfl rfl (fun b3 => ?_)
  refine o_alloc rfl inf29 rfl rfl rfl rfl rfl (fun b6 => ?_)
  refine o_nil ?_
  with_reducible refine r_then ?_
  refine r_seq ?_
  refine r_par' 15 mixed (by kernel_rfl) (by rfl) ?_
  refine p_q _ rfl rfl rfl (fun _ _ => v_ldW rfl Tryd.underlying25 rfl inf25 rfl rfl) ?_
  refine p_q _ rfl rfl rfl (fun _ _ => v_ldW rfl Tryd.underlying25 rfl inf25 rfl rfl) ?_
  refine p_fn (good36_r D uo po uc pc hl1 hl2) rfl rfl rfl rfl rfl SubRC.sub ?_
  refine p_q _ rfl rfl rfl (fun _ _ => v_move rfl rfl) ?_
  refine p_q _ rfl rfl rfl (fun _ _ => v_move rfl rfl) ?_
  refine p_acc (by simp only [List.nil_append, List.cons_append]; rfl) ?_
  refine p_depO (valAc D.dues.length (4000 * ((d : Int) + 1)) (accT D (amT D 0) (paT D 0) who (d + 1)).2) (resAc D.dues.length (accT D (amT D 0) (paT D 0) who (d + 1)).1) 6 2 rfl rfl rfl (by kernel_rfl) rfl rfl rfl (fun u hu => by obtain ⟨ao, ac, qo, qc, rfl⟩ := hu; exact LayR.mk (layAc (after_v D uo po uc pc (amT D 0) (paT D 0) ao qo ac qc hg (tru_end hg 0) who d hd)) rfl rfl (by show SubR ([rowD ao 1 encI (amT D 0), rowD qo 1 encI (paT D 0)] ++ _) _; exact SubRC.sub)) ?_
  refine p_acc (by simp only [List.nil_append, List.cons_append]; rfl) ?_
  refine p_takeV (i64 (sumTo (valF (accT D (amT D 0) (paT D 0) who (d + 1)).1) D.dues.length)) 5 rfl rfl rfl (by kernel_rfl) rfl rfl rfl (fun u hu => total_t D hp2 rfl (val_bdT hg (tru_end hg 0) who (d + 1) (by omega)) hu rfl) ?_
  refine p_q _ rfl rfl rfl (fun _ _ => v_ldW rfl Tryd.underlying25 rfl inf25 rfl rfl) ?_
  refine p_q _ rfl rfl rfl (fun _ _ => v_ldW rfl Tryd.underlying25 rfl inf25 rfl rfl) ?_
  refine p_fn (bad37_r D uo po uc pc hl1 hl2) rfl rfl rfl rfl rfl SubRC.sub ?_
  refine p_q _ rfl rfl rfl (fun _ _ => v_move rfl rfl) ?_
  refine p_q _ rfl rfl rfl (fun _ _ => v_move rfl rfl) ?_
  refine p_acc (by simp only [List.nil_append, List.cons_append]; rfl) ?_
  refine p_depO (valAc D.dues.length (4000 * ((d : Int) + 1)) (accT D (amT D 1) (paT D 1) who (d + 1)).2) (resAc D.dues.length (accT D (amT D 1) (paT D 1) who (d + 1)).1) 13 9 rfl rfl rfl (by kernel_rfl) rfl rfl rfl (fun u hu => by obtain ⟨ao, ac, qo, qc, rfl⟩ := hu; exact LayR.mk (layAc (after_v D uo po uc pc (amT D 1) (paT D 1) ao qo ac qc hg (tru_end hg 1) who d hd)) rfl rfl (by show SubR ([rowD ao 1 encI (amT D 1), rowD qo 1 encI (paT D 1)] ++ _) _; exact SubRC.sub)) ?_
  refine p_acc (by simp only [List.nil_append, List.cons_append]; rfl) ?_
  refine p_takeV (i64 (sumTo (valF (accT D (amT D 1) (paT D 1) who (d + 1)).1) D.dues.length)) 12 rfl rfl rfl (by kernel_rfl) rfl rfl rfl (fun u hu => total_t D hp2 rfl (val_bdT hg (tru_end hg 1) who (d + 1) (by omega)) hu rfl) ?_
  refine p_q _ rfl rfl rfl (fun _ _ => v_bS rfl Tryd.underlying29 inf29 plt29 rfl rfl rfl (by repeat (first | exact trivial | refine ⟨rfl, ?_⟩)) (by rfl)) ?_
  refine p_nil2 (by simp only [List.nil_append, List.cons_append]; rfl) rfl ?_ (by kernel_rfl)
  refine f_q rfl ?_
  refine f_q rfl ?_
  refine f_gf rfl (fun v9 hv9 => ?_)
  refine f_q rfl ?_
  refine f_q rfl ?_
  refine f_layO rfl (fun v12 hv12 => ?_)
  refine f_take rfl ?_
  refine f_q rfl ?_
  refine f_q rfl ?_
  refine f_gf rfl (fun v16 hv16 => ?_)
  refine f_q rfl ?_
  refine f_q rfl ?_
  refine f_layO rfl (fun v19 hv19 => ?_)
  refine f_take rfl ?_
  refine f_q rfl ?_
  refine f_nil ?_
  refine o_st rfl inf29 rfl rfl rfl rfl rfl rfl rfl rfl ?_
  refine o_nil ?_
  with_reducible refine r_then ?_
  refine r_ret ?_
  exact r_retv2 (Rd.one rfl (RdI.cellW Tryd.underlying29 rfl inf29 rfl rfl)) (by rw [sum_allT hg (tru_end hg 0), sum_allT hg (tru_end hg 1)]; rfl) SelMC.sel SubRC.sub
set_option maxHeartbeats 4000000 in
theorem need57_v (hg : GoodD D) (who : Int) (d : Nat) (hd : d ≤ 30) : FnV Tryd.prog 57 [valD D uo po uc pc, i64 who, i64 (d : Int)] [rowD uo 5 encD D.dues, rowD po 4 encP D.paid] (i64 (sumTo (valF (payF (lstT D (amT D 1) (paT D 1) who d) (bagT D (amT D 1) (paT D 1) who d))) D.dues.length)) := by
  have hp1 := hg.np
  have hp2 := hg.nd
  have hp3 := hg.ny
  have hl1 : D.dues.length ≤ 40 := by omega
  have hl2 : D.paid.length ≤ 40 := by omega
  refine FnV.intro Tryd.call57 Tryd.func57 rfl Tryd.ntmps57 rfl ?_
  intro W M Rf
  refine r_seq ?_
  refine r_region ?_
  refine o_boxA rfl rfl rfl rfl rfl (fun b3 => ?_)
  refine o_q _ rfl rfl rfl (v_assign rfl rfl) ?_
  refine o_nil ?_
  with_reducible refine r_then ?_
  refine r_seq ?_
  refine r_par' 7 mixed (by kernel_rfl) (by rfl) ?_
  refine p_q _ rfl rfl rfl (fun _ _ => v_ldW rfl Tryd.underlying25 rfl inf25 rfl rfl) ?_
  refine p_q _ rfl rfl rfl (fun _ _ => v_ldW rfl Tryd.underlying25 rfl inf25 rfl rfl) ?_
  refine p_fn (bad37_r D uo po uc pc hl1 hl2) rfl rfl rfl rfl rfl SubRC.sub ?_
  refine p_q _ rfl rfl rfl (fun _ _ => v_move rfl rfl) ?_
  refine p_q _ rfl rfl rfl (fun _ _ => v_move rfl rfl) ?_
  refine p_acc (by simp only [List.nil_append, List.cons_append]; rfl) ?_
  refine p_depO (valAc D.dues.length (4000 * (d : Int) + 3500) (restF (lstT D (amT D 1) (paT D 1) who d) (bagT D (amT D 1) (paT D 1) who d))) (resAc D.dues.length (payF (lstT D (amT D 1) (paT D 1) who d) (bagT D (amT D 1) (paT D 1) who d))) 6 2 rfl rfl rfl (by kernel_rfl) rfl rfl rfl (fun u hu => by obtain ⟨ao, ac, qo, qc, rfl⟩ := hu; exact LayR.mk (layAc (before_v D uo po uc pc (amT D 1) (paT D 1) ao qo ac qc hg (tru_end hg 1) who d hd)) rfl rfl (by show SubR ([rowD ao 1 encI (amT D 1), rowD qo 1 encI (paT D 1)] ++ _) _; exact SubRC.sub)) ?_
  refine p_acc (by simp only [List.nil_append, List.cons_append]; rfl) ?_
  refine p_takeV (i64 (sumTo (valF (payF (lstT D (amT D 1) (paT D 1) who d) (bagT D (amT D 1) (paT D 1) who d))) D.dues.length)) 5 rfl rfl rfl (by kernel_rfl) rfl rfl rfl (fun u hu => total_t D hp2 rfl (pay_bdT hg (tru_end hg 1) who d (by omega)) hu rfl) ?_
  refine p_nil2 (by simp only [List.nil_append, List.cons_append]; rfl) rfl ?_ (by kernel_rfl)
  refine f_q rfl ?_
  refine f_q rfl ?_
  refine f_gf rfl (fun v9 hv9 => ?_)
  refine f_q rfl ?_
  refine f_q rfl ?_
  refine f_layO rfl (fun v12 hv12 => ?_)
  refine f_take rfl ?_
  refine f_nil ?_
  refine o_q _ rfl rfl rfl (v_assign rfl rfl) ?_
  refine o_nil ?_
  with_reducible refine r_then ?_
  refine r_ret ?_
  exact r_retv2 (Rd.tmp rfl rfl) rfl SelMC.sel SubRC.sub
end Go.Proofs.YtpfgiednfjfdmaaDoor


namespace Go.Proofs.YtpfgiednfjfdmaaDoor
open Go.G Debt10
set_option maxRecDepth 1000000
attribute [local irreducible] G.ParO G.Fin
variable (D : Debt) (uo po : Option Addr) (uc pc : Nat)
set_option maxHeartbeats 4000000 in
theorem check48_v (b : Bool) (hl1 : D.dues.length ≤ 40) (hl2 : D.paid.length ≤ 40) : FnV Tryd.prog 48 [valD D uo po uc pc, .bool b] [rowD uo 5 encD D.dues, rowD po 4 encP D.paid] (i64 (if GoodD D then (if b then 0 else 2) else 1)) := by
  refine FnV.intro Tryd.call48 Tryd.func48 rfl Tryd.ntmps48 rfl ?_
  intro W M Rf
  refine r_seq ?_
  refine r_region ?_
  refine o_boxA rfl rfl rfl rfl rfl (fun b2 => ?_)
  refine o_q _ rfl rfl rfl (v_assign rfl rfl) ?_
  refine o_nil ?_
  with_reducible refine r_then ?_
  refine r_seq ?_
  refine r_seq ?_
  refine r_region ?_
  refine o_q _ rfl rfl rfl (v_ldW rfl Tryd.underlying25 rfl inf25 rfl rfl) ?_
  refine o_test rfl rfl rfl (OpQ.fn (Debt_v D uo po uc pc hl1 hl2) rfl rfl SubRC.sub) (fun h6 => ?_) (fun h6 => ?_)
  all_goals
    refine o_q _ rfl rfl rfl (v_not rfl rfl) ?_
    refine o_nil ?_
    with_reducible refine r_then ?_
    refine r_cond rfl (fun hc7 => ?_) (fun hc7 => ?_)
    ·
      first
      | (exfalso; revert hc7; decide)
      | skip
        refine r_seq ?_
        refine r_region ?_
        refine o_q _ rfl rfl rfl (v_assign rfl rfl) ?_
        refine o_nil ?_
        with_reducible refine r_then ?_
        refine r_ret ?_
        with_reducible refine r_then_ret ?_
        exact r_retv2 (Rd.tmp rfl rfl) (by first | rfl | (cases b <;> simp_all)) SelMC.sel SubRC.sub
    ·
      first
      | (exfalso; revert hc7; decide)
      | skip
        refine r_skip ?_
        with_reducible refine r_then ?_
        refine r_seq ?_
        refine r_seq ?_
        refine r_region ?_
        refine o_q _ rfl rfl rfl (v_move rfl rfl) ?_
        refine o_q _ rfl rfl rfl (v_not rfl rfl) ?_
        refine o_nil ?_
        with_reducible refine r_then ?_
        refine r_cond rfl (fun hc9 => ?_) (fun hc9 => ?_)
        ·
          refine r_seq ?_
          refine r_region ?_
          refine o_q _ rfl rfl rfl (v_assign rfl rfl) ?_
          refine o_nil ?_
          with_reducible refine r_then ?_
          refine r_ret ?_
          with_reducible refine r_then_ret ?_
          exact r_retv2 (Rd.tmp rfl rfl) (by first | rfl | (cases b <;> simp_all)) SelMC.sel SubRC.sub
        ·
          refine r_skip ?_
          with_reducible refine r_then ?_
          refine r_seq ?_
          refine r_region ?_
          refine o_q _ rfl rfl rfl (v_assign rfl rfl) ?_
          refine o_nil ?_
          with_reducible refine r_then ?_
          refine r_ret ?_
          exact r_retv2 (Rd.tmp rfl rfl) (by first | rfl | (cases b <;> simp_all)) SelMC.sel SubRC.sub
end Go.Proofs.YtpfgiednfjfdmaaDoor


namespace Go.Proofs.YtpfgiednfjfdmaaDoor
open Go.G Debt10
set_option maxRecDepth 1000000
attribute [local irreducible] G.ParO G.Fin
variable (D : Debt) (uo po : Option Addr) (uc pc : Nat)
abbrev endA (D : Debt) (e : Nat) (who : Int) (d : Nat) : List Opn × Int := accT D (amT D e) (paT D e) who (d + 1)
def leftR (D : Debt) (who d : Int) : Debt10.Span × Int := ansD D (okWD D who d) ⟨0, 0⟩ ⟨total (endA D 0 who d.toNat).1, total (endA D 1 who d.toNat).1⟩
set_option maxHeartbeats 4000000 in
theorem left15_a (who d : Int) (hl1 : D.dues.length ≤ 40) (hl2 : D.paid.length ≤ 40) (hng : ¬ GoodD D) (h1 : isW D who = false) : FnV Tryd.prog 15 [valD D uo po uc pc, i64 who, i64 d] [rowD uo 5 encD D.dues, rowD po 4 encP D.paid] (.tuple #[vS (leftR D who d).1, i64 (leftR D who d).2]) := by
  refine FnV.intro Tryd.call15 Tryd.func15 rfl Tryd.ntmps15 rfl ?_
  intro W M Rf
  refine r_seq ?_
  refine r_region ?_
  refine o_boxA rfl rfl rfl rfl rfl (fun b3 => ?_)
  refine o_alloc rfl inf29 rfl rfl rfl rfl rfl (fun b6 => ?_)
  refine o_q _ rfl rfl rfl (v_assign rfl rfl) ?_
  refine o_nil ?_
  with_reducible refine r_then ?_
  refine r_seq ?_
  refine r_region_q mixed (by kernel_rfl) ?_
  refine q_q _ rfl rfl rfl (v_ldW rfl Tryd.underlying25 rfl inf25 rfl rfl) ?_
  refine q_q _ rfl rfl rfl (v_ldW rfl Tryd.underlying25 rfl inf25 rfl rfl) ?_
  refine q_q _ rfl rfl rfl (v_move rfl rfl) ?_
  refine q_q _ rfl rfl rfl (v_cast (v := .bool false) (OpQ.fn (rWho_v D uo po uc pc who) rfl rfl SubRC.sub) (congrArg Value.bool h1)) ?_
  refine q_q _ rfl rfl rfl (v_move rfl rfl) ?_
  refine q_gn rfl rfl rfl rfl ?_
  refine q_gn rfl rfl rfl rfl ?_
  refine q_q _ rfl rfl rfl (v_pick_f rfl rfl rfl) ?_
  refine q_q _ rfl rfl rfl (v_cast (v := i64 1) (OpQ.fn (check48_v D uo po uc pc false hl1 hl2) rfl rfl SubRC.sub) (i64c (chkD_1 hng))) ?_
  refine q_q _ rfl rfl rfl (v_assign rfl rfl) ?_
  refine q_nil ?_
  with_reducible refine r_then ?_
  refine r_seq ?_
  refine r_seq ?_
  refine r_region ?_
  refine o_q _ rfl rfl rfl (v_move rfl rfl) ?_
  refine o_q _ rfl rfl rfl (v_neq rfl rfl rfl) ?_
  refine o_nil ?_
  with_reducible refine r_then ?_
  refine r_condd rfl (fun hc19 => ?_) (fun hc19 => ?_)
  ·
    refine r_seq ?_
    refine r_region ?_
    refine o_q _ rfl rfl rfl (v_bS0 rfl Tryd.underlying29 inf29 plt29 rfl rfl) ?_
    refine o_q _ rfl rfl rfl (v_move rfl rfl) ?_
    refine o_st rfl inf29 rfl rfl rfl rfl rfl rfl rfl rfl ?_
    refine o_q _ rfl rfl rfl (v_assign rfl rfl) ?_
    refine o_nil ?_
    with_reducible refine r_then ?_
    refine r_ret ?_
    with_reducible refine r_then_ret ?_
    exact r_retv2 (Rd.two rfl (RdI.cellW Tryd.underlying29 rfl inf29 rfl rfl) (RdI.tmp rfl)) (by rw [leftR, ansD_n (chkD_1 hng) (by decide)]; try rfl) SelMC.sel SubRC.sub
  ·
    (exfalso; revert hc19; decide)
set_option maxHeartbeats 4000000 in
theorem left15_b (who d : Int) (hl1 : D.dues.length ≤ 40) (hl2 : D.paid.length ≤ 40) (hng : ¬ GoodD D) (h1 : isW D who = true) : FnV Tryd.prog 15 [valD D uo po uc pc, i64 who, i64 d] [rowD uo 5 encD D.dues, rowD po 4 encP D.paid] (.tuple #[vS (leftR D who d).1, i64 (leftR D who d).2]) := by
  refine FnV.intro Tryd.call15 Tryd.func15 rfl Tryd.ntmps15 rfl ?_
  intro W M Rf
  refine r_seq ?_
  refine r_region ?_
  refine o_boxA rfl rfl rfl rfl rfl (fun b3 => ?_)
  refine o_alloc rfl inf29 rfl rfl rfl rfl rfl (fun b6 => ?_)
  refine o_q _ rfl rfl rfl (v_assign rfl rfl) ?_
  refine o_nil ?_
  with_reducible refine r_then ?_
  refine r_seq ?_
  refine r_region_q mixed (by kernel_rfl) ?_
  refine q_q _ rfl rfl rfl (v_ldW rfl Tryd.underlying25 rfl inf25 rfl rfl) ?_
  refine q_q _ rfl rfl rfl (v_ldW rfl Tryd.underlying25 rfl inf25 rfl rfl) ?_
  refine q_q _ rfl rfl rfl (v_move rfl rfl) ?_
  refine q_q _ rfl rfl rfl (v_cast (v := .bool true) (OpQ.fn (rWho_v D uo po uc pc who) rfl rfl SubRC.sub) (congrArg Value.bool h1)) ?_
  refine q_q _ rfl rfl rfl (v_move rfl rfl) ?_
  refine q_g _ rfl rfl rfl rfl (v_move rfl rfl) ?_
  refine q_g _ rfl rfl rfl rfl (OpQ.fn (rDay_v d) rfl rfl SubRC.sub) ?_
  refine q_q _ rfl rfl rfl (v_pick_t rfl rfl rfl) ?_
  refine q_q _ rfl rfl rfl (v_cast (v := i64 1) (OpQ.fn (check48_v D uo po uc pc (isDy d) hl1 hl2) rfl rfl SubRC.sub) (i64c (chkD_1 hng))) ?_
  refine q_q _ rfl rfl rfl (v_assign rfl rfl) ?_
  refine q_nil ?_
  with_reducible refine r_then ?_
  refine r_seq ?_
  refine r_seq ?_
  refine r_region ?_
  refine o_q _ rfl rfl rfl (v_move rfl rfl) ?_
  refine o_q _ rfl rfl rfl (v_neq rfl rfl rfl) ?_
  refine o_nil ?_
  with_reducible refine r_then ?_
  refine r_condd rfl (fun hc19 => ?_) (fun hc19 => ?_)
  ·
    refine r_seq ?_
    refine r_region ?_
    refine o_q _ rfl rfl rfl (v_bS0 rfl Tryd.underlying29 inf29 plt29 rfl rfl) ?_
    refine o_q _ rfl rfl rfl (v_move rfl rfl) ?_
    refine o_st rfl inf29 rfl rfl rfl rfl rfl rfl rfl rfl ?_
    refine o_q _ rfl rfl rfl (v_assign rfl rfl) ?_
    refine o_nil ?_
    with_reducible refine r_then ?_
    refine r_ret ?_
    with_reducible refine r_then_ret ?_
    exact r_retv2 (Rd.two rfl (RdI.cellW Tryd.underlying29 rfl inf29 rfl rfl) (RdI.tmp rfl)) (by rw [leftR, ansD_n (chkD_1 hng) (by decide)]; try rfl) SelMC.sel SubRC.sub
  ·
    (exfalso; revert hc19; decide)
set_option maxHeartbeats 4000000 in
theorem left15_c (who d : Int) (hl1 : D.dues.length ≤ 40) (hl2 : D.paid.length ≤ 40) (hg : GoodD D) (h1 : isW D who = false) : FnV Tryd.prog 15 [valD D uo po uc pc, i64 who, i64 d] [rowD uo 5 encD D.dues, rowD po 4 encP D.paid] (.tuple #[vS (leftR D who d).1, i64 (leftR D who d).2]) := by
  refine FnV.intro Tryd.call15 Tryd.func15 rfl Tryd.ntmps15 rfl ?_
  intro W M Rf
  refine r_seq ?_
  refine r_region ?_
  refine o_boxA rfl rfl rfl rfl rfl (fun b3 => ?_)
  refine o_alloc rfl inf29 rfl rfl rfl rfl rfl (fun b6 => ?_)
  refine o_q _ rfl rfl rfl (v_assign rfl rfl) ?_
  refine o_nil ?_
  with_reducible refine r_then ?_
  refine r_seq ?_
  refine r_region_q mixed (by kernel_rfl) ?_
  refine q_q _ rfl rfl rfl (v_ldW rfl Tryd.underlying25 rfl inf25 rfl rfl) ?_
  refine q_q _ rfl rfl rfl (v_ldW rfl Tryd.underlying25 rfl inf25 rfl rfl) ?_
  refine q_q _ rfl rfl rfl (v_move rfl rfl) ?_
  refine q_q _ rfl rfl rfl (v_cast (v := .bool false) (OpQ.fn (rWho_v D uo po uc pc who) rfl rfl SubRC.sub) (congrArg Value.bool h1)) ?_
  refine q_q _ rfl rfl rfl (v_move rfl rfl) ?_
  refine q_gn rfl rfl rfl rfl ?_
  refine q_gn rfl rfl rfl rfl ?_
  refine q_q _ rfl rfl rfl (v_pick_f rfl rfl rfl) ?_
  refine q_q _ rfl rfl rfl (v_cast (v := i64 2) (OpQ.fn (check48_v D uo po uc pc false hl1 hl2) rfl rfl SubRC.sub) (i64c (chkD_2 hg rfl))) ?_
  refine q_q _ rfl rfl rfl (v_assign rfl rfl) ?_
  refine q_nil ?_
  with_reducible refine r_then ?_
  refine r_seq ?_
  refine r_seq ?_
  refine r_region ?_
  refine o_q _ rfl rfl rfl (v_move rfl rfl) ?_
  refine o_q _ rfl rfl rfl (v_neq rfl rfl rfl) ?_
  refine o_nil ?_
  with_reducible refine r_then ?_
  refine r_condd rfl (fun hc19 => ?_) (fun hc19 => ?_)
  ·
    refine r_seq ?_
    refine r_region ?_
    refine o_q _ rfl rfl rfl (v_bS0 rfl Tryd.underlying29 inf29 plt29 rfl rfl) ?_
    refine o_q _ rfl rfl rfl (v_move rfl rfl) ?_
    refine o_st rfl inf29 rfl rfl rfl rfl rfl rfl rfl rfl ?_
    refine o_q _ rfl rfl rfl (v_assign rfl rfl) ?_
    refine o_nil ?_
    with_reducible refine r_then ?_
    refine r_ret ?_
    with_reducible refine r_then_ret ?_
    exact r_retv2 (Rd.two rfl (RdI.cellW Tryd.underlying29 rfl inf29 rfl rfl) (RdI.tmp rfl)) (by rw [leftR, ansD_n (chkD_2 hg (okF1 h1)) (by decide)]; try rfl) SelMC.sel SubRC.sub
  ·
    (exfalso; revert hc19; decide)
set_option maxHeartbeats 4000000 in
theorem left15_d (who d : Int) (hl1 : D.dues.length ≤ 40) (hl2 : D.paid.length ≤ 40) (hg : GoodD D) (h1 : isW D who = true) (h2 : isDy d = false) : FnV Tryd.prog 15 [valD D uo po uc pc, i64 who, i64 d] [rowD uo 5 encD D.dues, rowD po 4 encP D.paid] (.tuple #[vS (leftR D who d).1, i64 (leftR D who d).2]) := by
  refine FnV.intro Tryd.call15 Tryd.func15 rfl Tryd.ntmps15 rfl ?_
  intro W M Rf
  refine r_seq ?_
  refine r_region ?_
  refine o_boxA rfl rfl rfl rfl rfl (fun b3 => ?_)
  refine o_alloc rfl inf29 rfl rfl rfl rfl rfl (fun b6 => ?_)
  refine o_q _ rfl rfl rfl (v_assign rfl rfl) ?_
  refine o_nil ?_
  with_reducible refine r_then ?_
  refine r_seq ?_
  refine r_region_q mixed (by kernel_rfl) ?_
  refine q_q _ rfl rfl rfl (v_ldW rfl Tryd.underlying25 rfl inf25 rfl rfl) ?_
  refine q_q _ rfl rfl rfl (v_ldW rfl Tryd.underlying25 rfl inf25 rfl rfl) ?_
  refine q_q _ rfl rfl rfl (v_move rfl rfl) ?_
  refine q_q _ rfl rfl rfl (v_cast (v := .bool true) (OpQ.fn (rWho_v D uo po uc pc who) rfl rfl SubRC.sub) (congrArg Value.bool h1)) ?_
  refine q_q _ rfl rfl rfl (v_move rfl rfl) ?_
  refine q_g _ rfl rfl rfl rfl (v_move rfl rfl) ?_
  refine q_g _ rfl rfl rfl rfl (v_cast (v := .bool false) (OpQ.fn (rDay_v _) rfl rfl SubRC.sub) (congrArg Value.bool h2)) ?_
  refine q_q _ rfl rfl rfl (v_pick_t rfl rfl rfl) ?_
  refine q_q _ rfl rfl rfl (v_cast (v := i64 2) (OpQ.fn (check48_v D uo po uc pc false hl1 hl2) rfl rfl SubRC.sub) (i64c (chkD_2 hg rfl))) ?_
  refine q_q _ rfl rfl rfl (v_assign rfl rfl) ?_
  refine q_nil ?_
  with_reducible refine r_then ?_
  refine r_seq ?_
  refine r_seq ?_
  refine r_region ?_
  refine o_q _ rfl rfl rfl (v_move rfl rfl) ?_
  refine o_q _ rfl rfl rfl (v_neq rfl rfl rfl) ?_
  refine o_nil ?_
  with_reducible refine r_then ?_
  refine r_condd rfl (fun hc19 => ?_) (fun hc19 => ?_)
  ·
    refine r_seq ?_
    refine r_region ?_
    refine o_q _ rfl rfl rfl (v_bS0 rfl Tryd.underlying29 inf29 plt29 rfl rfl) ?_
    refine o_q _ rfl rfl rfl (v_move rfl rfl) ?_
    refine o_st rfl inf29 rfl rfl rfl rfl rfl rfl rfl rfl ?_
    refine o_q _ rfl rfl rfl (v_assign rfl rfl) ?_
    refine o_nil ?_
    with_reducible refine r_then ?_
    refine r_ret ?_
    with_reducible refine r_then_ret ?_
    exact r_retv2 (Rd.two rfl (RdI.cellW Tryd.underlying29 rfl inf29 rfl rfl) (RdI.tmp rfl)) (by rw [leftR, ansD_n (chkD_2 hg (okF2 h2)) (by decide)]; try rfl) SelMC.sel SubRC.sub
  ·
    (exfalso; revert hc19; decide)
set_option maxHeartbeats 4000000 in
theorem left15_o (who d : Int) (hl1 : D.dues.length ≤ 40) (hl2 : D.paid.length ≤ 40) (hg : GoodD D) (h1 : isW D who = true) (h2 : isDy d = true) : FnV Tryd.prog 15 [valD D uo po uc pc, i64 who, i64 d] [rowD uo 5 encD D.dues, rowD po 4 encP D.paid] (.tuple #[vS (leftR D who d).1, i64 (leftR D who d).2]) := by
  obtain ⟨dn, rfl⟩ : ∃ n : Nat, d = n := ⟨d.toNat, by have := of_decide_eq_true h2; omega⟩
  have hd := of_decide_eq_true h2
  have hdn : dn ≤ 30 := by omega
  have hp2 := hg.nd
  refine FnV.intro Tryd.call15 Tryd.func15 rfl Tryd.ntmps15 rfl ?_
  intro W M Rf
  refine r_seq ?_
  refine r_region ?_
  refine o_boxA rfl rfl rfl rfl rfl (fun b3 => ?_)
  refine o_alloc rfl inf29 rfl rfl rfl rfl rfl (fun b6 => ?_)
  refine o_q _ rfl rfl rfl (v_assign rfl rfl) ?_
  refine o_nil ?_
  with_reducible refine r_then ?_
  refine r_seq ?_
  refine r_region_q mixed (by kernel_rfl) ?_
  refine q_q _ rfl rfl rfl (v_ldW rfl Tryd.underlying25 rfl inf25 rfl rfl) ?_
  refine q_q _ rfl rfl rfl (v_ldW rfl Tryd.underlying25 rfl inf25 rfl rfl) ?_
  refine q_q _ rfl rfl rfl (v_move rfl rfl) ?_
  refine q_q _ rfl rfl rfl (v_cast (v := .bool true) (OpQ.fn (rWho_v D uo po uc pc who) rfl rfl SubRC.sub) (congrArg Value.bool h1)) ?_
  refine q_q _ rfl rfl rfl (v_move rfl rfl) ?_
  refine q_g _ rfl rfl rfl rfl (v_move rfl rfl) ?_
  refine q_g _ rfl rfl rfl rfl (v_cast (v := .bool true) (OpQ.fn (rDay_v _) rfl rfl SubRC.sub) (congrArg Value.bool h2)) ?_
  refine q_q _ rfl rfl rfl (v_pick_t rfl rfl rfl) ?_
  refine q_q _ rfl rfl rfl (v_cast (v := i64 0) (OpQ.fn (check48_v D uo po uc pc true hl1 hl2) rfl rfl SubRC.sub) (i64c (chkD_0 hg rfl))) ?_
  refine q_q _ rfl rfl rfl (v_assign rfl rfl) ?_
  refine q_nil ?_
  with_reducible refine r_then ?_
  refine r_seq ?_
  refine r_seq ?_
  refine r_region ?_
  refine o_q _ rfl rfl rfl (v_move rfl rfl) ?_
  refine o_q _ rfl rfl rfl (v_neq rfl rfl rfl) ?_
  refine o_nil ?_
  with_reducible refine r_then ?_
  refine r_condd rfl (fun hc19 => ?_) (fun hc19 => ?_)
  ·
    (exfalso; revert hc19; decide)
  ·
    refine r_skip ?_
    with_reducible refine r_then ?_
    refine r_seq ?_
    refine r_region ?_
    refine o_q _ rfl rfl rfl (v_ldW rfl Tryd.underlying25 rfl inf25 rfl rfl) ?_
    refine o_q _ rfl rfl rfl (v_move rfl rfl) ?_
    refine o_q _ rfl rfl rfl (v_move rfl rfl) ?_
    refine o_q _ rfl rfl rfl (OpQ.fn (left51_v D uo po uc pc hg who dn hdn) rfl rfl SubRC.sub) ?_
    refine o_st rfl inf29 rfl rfl rfl rfl rfl rfl rfl rfl ?_
    refine o_q _ rfl rfl rfl (v_assign rfl rfl) ?_
    refine o_nil ?_
    with_reducible refine r_then ?_
    refine r_ret ?_
    exact r_retv2 (Rd.two rfl (RdI.cellW Tryd.underlying29 rfl inf29 rfl rfl) (RdI.tmp rfl)) (by rw [leftR, ansD_0 (chkD_0 hg (okT h1 h2)), Int.toNat_natCast]; try rfl) SelMC.sel SubRC.sub
theorem left15_v (who d : Int) (hl1 : D.dues.length ≤ 40) (hl2 : D.paid.length ≤ 40) : FnV Tryd.prog 15 [valD D uo po uc pc, i64 who, i64 d] [rowD uo 5 encD D.dues, rowD po 4 encP D.paid] (.tuple #[vS (leftR D who d).1, i64 (leftR D who d).2]) := by
  by_cases hg : GoodD D
  · cases h1 : isW D who
    · exact left15_c D uo po uc pc who d hl1 hl2 hg h1
    · cases h2 : isDy d
      · exact left15_d D uo po uc pc who d hl1 hl2 hg h1 h2
      · exact left15_o D uo po uc pc who d hl1 hl2 hg h1 h2
  · cases h1 : isW D who
    · exact left15_a D uo po uc pc who d hl1 hl2 hg h1
    · exact left15_b D uo po uc pc who d hl1 hl2 hg h1
def needR (D : Debt) (who d : Int) : Int × Int := ansD D (okWD D who d) 0 (sumTo (valF (payF (lstT D (amT D 1) (paT D 1) who d.toNat) (bagT D (amT D 1) (paT D 1) who d.toNat))) D.dues.length)
set_option maxHeartbeats 4000000 in
theorem need23_a (who d : Int) (hl1 : D.dues.length ≤ 40) (hl2 : D.paid.length ≤ 40) (hng : ¬ GoodD D) (h1 : isW D who = false) : FnV Tryd.prog 23 [valD D uo po uc pc, i64 who, i64 d] [rowD uo 5 encD D.dues, rowD po 4 encP D.paid] (.tuple #[i64 (needR D who d).1, i64 (needR D who d).2]) := by
  refine FnV.intro Tryd.call23 Tryd.func23 rfl Tryd.ntmps23 rfl ?_
  intro W M Rf
  refine r_seq ?_
  refine r_region ?_
  refine o_boxA rfl rfl rfl rfl rfl (fun b3 => ?_)
  refine o_q _ rfl rfl rfl (v_assign rfl rfl) ?_
  refine o_q _ rfl rfl rfl (v_assign rfl rfl) ?_
  refine o_nil ?_
  with_reducible refine r_then ?_
  refine r_seq ?_
  refine r_region_q mixed (by kernel_rfl) ?_
  refine q_q _ rfl rfl rfl (v_ldW rfl Tryd.underlying25 rfl inf25 rfl rfl) ?_
  refine q_q _ rfl rfl rfl (v_ldW rfl Tryd.underlying25 rfl inf25 rfl rfl) ?_
  refine q_q _ rfl rfl rfl (v_move rfl rfl) ?_
  refine q_q _ rfl rfl rfl (v_cast (v := .bool false) (OpQ.fn (rWho_v D uo po uc pc who) rfl rfl SubRC.sub) (congrArg Value.bool h1)) ?_
  refine q_q _ rfl rfl rfl (v_move rfl rfl) ?_
  refine q_gn rfl rfl rfl rfl ?_
  refine q_gn rfl rfl rfl rfl ?_
  refine q_q _ rfl rfl rfl (v_pick_f rfl rfl rfl) ?_
  refine q_q _ rfl rfl rfl (v_cast (v := i64 1) (OpQ.fn (check48_v D uo po uc pc false hl1 hl2) rfl rfl SubRC.sub) (i64c (chkD_1 hng))) ?_
  refine q_q _ rfl rfl rfl (v_assign rfl rfl) ?_
  refine q_nil ?_
  with_reducible refine r_then ?_
  refine r_seq ?_
  refine r_seq ?_
  refine r_region ?_
  refine o_q _ rfl rfl rfl (v_move rfl rfl) ?_
  refine o_q _ rfl rfl rfl (v_neq rfl rfl rfl) ?_
  refine o_nil ?_
  with_reducible refine r_then ?_
  refine r_condd rfl (fun hc19 => ?_) (fun hc19 => ?_)
  ·
    refine r_seq ?_
    refine r_region ?_
    refine o_q _ rfl rfl rfl (v_move rfl rfl) ?_
    refine o_q _ rfl rfl rfl (v_assign rfl rfl) ?_
    refine o_q _ rfl rfl rfl (v_assign rfl rfl) ?_
    refine o_nil ?_
    with_reducible refine r_then ?_
    refine r_ret ?_
    with_reducible refine r_then_ret ?_
    exact r_retv2 (Rd.two rfl (RdI.tmp rfl) (RdI.tmp rfl)) (by rw [needR, ansD_n (chkD_1 hng) (by decide)]; try rfl) SelMC.sel SubRC.sub
  ·
    (exfalso; revert hc19; decide)
set_option maxHeartbeats 4000000 in
theorem need23_b (who d : Int) (hl1 : D.dues.length ≤ 40) (hl2 : D.paid.length ≤ 40) (hng : ¬ GoodD D) (h1 : isW D who = true) : FnV Tryd.prog 23 [valD D uo po uc pc, i64 who, i64 d] [rowD uo 5 encD D.dues, rowD po 4 encP D.paid] (.tuple #[i64 (needR D who d).1, i64 (needR D who d).2]) := by
  refine FnV.intro Tryd.call23 Tryd.func23 rfl Tryd.ntmps23 rfl ?_
  intro W M Rf
  refine r_seq ?_
  refine r_region ?_
  refine o_boxA rfl rfl rfl rfl rfl (fun b3 => ?_)
  refine o_q _ rfl rfl rfl (v_assign rfl rfl) ?_
  refine o_q _ rfl rfl rfl (v_assign rfl rfl) ?_
  refine o_nil ?_
  with_reducible refine r_then ?_
  refine r_seq ?_
  refine r_region_q mixed (by kernel_rfl) ?_
  refine q_q _ rfl rfl rfl (v_ldW rfl Tryd.underlying25 rfl inf25 rfl rfl) ?_
  refine q_q _ rfl rfl rfl (v_ldW rfl Tryd.underlying25 rfl inf25 rfl rfl) ?_
  refine q_q _ rfl rfl rfl (v_move rfl rfl) ?_
  refine q_q _ rfl rfl rfl (v_cast (v := .bool true) (OpQ.fn (rWho_v D uo po uc pc who) rfl rfl SubRC.sub) (congrArg Value.bool h1)) ?_
  refine q_q _ rfl rfl rfl (v_move rfl rfl) ?_
  refine q_g _ rfl rfl rfl rfl (v_move rfl rfl) ?_
  refine q_g _ rfl rfl rfl rfl (OpQ.fn (rDay_v d) rfl rfl SubRC.sub) ?_
  refine q_q _ rfl rfl rfl (v_pick_t rfl rfl rfl) ?_
  refine q_q _ rfl rfl rfl (v_cast (v := i64 1) (OpQ.fn (check48_v D uo po uc pc (isDy d) hl1 hl2) rfl rfl SubRC.sub) (i64c (chkD_1 hng))) ?_
  refine q_q _ rfl rfl rfl (v_assign rfl rfl) ?_
  refine q_nil ?_
  with_reducible refine r_then ?_
  refine r_seq ?_
  refine r_seq ?_
  refine r_region ?_
  refine o_q _ rfl rfl rfl (v_move rfl rfl) ?_
  refine o_q _ rfl rfl rfl (v_neq rfl rfl rfl) ?_
  refine o_nil ?_
  with_reducible refine r_then ?_
  refine r_condd rfl (fun hc19 => ?_) (fun hc19 => ?_)
  ·
    refine r_seq ?_
    refine r_region ?_
    refine o_q _ rfl rfl rfl (v_move rfl rfl) ?_
    refine o_q _ rfl rfl rfl (v_assign rfl rfl) ?_
    refine o_q _ rfl rfl rfl (v_assign rfl rfl) ?_
    refine o_nil ?_
    with_reducible refine r_then ?_
    refine r_ret ?_
    with_reducible refine r_then_ret ?_
    exact r_retv2 (Rd.two rfl (RdI.tmp rfl) (RdI.tmp rfl)) (by rw [needR, ansD_n (chkD_1 hng) (by decide)]; try rfl) SelMC.sel SubRC.sub
  ·
    (exfalso; revert hc19; decide)
set_option maxHeartbeats 4000000 in
theorem need23_c (who d : Int) (hl1 : D.dues.length ≤ 40) (hl2 : D.paid.length ≤ 40) (hg : GoodD D) (h1 : isW D who = false) : FnV Tryd.prog 23 [valD D uo po uc pc, i64 who, i64 d] [rowD uo 5 encD D.dues, rowD po 4 encP D.paid] (.tuple #[i64 (needR D who d).1, i64 (needR D who d).2]) := by
  refine FnV.intro Tryd.call23 Tryd.func23 rfl Tryd.ntmps23 rfl ?_
  intro W M Rf
  refine r_seq ?_
  refine r_region ?_
  refine o_boxA rfl rfl rfl rfl rfl (fun b3 => ?_)
  refine o_q _ rfl rfl rfl (v_assign rfl rfl) ?_
  refine o_q _ rfl rfl rfl (v_assign rfl rfl) ?_
  refine o_nil ?_
  with_reducible refine r_then ?_
  refine r_seq ?_
  refine r_region_q mixed (by kernel_rfl) ?_
  refine q_q _ rfl rfl rfl (v_ldW rfl Tryd.underlying25 rfl inf25 rfl rfl) ?_
  refine q_q _ rfl rfl rfl (v_ldW rfl Tryd.underlying25 rfl inf25 rfl rfl) ?_
  refine q_q _ rfl rfl rfl (v_move rfl rfl) ?_
  refine q_q _ rfl rfl rfl (v_cast (v := .bool false) (OpQ.fn (rWho_v D uo po uc pc who) rfl rfl SubRC.sub) (congrArg Value.bool h1)) ?_
  refine q_q _ rfl rfl rfl (v_move rfl rfl) ?_
  refine q_gn rfl rfl rfl rfl ?_
  refine q_gn rfl rfl rfl rfl ?_
  refine q_q _ rfl rfl rfl (v_pick_f rfl rfl rfl) ?_
  refine q_q _ rfl rfl rfl (v_cast (v := i64 2) (OpQ.fn (check48_v D uo po uc pc false hl1 hl2) rfl rfl SubRC.sub) (i64c (chkD_2 hg rfl))) ?_
  refine q_q _ rfl rfl rfl (v_assign rfl rfl) ?_
  refine q_nil ?_
  with_reducible refine r_then ?_
  refine r_seq ?_
  refine r_seq ?_
  refine r_region ?_
  refine o_q _ rfl rfl rfl (v_move rfl rfl) ?_
  refine o_q _ rfl rfl rfl (v_neq rfl rfl rfl) ?_
  refine o_nil ?_
  with_reducible refine r_then ?_
  refine r_condd rfl (fun hc19 => ?_) (fun hc19 => ?_)
  ·
    refine r_seq ?_
    refine r_region ?_
    refine o_q _ rfl rfl rfl (v_move rfl rfl) ?_
    refine o_q _ rfl rfl rfl (v_assign rfl rfl) ?_
    refine o_q _ rfl rfl rfl (v_assign rfl rfl) ?_
    refine o_nil ?_
    with_reducible refine r_then ?_
    refine r_ret ?_
    with_reducible refine r_then_ret ?_
    exact r_retv2 (Rd.two rfl (RdI.tmp rfl) (RdI.tmp rfl)) (by rw [needR, ansD_n (chkD_2 hg (okF1 h1)) (by decide)]; try rfl) SelMC.sel SubRC.sub
  ·
    (exfalso; revert hc19; decide)
set_option maxHeartbeats 4000000 in
theorem need23_d (who d : Int) (hl1 : D.dues.length ≤ 40) (hl2 : D.paid.length ≤ 40) (hg : GoodD D) (h1 : isW D who = true) (h2 : isDy d = false) : FnV Tryd.prog 23 [valD D uo po uc pc, i64 who, i64 d] [rowD uo 5 encD D.dues, rowD po 4 encP D.paid] (.tuple #[i64 (needR D who d).1, i64 (needR D who d).2]) := by
  refine FnV.intro Tryd.call23 Tryd.func23 rfl Tryd.ntmps23 rfl ?_
  intro W M Rf
  refine r_seq ?_
  refine r_region ?_
  refine o_boxA rfl rfl rfl rfl rfl (fun b3 => ?_)
  refine o_q _ rfl rfl rfl (v_assign rfl rfl) ?_
  refine o_q _ rfl rfl rfl (v_assign rfl rfl) ?_
  refine o_nil ?_
  with_reducible refine r_then ?_
  refine r_seq ?_
  refine r_region_q mixed (by kernel_rfl) ?_
  refine q_q _ rfl rfl rfl (v_ldW rfl Tryd.underlying25 rfl inf25 rfl rfl) ?_
  refine q_q _ rfl rfl rfl (v_ldW rfl Tryd.underlying25 rfl inf25 rfl rfl) ?_
  refine q_q _ rfl rfl rfl (v_move rfl rfl) ?_
  refine q_q _ rfl rfl rfl (v_cast (v := .bool true) (OpQ.fn (rWho_v D uo po uc pc who) rfl rfl SubRC.sub) (congrArg Value.bool h1)) ?_
  refine q_q _ rfl rfl rfl (v_move rfl rfl) ?_
  refine q_g _ rfl rfl rfl rfl (v_move rfl rfl) ?_
  refine q_g _ rfl rfl rfl rfl (v_cast (v := .bool false) (OpQ.fn (rDay_v _) rfl rfl SubRC.sub) (congrArg Value.bool h2)) ?_
  refine q_q _ rfl rfl rfl (v_pick_t rfl rfl rfl) ?_
  refine q_q _ rfl rfl rfl (v_cast (v := i64 2) (OpQ.fn (check48_v D uo po uc pc false hl1 hl2) rfl rfl SubRC.sub) (i64c (chkD_2 hg rfl))) ?_
  refine q_q _ rfl rfl rfl (v_assign rfl rfl) ?_
  refine q_nil ?_
  with_reducible refine r_then ?_
  refine r_seq ?_
  refine r_seq ?_
  refine r_region ?_
  refine o_q _ rfl rfl rfl (v_move rfl rfl) ?_
  refine o_q _ rfl rfl rfl (v_neq rfl rfl rfl) ?_
  refine o_nil ?_
  with_reducible refine r_then ?_
  refine r_condd rfl (fun hc19 => ?_) (fun hc19 => ?_)
  ·
    refine r_seq ?_
    refine r_region ?_
    refine o_q _ rfl rfl rfl (v_move rfl rfl) ?_
    refine o_q _ rfl rfl rfl (v_assign rfl rfl) ?_
    refine o_q _ rfl rfl rfl (v_assign rfl rfl) ?_
    refine o_nil ?_
    with_reducible refine r_then ?_
    refine r_ret ?_
    with_reducible refine r_then_ret ?_
    exact r_retv2 (Rd.two rfl (RdI.tmp rfl) (RdI.tmp rfl)) (by rw [needR, ansD_n (chkD_2 hg (okF2 h2)) (by decide)]; try rfl) SelMC.sel SubRC.sub
  ·
    (exfalso; revert hc19; decide)
set_option maxHeartbeats 4000000 in
theorem need23_o (who d : Int) (hl1 : D.dues.length ≤ 40) (hl2 : D.paid.length ≤ 40) (hg : GoodD D) (h1 : isW D who = true) (h2 : isDy d = true) : FnV Tryd.prog 23 [valD D uo po uc pc, i64 who, i64 d] [rowD uo 5 encD D.dues, rowD po 4 encP D.paid] (.tuple #[i64 (needR D who d).1, i64 (needR D who d).2]) := by
  obtain ⟨dn, rfl⟩ : ∃ n : Nat, d = n := ⟨d.toNat, by have := of_decide_eq_true h2; omega⟩
  have hd := of_decide_eq_true h2
  have hdn : dn ≤ 30 := by omega
  have hp2 := hg.nd
  refine FnV.intro Tryd.call23 Tryd.func23 rfl Tryd.ntmps23 rfl ?_
  intro W M Rf
  refine r_seq ?_
  refine r_region ?_
  refine o_boxA rfl rfl rfl rfl rfl (fun b3 => ?_)
  refine o_q _ rfl rfl rfl (v_assign rfl rfl) ?_
  refine o_q _ rfl rfl rfl (v_assign rfl rfl) ?_
  refine o_nil ?_
  with_reducible refine r_then ?_
  refine r_seq ?_
  refine r_region_q mixed (by kernel_rfl) ?_
  refine q_q _ rfl rfl rfl (v_ldW rfl Tryd.underlying25 rfl inf25 rfl rfl) ?_
  refine q_q _ rfl rfl rfl (v_ldW rfl Tryd.underlying25 rfl inf25 rfl rfl) ?_
  refine q_q _ rfl rfl rfl (v_move rfl rfl) ?_
  refine q_q _ rfl rfl rfl (v_cast (v := .bool true) (OpQ.fn (rWho_v D uo po uc pc who) rfl rfl SubRC.sub) (congrArg Value.bool h1)) ?_
  refine q_q _ rfl rfl rfl (v_move rfl rfl) ?_
  refine q_g _ rfl rfl rfl rfl (v_move rfl rfl) ?_
  refine q_g _ rfl rfl rfl rfl (v_cast (v := .bool true) (OpQ.fn (rDay_v _) rfl rfl SubRC.sub) (congrArg Value.bool h2)) ?_
  refine q_q _ rfl rfl rfl (v_pick_t rfl rfl rfl) ?_
  refine q_q _ rfl rfl rfl (v_cast (v := i64 0) (OpQ.fn (check48_v D uo po uc pc true hl1 hl2) rfl rfl SubRC.sub) (i64c (chkD_0 hg rfl))) ?_
  refine q_q _ rfl rfl rfl (v_assign rfl rfl) ?_
  refine q_nil ?_
  with_reducible refine r_then ?_
  refine r_seq ?_
  refine r_seq ?_
  refine r_region ?_
  refine o_q _ rfl rfl rfl (v_move rfl rfl) ?_
  refine o_q _ rfl rfl rfl (v_neq rfl rfl rfl) ?_
  refine o_nil ?_
  with_reducible refine r_then ?_
  refine r_condd rfl (fun hc19 => ?_) (fun hc19 => ?_)
  ·
    (exfalso; revert hc19; decide)
  ·
    refine r_skip ?_
    with_reducible refine r_then ?_
    refine r_seq ?_
    refine r_region ?_
    refine o_q _ rfl rfl rfl (v_ldW rfl Tryd.underlying25 rfl inf25 rfl rfl) ?_
    refine o_q _ rfl rfl rfl (v_move rfl rfl) ?_
    refine o_q _ rfl rfl rfl (v_move rfl rfl) ?_
    refine o_q _ rfl rfl rfl (OpQ.fn (need57_v D uo po uc pc hg who dn hdn) rfl rfl SubRC.sub) ?_
    refine o_q _ rfl rfl rfl (v_assign rfl rfl) ?_
    refine o_q _ rfl rfl rfl (v_assign rfl rfl) ?_
    refine o_nil ?_
    with_reducible refine r_then ?_
    refine r_ret ?_
    exact r_retv2 (Rd.two rfl (RdI.tmp rfl) (RdI.tmp rfl)) (by rw [needR, ansD_0 (chkD_0 hg (okT h1 h2)), Int.toNat_natCast]; try rfl) SelMC.sel SubRC.sub
theorem need23_v (who d : Int) (hl1 : D.dues.length ≤ 40) (hl2 : D.paid.length ≤ 40) : FnV Tryd.prog 23 [valD D uo po uc pc, i64 who, i64 d] [rowD uo 5 encD D.dues, rowD po 4 encP D.paid] (.tuple #[i64 (needR D who d).1, i64 (needR D who d).2]) := by
  by_cases hg : GoodD D
  · cases h1 : isW D who
    · exact need23_c D uo po uc pc who d hl1 hl2 hg h1
    · cases h2 : isDy d
      · exact need23_d D uo po uc pc who d hl1 hl2 hg h1 h2
      · exact need23_o D uo po uc pc who d hl1 hl2 hg h1 h2
  · cases h1 : isW D who
    · exact need23_a D uo po uc pc who d hl1 hl2 hg h1
    · exact need23_b D uo po uc pc who d hl1 hl2 hg h1
def leftRT (D : Debt) (who : Int) (d : Nat) : Debt10.Span := ⟨total (endA D 0 who d).1, total (endA D 1 who d).1⟩
def setlR (D : Debt) (who d : Int) : Int × Int := ansD D (okWD D who d) 0 (gradeS (leftRT D who d.toNat))
set_option maxHeartbeats 4000000 in
theorem setl19_a (who d : Int) (hl1 : D.dues.length ≤ 40) (hl2 : D.paid.length ≤ 40) (hng : ¬ GoodD D) (h1 : isW D who = false) : FnV Tryd.prog 19 [valD D uo po uc pc, i64 who, i64 d] [rowD uo 5 encD D.dues, rowD po 4 encP D.paid] (.tuple #[i64 (setlR D who d).1, i64 (setlR D who d).2]) := by
  refine FnV.intro Tryd.call19 Tryd.func19 rfl Tryd.ntmps19 rfl ?_
  intro W M Rf
  refine r_seq ?_
  refine r_region ?_
  refine o_boxA rfl rfl rfl rfl rfl (fun b3 => ?_)
  refine o_q _ rfl rfl rfl (v_assign rfl rfl) ?_
  refine o_q _ rfl rfl rfl (v_assign rfl rfl) ?_
  refine o_nil ?_
  with_reducible refine r_then ?_
  refine r_seq ?_
  refine r_region_q mixed (by kernel_rfl) ?_
  refine q_q _ rfl rfl rfl (v_ldW rfl Tryd.underlying25 rfl inf25 rfl rfl) ?_
  refine q_q _ rfl rfl rfl (v_ldW rfl Tryd.underlying25 rfl inf25 rfl rfl) ?_
  refine q_q _ rfl rfl rfl (v_move rfl rfl) ?_
  refine q_q _ rfl rfl rfl (v_cast (v := .bool false) (OpQ.fn (rWho_v D uo po uc pc who) rfl rfl SubRC.sub) (congrArg Value.bool h1)) ?_
  refine q_q _ rfl rfl rfl (v_move rfl rfl) ?_
  refine q_gn rfl rfl rfl rfl ?_
  refine q_gn rfl rfl rfl rfl ?_
  refine q_q _ rfl rfl rfl (v_pick_f rfl rfl rfl) ?_
  refine q_q _ rfl rfl rfl (v_cast (v := i64 1) (OpQ.fn (check48_v D uo po uc pc false hl1 hl2) rfl rfl SubRC.sub) (i64c (chkD_1 hng))) ?_
  refine q_q _ rfl rfl rfl (v_assign rfl rfl) ?_
  refine q_nil ?_
  with_reducible refine r_then ?_
  refine r_seq ?_
  refine r_seq ?_
  refine r_region ?_
  refine o_q _ rfl rfl rfl (v_move rfl rfl) ?_
  refine o_q _ rfl rfl rfl (v_neq rfl rfl rfl) ?_
  refine o_nil ?_
  with_reducible refine r_then ?_
  refine r_condd rfl (fun hc20 => ?_) (fun hc20 => ?_)
  ·
    refine r_seq ?_
    refine r_region ?_
    refine o_q _ rfl rfl rfl (v_move rfl rfl) ?_
    refine o_q _ rfl rfl rfl (v_assign rfl rfl) ?_
    refine o_q _ rfl rfl rfl (v_assign rfl rfl) ?_
    refine o_nil ?_
    with_reducible refine r_then ?_
    refine r_ret ?_
    with_reducible refine r_then_ret ?_
    exact r_retv2 (Rd.two rfl (RdI.tmp rfl) (RdI.tmp rfl)) (by rw [setlR, ansD_n (chkD_1 hng) (by decide)]; try rfl) SelMC.sel SubRC.sub
  ·
    (exfalso; revert hc20; decide)
set_option maxHeartbeats 4000000 in
theorem setl19_b (who d : Int) (hl1 : D.dues.length ≤ 40) (hl2 : D.paid.length ≤ 40) (hng : ¬ GoodD D) (h1 : isW D who = true) : FnV Tryd.prog 19 [valD D uo po uc pc, i64 who, i64 d] [rowD uo 5 encD D.dues, rowD po 4 encP D.paid] (.tuple #[i64 (setlR D who d).1, i64 (setlR D who d).2]) := by
  refine FnV.intro Tryd.call19 Tryd.func19 rfl Tryd.ntmps19 rfl ?_
  intro W M Rf
  refine r_seq ?_
  refine r_region ?_
  refine o_boxA rfl rfl rfl rfl rfl (fun b3 => ?_)
  refine o_q _ rfl rfl rfl (v_assign rfl rfl) ?_
  refine o_q _ rfl rfl rfl (v_assign rfl rfl) ?_
  refine o_nil ?_
  with_reducible refine r_then ?_
  refine r_seq ?_
  refine r_region_q mixed (by kernel_rfl) ?_
  refine q_q _ rfl rfl rfl (v_ldW rfl Tryd.underlying25 rfl inf25 rfl rfl) ?_
  refine q_q _ rfl rfl rfl (v_ldW rfl Tryd.underlying25 rfl inf25 rfl rfl) ?_
  refine q_q _ rfl rfl rfl (v_move rfl rfl) ?_
  refine q_q _ rfl rfl rfl (v_cast (v := .bool true) (OpQ.fn (rWho_v D uo po uc pc who) rfl rfl SubRC.sub) (congrArg Value.bool h1)) ?_
  refine q_q _ rfl rfl rfl (v_move rfl rfl) ?_
  refine q_g _ rfl rfl rfl rfl (v_move rfl rfl) ?_
  refine q_g _ rfl rfl rfl rfl (OpQ.fn (rDay_v d) rfl rfl SubRC.sub) ?_
  refine q_q _ rfl rfl rfl (v_pick_t rfl rfl rfl) ?_
  refine q_q _ rfl rfl rfl (v_cast (v := i64 1) (OpQ.fn (check48_v D uo po uc pc (isDy d) hl1 hl2) rfl rfl SubRC.sub) (i64c (chkD_1 hng))) ?_
  refine q_q _ rfl rfl rfl (v_assign rfl rfl) ?_
  refine q_nil ?_
  with_reducible refine r_then ?_
  refine r_seq ?_
  refine r_seq ?_
  refine r_region ?_
  refine o_q _ rfl rfl rfl (v_move rfl rfl) ?_
  refine o_q _ rfl rfl rfl (v_neq rfl rfl rfl) ?_
  refine o_nil ?_
  with_reducible refine r_then ?_
  refine r_condd rfl (fun hc20 => ?_) (fun hc20 => ?_)
  ·
    refine r_seq ?_
    refine r_region ?_
    refine o_q _ rfl rfl rfl (v_move rfl rfl) ?_
    refine o_q _ rfl rfl rfl (v_assign rfl rfl) ?_
    refine o_q _ rfl rfl rfl (v_assign rfl rfl) ?_
    refine o_nil ?_
    with_reducible refine r_then ?_
    refine r_ret ?_
    with_reducible refine r_then_ret ?_
    exact r_retv2 (Rd.two rfl (RdI.tmp rfl) (RdI.tmp rfl)) (by rw [setlR, ansD_n (chkD_1 hng) (by decide)]; try rfl) SelMC.sel SubRC.sub
  ·
    (exfalso; revert hc20; decide)
set_option maxHeartbeats 4000000 in
theorem setl19_c (who d : Int) (hl1 : D.dues.length ≤ 40) (hl2 : D.paid.length ≤ 40) (hg : GoodD D) (h1 : isW D who = false) : FnV Tryd.prog 19 [valD D uo po uc pc, i64 who, i64 d] [rowD uo 5 encD D.dues, rowD po 4 encP D.paid] (.tuple #[i64 (setlR D who d).1, i64 (setlR D who d).2]) := by
  refine FnV.intro Tryd.call19 Tryd.func19 rfl Tryd.ntmps19 rfl ?_
  intro W M Rf
  refine r_seq ?_
  refine r_region ?_
  refine o_boxA rfl rfl rfl rfl rfl (fun b3 => ?_)
  refine o_q _ rfl rfl rfl (v_assign rfl rfl) ?_
  refine o_q _ rfl rfl rfl (v_assign rfl rfl) ?_
  refine o_nil ?_
  with_reducible refine r_then ?_
  refine r_seq ?_
  refine r_region_q mixed (by kernel_rfl) ?_
  refine q_q _ rfl rfl rfl (v_ldW rfl Tryd.underlying25 rfl inf25 rfl rfl) ?_
  refine q_q _ rfl rfl rfl (v_ldW rfl Tryd.underlying25 rfl inf25 rfl rfl) ?_
  refine q_q _ rfl rfl rfl (v_move rfl rfl) ?_
  refine q_q _ rfl rfl rfl (v_cast (v := .bool false) (OpQ.fn (rWho_v D uo po uc pc who) rfl rfl SubRC.sub) (congrArg Value.bool h1)) ?_
  refine q_q _ rfl rfl rfl (v_move rfl rfl) ?_
  refine q_gn rfl rfl rfl rfl ?_
  refine q_gn rfl rfl rfl rfl ?_
  refine q_q _ rfl rfl rfl (v_pick_f rfl rfl rfl) ?_
  refine q_q _ rfl rfl rfl (v_cast (v := i64 2) (OpQ.fn (check48_v D uo po uc pc false hl1 hl2) rfl rfl SubRC.sub) (i64c (chkD_2 hg rfl))) ?_
  refine q_q _ rfl rfl rfl (v_assign rfl rfl) ?_
  refine q_nil ?_
  with_reducible refine r_then ?_
  refine r_seq ?_
  refine r_seq ?_
  refine r_region ?_
  refine o_q _ rfl rfl rfl (v_move rfl rfl) ?_
  refine o_q _ rfl rfl rfl (v_neq rfl rfl rfl) ?_
  refine o_nil ?_
  with_reducible refine r_then ?_
  refine r_condd rfl (fun hc20 => ?_) (fun hc20 => ?_)
  ·
    refine r_seq ?_
    refine r_region ?_
    refine o_q _ rfl rfl rfl (v_move rfl rfl) ?_
    refine o_q _ rfl rfl rfl (v_assign rfl rfl) ?_
    refine o_q _ rfl rfl rfl (v_assign rfl rfl) ?_
    refine o_nil ?_
    with_reducible refine r_then ?_
    refine r_ret ?_
    with_reducible refine r_then_ret ?_
    exact r_retv2 (Rd.two rfl (RdI.tmp rfl) (RdI.tmp rfl)) (by rw [setlR, ansD_n (chkD_2 hg (okF1 h1)) (by decide)]; try rfl) SelMC.sel SubRC.sub
  ·
    (exfalso; revert hc20; decide)
set_option maxHeartbeats 4000000 in
theorem setl19_d (who d : Int) (hl1 : D.dues.length ≤ 40) (hl2 : D.paid.length ≤ 40) (hg : GoodD D) (h1 : isW D who = true) (h2 : isDy d = false) : FnV Tryd.prog 19 [valD D uo po uc pc, i64 who, i64 d] [rowD uo 5 encD D.dues, rowD po 4 encP D.paid] (.tuple #[i64 (setlR D who d).1, i64 (setlR D who d).2]) := by
  refine FnV.intro Tryd.call19 Tryd.func19 rfl Tryd.ntmps19 rfl ?_
  intro W M Rf
  refine r_seq ?_
  refine r_region ?_
  refine o_boxA rfl rfl rfl rfl rfl (fun b3 => ?_)
  refine o_q _ rfl rfl rfl (v_assign rfl rfl) ?_
  refine o_q _ rfl rfl rfl (v_assign rfl rfl) ?_
  refine o_nil ?_
  with_reducible refine r_then ?_
  refine r_seq ?_
  refine r_region_q mixed (by kernel_rfl) ?_
  refine q_q _ rfl rfl rfl (v_ldW rfl Tryd.underlying25 rfl inf25 rfl rfl) ?_
  refine q_q _ rfl rfl rfl (v_ldW rfl Tryd.underlying25 rfl inf25 rfl rfl) ?_
  refine q_q _ rfl rfl rfl (v_move rfl rfl) ?_
  refine q_q _ rfl rfl rfl (v_cast (v := .bool true) (OpQ.fn (rWho_v D uo po uc pc who) rfl rfl SubRC.sub) (congrArg Value.bool h1)) ?_
  refine q_q _ rfl rfl rfl (v_move rfl rfl) ?_
  refine q_g _ rfl rfl rfl rfl (v_move rfl rfl) ?_
  refine q_g _ rfl rfl rfl rfl (v_cast (v := .bool false) (OpQ.fn (rDay_v _) rfl rfl SubRC.sub) (congrArg Value.bool h2)) ?_
  refine q_q _ rfl rfl rfl (v_pick_t rfl rfl rfl) ?_
  refine q_q _ rfl rfl rfl (v_cast (v := i64 2) (OpQ.fn (check48_v D uo po uc pc false hl1 hl2) rfl rfl SubRC.sub) (i64c (chkD_2 hg rfl))) ?_
  refine q_q _ rfl rfl rfl (v_assign rfl rfl) ?_
  refine q_nil ?_
  with_reducible refine r_then ?_
  refine r_seq ?_
  refine r_seq ?_
  refine r_region ?_
  refine o_q _ rfl rfl rfl (v_move rfl rfl) ?_
  refine o_q _ rfl rfl rfl (v_neq rfl rfl rfl) ?_
  refine o_nil ?_
  with_reducible refine r_then ?_
  refine r_condd rfl (fun hc20 => ?_) (fun hc20 => ?_)
  ·
    refine r_seq ?_
    refine r_region ?_
    refine o_q _ rfl rfl rfl (v_move rfl rfl) ?_
    refine o_q _ rfl rfl rfl (v_assign rfl rfl) ?_
    refine o_q _ rfl rfl rfl (v_assign rfl rfl) ?_
    refine o_nil ?_
    with_reducible refine r_then ?_
    refine r_ret ?_
    with_reducible refine r_then_ret ?_
    exact r_retv2 (Rd.two rfl (RdI.tmp rfl) (RdI.tmp rfl)) (by rw [setlR, ansD_n (chkD_2 hg (okF2 h2)) (by decide)]; try rfl) SelMC.sel SubRC.sub
  ·
    (exfalso; revert hc20; decide)
set_option maxHeartbeats 4000000 in
theorem setl19_o (who d : Int) (hl1 : D.dues.length ≤ 40) (hl2 : D.paid.length ≤ 40) (hg : GoodD D) (h1 : isW D who = true) (h2 : isDy d = true) : FnV Tryd.prog 19 [valD D uo po uc pc, i64 who, i64 d] [rowD uo 5 encD D.dues, rowD po 4 encP D.paid] (.tuple #[i64 (setlR D who d).1, i64 (setlR D who d).2]) := by
  obtain ⟨dn, rfl⟩ : ∃ n : Nat, d = n := ⟨d.toNat, by have := of_decide_eq_true h2; omega⟩
  have hd := of_decide_eq_true h2
  have hdn : dn ≤ 30 := by omega
  have hp2 := hg.nd
  refine FnV.intro Tryd.call19 Tryd.func19 rfl Tryd.ntmps19 rfl ?_
  intro W M Rf
  refine r_seq ?_
  refine r_region ?_
  refine o_boxA rfl rfl rfl rfl rfl (fun b3 => ?_)
  refine o_q _ rfl rfl rfl (v_assign rfl rfl) ?_
  refine o_q _ rfl rfl rfl (v_assign rfl rfl) ?_
  refine o_nil ?_
  with_reducible refine r_then ?_
  refine r_seq ?_
  refine r_region_q mixed (by kernel_rfl) ?_
  refine q_q _ rfl rfl rfl (v_ldW rfl Tryd.underlying25 rfl inf25 rfl rfl) ?_
  refine q_q _ rfl rfl rfl (v_ldW rfl Tryd.underlying25 rfl inf25 rfl rfl) ?_
  refine q_q _ rfl rfl rfl (v_move rfl rfl) ?_
  refine q_q _ rfl rfl rfl (v_cast (v := .bool true) (OpQ.fn (rWho_v D uo po uc pc who) rfl rfl SubRC.sub) (congrArg Value.bool h1)) ?_
  refine q_q _ rfl rfl rfl (v_move rfl rfl) ?_
  refine q_g _ rfl rfl rfl rfl (v_move rfl rfl) ?_
  refine q_g _ rfl rfl rfl rfl (v_cast (v := .bool true) (OpQ.fn (rDay_v _) rfl rfl SubRC.sub) (congrArg Value.bool h2)) ?_
  refine q_q _ rfl rfl rfl (v_pick_t rfl rfl rfl) ?_
  refine q_q _ rfl rfl rfl (v_cast (v := i64 0) (OpQ.fn (check48_v D uo po uc pc true hl1 hl2) rfl rfl SubRC.sub) (i64c (chkD_0 hg rfl))) ?_
  refine q_q _ rfl rfl rfl (v_assign rfl rfl) ?_
  refine q_nil ?_
  with_reducible refine r_then ?_
  refine r_seq ?_
  refine r_seq ?_
  refine r_region ?_
  refine o_q _ rfl rfl rfl (v_move rfl rfl) ?_
  refine o_q _ rfl rfl rfl (v_neq rfl rfl rfl) ?_
  refine o_nil ?_
  with_reducible refine r_then ?_
  refine r_condd rfl (fun hc20 => ?_) (fun hc20 => ?_)
  ·
    (exfalso; revert hc20; decide)
  ·
    refine r_skip ?_
    with_reducible refine r_then ?_
    refine r_seq ?_
    refine r_region ?_
    refine o_q _ rfl rfl rfl (v_ldW rfl Tryd.underlying25 rfl inf25 rfl rfl) ?_
    refine o_q _ rfl rfl rfl (v_move rfl rfl) ?_
    refine o_q _ rfl rfl rfl (v_move rfl rfl) ?_
    refine o_q _ rfl rfl rfl (OpQ.fn (left51_v D uo po uc pc hg who dn hdn) rfl rfl SubRC.sub) ?_
    refine o_alloc rfl inf29 rfl rfl rfl rfl rfl (fun b9 => ?_)
    refine o_st rfl inf29 rfl rfl rfl rfl rfl rfl rfl rfl ?_
    refine o_nil ?_
    with_reducible refine r_then ?_
    refine r_seq ?_
    refine r_seq ?_
    have hlo : 0 ≤ (leftRT D who dn).lo := by have h0 := (sum_bdT hg (tru_end hg 0) who (dn + 1) (by omega) D.dues.length).1; rw [sum_allT hg (tru_end hg 0)] at h0; exact h0
    refine Imp.box_to b9 [i64 (leftRT D who dn).lo, i64 (leftRT D who dn).hi] rfl ?_
    refine r_region ?_
    refine o_q _ rfl rfl rfl (v_fieldAddr rfl Tryd.underlying29 inf3 rfl rfl rfl rfl) ?_
    refine o_q _ rfl rfl rfl (v_ld1 rfl Tryd.underlying3 rfl rfl rfl) ?_
    refine o_q _ rfl rfl rfl (v_eql rfl rfl rfl) ?_
    refine o_nil ?_
    with_reducible refine r_then ?_
    refine r_condd rfl (fun hc28 => ?_) (fun hc28 => ?_)
    ·
      refine r_seq ?_
      refine r_region ?_
      refine o_q _ rfl rfl rfl (v_assign rfl rfl) ?_
      refine o_q _ rfl rfl rfl (v_assign rfl rfl) ?_
      refine o_nil ?_
      with_reducible refine r_then ?_
      refine r_ret ?_
      with_reducible refine r_then_ret ?_
      exact r_retv2 (Rd.two rfl (RdI.tmp rfl) (RdI.tmp rfl)) (by rw [setlR, ansD_0 (chkD_0 hg (okT h1 h2)), Int.toNat_natCast, grade_2 (by omega)]; try rfl) SelMC.sel SubRC.sub
    ·
      refine r_skip ?_
      with_reducible refine r_then ?_
      refine r_seq ?_
      refine r_seq ?_
      refine r_region ?_
      refine o_q _ rfl rfl rfl (v_fieldAddr rfl Tryd.underlying29 inf3 rfl rfl rfl rfl) ?_
      refine o_q _ rfl rfl rfl (v_ld1 rfl Tryd.underlying3 rfl rfl rfl) ?_
      refine o_q _ rfl rfl rfl (v_gtr rfl rfl rfl) ?_
      refine o_nil ?_
      with_reducible refine r_then ?_
      refine r_condd rfl (fun hc31 => ?_) (fun hc31 => ?_)
      ·
        refine r_seq ?_
        refine r_region ?_
        refine o_q _ rfl rfl rfl (v_assign rfl rfl) ?_
        refine o_q _ rfl rfl rfl (v_assign rfl rfl) ?_
        refine o_nil ?_
        with_reducible refine r_then ?_
        refine r_ret ?_
        with_reducible refine r_then_ret ?_
        exact r_retv2 (Rd.two rfl (RdI.tmp rfl) (RdI.tmp rfl)) (by rw [setlR, ansD_0 (chkD_0 hg (okT h1 h2)), Int.toNat_natCast, grade_0 (by omega) (by omega)]; try rfl) SelMC.sel SubRC.sub
      ·
        refine r_skip ?_
        with_reducible refine r_then ?_
        refine r_seq ?_
        refine r_region ?_
        refine o_q _ rfl rfl rfl (v_assign rfl rfl) ?_
        refine o_q _ rfl rfl rfl (v_assign rfl rfl) ?_
        refine o_nil ?_
        with_reducible refine r_then ?_
        refine r_ret ?_
        exact r_retv2 (Rd.two rfl (RdI.tmp rfl) (RdI.tmp rfl)) (by rw [setlR, ansD_0 (chkD_0 hg (okT h1 h2)), Int.toNat_natCast, grade_1 (by omega) (by omega)]; try rfl) SelMC.sel SubRC.sub
theorem setl19_v (who d : Int) (hl1 : D.dues.length ≤ 40) (hl2 : D.paid.length ≤ 40) : FnV Tryd.prog 19 [valD D uo po uc pc, i64 who, i64 d] [rowD uo 5 encD D.dues, rowD po 4 encP D.paid] (.tuple #[i64 (setlR D who d).1, i64 (setlR D who d).2]) := by
  by_cases hg : GoodD D
  · cases h1 : isW D who
    · exact setl19_c D uo po uc pc who d hl1 hl2 hg h1
    · cases h2 : isDy d
      · exact setl19_d D uo po uc pc who d hl1 hl2 hg h1 h2
      · exact setl19_o D uo po uc pc who d hl1 hl2 hg h1 h2
  · cases h1 : isW D who
    · exact setl19_a D uo po uc pc who d hl1 hl2 hg h1
    · exact setl19_b D uo po uc pc who d hl1 hl2 hg h1
end Go.Proofs.YtpfgiednfjfdmaaDoor


namespace Go.G
variable {P : Program} {W : World} {n : Nat} {D : List Deferred} {L : Tm} {M : List Res} {R : List Fact} {Q : Exit → Act → World → Prop} {o : Oper}
theorem p_depN {ops : Array Oper} {K : List Spc → Prop} {rest : List Oper} {acc : List Spc} {d : Nat} {sj : Spc} (val : Value → Prop) (res : Value → List Res) (j : Nat) {oj : Oper} (hoj : ops[j]? = some oj) (hsj : acc[j]? = some sj) (hdj : sj.det = none) (hdep : depD ops o j = true) (hg : o.guard = none) (hdst : o.dst = some d) (hd : Nat.blt d n = true)
    (h : ∀ u, sj.pval u → LayR P ((oj.dst.getD 1000000, u) :: L) (sj.fct u ++ R) o val res) (hr : ParO P W n M R ops K rest (acc ++ [Spc.g val res (fun _ => [])]) L) : ParO P W n M R ops K (o :: rest) acc L := by
  refine ⟨Spc.g val res (fun _ => []), by simp [hdst, hd], .inl ⟨rfl, .inr (.inr (.inl ⟨hg, j, oj, sj, hoj, hsj, hdj, hdep, fun u hu => ?_⟩))⟩, by simpa [addL, Spc.g] using hr⟩
  obtain ⟨k, args, R0, xs, ts, ho, hx, hf, hs⟩ := h u hu
  intro Mx Rx a w h1 h2
  have h2 : St W (Mx ++ M) (Rx ++ (sj.fct u ++ R)) w := h2
  rw [exec_call [] [] ho rfl (h1.evs hx) hf.enter]
  simp only [List.nil_append, List.append_nil]
  have h3 : St W ([] ++ (Mx ++ M)) (R0 ++ (Rx ++ (sj.fct u ++ R))) w := h2.both (fun φ hφ => List.mem_append_right _ (hs φ hφ))
  refine ⟨rfl, (hf.calls W (Mx ++ M) (Rx ++ (sj.fct u ++ R)) w h3).mono ?_⟩
  rintro e w' ⟨M1, R1, ⟨v, rfl, hv, rfl, rfl⟩, hw'⟩
  refine .inl ⟨v, rfl, hv, ?_⟩
  exact hw'.weak (fun φ hφ => List.mem_append_right _ (List.mem_append_right _ hφ))
end Go.G


namespace Go.Proofs.YtpfgiednfjfdmaaDoor
open Go.G Debt10
set_option maxRecDepth 1000000
attribute [local irreducible] G.ParO G.Fin
variable (D : Debt) (uo po : Option Addr) (uc pc : Nat)
theorem pow_s (k : Nat) : (2 : Int) * ((2 ^ k : Nat) : Int) = ((2 ^ (k + 1) : Nat) : Int) := by rw [Nat.pow_succ]; omega
theorem openK_add {f : Nat → Int} {k : Nat} (h : 0 < f k) : ((openK f k : Nat) : Int) + ((2 ^ k : Nat) : Int) = ((openK f (k + 1) : Nat) : Int) := by
  rw [openK_y h]
  have h1 := Nat.two_pow_add_eq_or_of_lt (openK_lt f k) 1
  rw [Nat.mul_one] at h1
  rw [Nat.or_comm, ← h1]; omega
theorem openK_bd (f : Nat → Int) {k : Nat} (hk : k ≤ 6) : openK f k < 64 := Nat.lt_of_lt_of_le (openK_lt f k) (Nat.pow_le_pow_right (by decide) hk)
set_option maxHeartbeats 4000000 in
theorem pow_v (n : Nat) (hn : n ≤ 20) : FnV Tryd.prog 55 [i64 (n : Int)] [] (i64 ((2 ^ n : Nat) : Int)) := by
  refine FnV.intro Tryd.call55 Tryd.func55 rfl Tryd.ntmps55 rfl ?_
  intro W M Rf
  refine r_seq ?_
  refine r_region ?_
  refine o_q _ rfl rfl rfl (v_assign rfl rfl) ?_
  refine o_nil ?_
  with_reducible refine r_then ?_
  refine r_seq ?_
  refine r_region ?_
  refine o_q _ rfl rfl rfl (v_assign rfl rfl) ?_
  refine o_nil ?_
  with_reducible refine r_then ?_
  refine r_seq ?_
  refine r_seq ?_
  refine r_region ?_
  refine o_q _ rfl rfl rfl (v_assign rfl rfl) ?_
  refine o_nil ?_
  with_reducible refine r_then ?_
  refine r_block ?_
  refine r_loop (ι := Nat) (fun k => k ≤ n) (fun k => [(0, i64 (n : Int)), (3, i64 ((2 ^ k : Nat) : Int)), (4, i64 (k : Int))]) (fun k => M) (fun k => [] ++ Rf) (fun k => n - k) 0 ?_ ?_ ?_
  ·
    exact r_here (by repeat (first | exact FSub.nil | refine FSub.cons rfl ?_)) SelMC.sel SubRC.sub
  ·
    omega
  ·
    rintro k hI0
    refine r_seq ?_
    refine r_seq ?_
    refine r_region ?_
    refine o_q _ rfl rfl rfl (v_move rfl rfl) ?_
    refine o_q _ rfl rfl rfl (v_move rfl rfl) ?_
    refine o_q _ rfl rfl rfl (v_lss rfl rfl rfl) ?_
    refine o_nil ?_
    with_reducible refine r_then ?_
    refine r_condd rfl (fun hc7 => ?_) (fun hc7 => ?_)
    ·
      refine r_skip ?_
      with_reducible refine r_then ?_
      refine r_seq ?_
      refine r_block ?_
      have hpw : 2 ^ k ≤ 2 ^ 20 := Nat.pow_le_pow_right (by decide) (by omega)
      have hpz : (0 : Int) ≤ ((2 ^ k : Nat) : Int) := Int.natCast_nonneg _
      refine r_region ?_
      refine o_q _ rfl rfl rfl (v_move rfl rfl) ?_
      refine o_q _ rfl rfl rfl (v_mul rfl rfl rfl (by omega)) ?_
      refine o_q _ rfl rfl rfl (v_assign rfl rfl) ?_
      refine o_nil ?_
      with_reducible refine r_in_normal ?_; refine r_then ?_
      refine r_region ?_
      refine o_q _ rfl rfl rfl (v_move rfl rfl) ?_
      refine o_q _ rfl rfl rfl (v_add rfl rfl rfl (by omega)) ?_
      refine o_q _ rfl rfl rfl (v_assign rfl rfl) ?_
      refine o_nil ?_
      with_reducible refine r_then ?_
      refine r_next (k + 1) ?_ ?_ ?_
      ·
        exact r_here (by (repeat (first | exact FSub.nil | refine FSub.cons rfl ?_ | refine FSub.cons2 rfl (i64c (pow_s k)) ?_)); first | done | fail) SelMC.sel SubRC.sub
      ·
        omega
      ·
        omega
    ·
      refine r_exit ?_
      with_reducible refine r_then_exit ?_; refine r_then_exit ?_; refine r_in_here ?_; refine r_then ?_
      refine r_seq ?_
      obtain rfl : k = n := by omega
      refine r_region ?_
      refine o_q _ rfl rfl rfl (v_move rfl rfl) ?_
      refine o_q _ rfl rfl rfl (v_assign rfl rfl) ?_
      refine o_nil ?_
      with_reducible refine r_then ?_
      refine r_ret ?_
      exact r_retv2 (Rd.tmp rfl rfl) rfl SelMC.sel SubRC.sub
def aheadR (D : Debt) (who d : Int) : Debt10.Span × Int := ansD D (okWD D who d) ⟨0, 0⟩ ⟨(endA D 1 who d.toNat).2, (endA D 0 who d.toNat).2⟩
set_option maxHeartbeats 4000000 in
theorem ahead17_a (who d : Int) (hl1 : D.dues.length ≤ 40) (hl2 : D.paid.length ≤ 40) (hng : ¬ GoodD D) (h1 : isW D who = false) : FnV Tryd.prog 17 [valD D uo po uc pc, i64 who, i64 d] [rowD uo 5 encD D.dues, rowD po 4 encP D.paid] (.tuple #[vS (aheadR D who d).1, i64 (aheadR D who d).2]) := by
  refine FnV.intro Tryd.call17 Tryd.func17 rfl Tryd.ntmps17 rfl ?_
  intro W M Rf
  refine r_seq ?_
  refine r_region ?_
  refine o_boxA rfl rfl rfl rfl rfl (fun b3 => ?_)
  refine o_alloc rfl inf29 rfl rfl rfl rfl rfl (fun b6 => ?_)
  refine o_q _ rfl rfl rfl (v_assign rfl rfl) ?_
  refine o_nil ?_
  with_reducible refine r_then ?_
  refine r_seq ?_
  refine r_region_q mixed (by kernel_rfl) ?_
  refine q_q _ rfl rfl rfl (v_ldW rfl Tryd.underlying25 rfl inf25 rfl rfl) ?_
  refine q_q _ rfl rfl rfl (v_ldW rfl Tryd.underlying25 rfl inf25 rfl rfl) ?_
  refine q_q _ rfl rfl rfl (v_move rfl rfl) ?_
  refine q_q _ rfl rfl rfl (v_cast (v := .bool false) (OpQ.fn (rWho_v D uo po uc pc who) rfl rfl SubRC.sub) (congrArg Value.bool h1)) ?_
  refine q_q _ rfl rfl rfl (v_move rfl rfl) ?_
  refine q_gn rfl rfl rfl rfl ?_
  refine q_gn rfl rfl rfl rfl ?_
  refine q_q _ rfl rfl rfl (v_pick_f rfl rfl rfl) ?_
  refine q_q _ rfl rfl rfl (v_cast (v := i64 1) (OpQ.fn (check48_v D uo po uc pc false hl1 hl2) rfl rfl SubRC.sub) (i64c (chkD_1 hng))) ?_
  refine q_q _ rfl rfl rfl (v_assign rfl rfl) ?_
  refine q_nil ?_
  with_reducible refine r_then ?_
  refine r_seq ?_
  refine r_seq ?_
  refine r_region ?_
  refine o_q _ rfl rfl rfl (v_move rfl rfl) ?_
  refine o_q _ rfl rfl rfl (v_neq rfl rfl rfl) ?_
  refine o_nil ?_
  with_reducible refine r_then ?_
  refine r_condd rfl (fun hc19 => ?_) (fun hc19 => ?_)
  ·
    refine r_seq ?_
    refine r_region ?_
    refine o_q _ rfl rfl rfl (v_bS0 rfl Tryd.underlying29 inf29 plt29 rfl rfl) ?_
    refine o_q _ rfl rfl rfl (v_move rfl rfl) ?_
    refine o_st rfl inf29 rfl rfl rfl rfl rfl rfl rfl rfl ?_
    refine o_q _ rfl rfl rfl (v_assign rfl rfl) ?_
    refine o_nil ?_
    with_reducible refine r_then ?_
    refine r_ret ?_
    with_reducible refine r_then_ret ?_
    exact r_retv2 (Rd.two rfl (RdI.cellW Tryd.underlying29 rfl inf29 rfl rfl) (RdI.tmp rfl)) (by rw [aheadR, ansD_n (chkD_1 hng) (by decide)]; try rfl) SelMC.sel SubRC.sub
  ·
    (exfalso; revert hc19; decide)
set_option maxHeartbeats 4000000 in
theorem ahead17_b (who d : Int) (hl1 : D.dues.length ≤ 40) (hl2 : D.paid.length ≤ 40) (hng : ¬ GoodD D) (h1 : isW D who = true) : FnV Tryd.prog 17 [valD D uo po uc pc, i64 who, i64 d] [rowD uo 5 encD D.dues, rowD po 4 encP D.paid] (.tuple #[vS (aheadR D who d).1, i64 (aheadR D who d).2]) := by
  refine FnV.intro Tryd.call17 Tryd.func17 rfl Tryd.ntmps17 rfl ?_
  intro W M Rf
  refine r_seq ?_
  refine r_region ?_
  refine o_boxA rfl rfl rfl rfl rfl (fun b3 => ?_)
  refine o_alloc rfl inf29 rfl rfl rfl rfl rfl (fun b6 => ?_)
  refine o_q _ rfl rfl rfl (v_assign rfl rfl) ?_
  refine o_nil ?_
  with_reducible refine r_then ?_
  refine r_seq ?_
  refine r_region_q mixed (by kernel_rfl) ?_
  refine q_q _ rfl rfl rfl (v_ldW rfl Tryd.underlying25 rfl inf25 rfl rfl) ?_
  refine q_q _ rfl rfl rfl (v_ldW rfl Tryd.underlying25 rfl inf25 rfl rfl) ?_
  refine q_q _ rfl rfl rfl (v_move rfl rfl) ?_
  refine q_q _ rfl rfl rfl (v_cast (v := .bool true) (OpQ.fn (rWho_v D uo po uc pc who) rfl rfl SubRC.sub) (congrArg Value.bool h1)) ?_
  refine q_q _ rfl rfl rfl (v_move rfl rfl) ?_
  refine q_g _ rfl rfl rfl rfl (v_move rfl rfl) ?_
  refine q_g _ rfl rfl rfl rfl (OpQ.fn (rDay_v d) rfl rfl SubRC.sub) ?_
  refine q_q _ rfl rfl rfl (v_pick_t rfl rfl rfl) ?_
  refine q_q _ rfl rfl rfl (v_cast (v := i64 1) (OpQ.fn (check48_v D uo po uc pc (isDy d) hl1 hl2) rfl rfl SubRC.sub) (i64c (chkD_1 hng))) ?_
  refine q_q _ rfl rfl rfl (v_assign rfl rfl) ?_
  refine q_nil ?_
  with_reducible refine r_then ?_
  refine r_seq ?_
  refine r_seq ?_
  refine r_region ?_
  refine o_q _ rfl rfl rfl (v_move rfl rfl) ?_
  refine o_q _ rfl rfl rfl (v_neq rfl rfl rfl) ?_
  refine o_nil ?_
  with_reducible refine r_then ?_
  refine r_condd rfl (fun hc19 => ?_) (fun hc19 => ?_)
  ·
    refine r_seq ?_
    refine r_region ?_
    refine o_q _ rfl rfl rfl (v_bS0 rfl Tryd.underlying29 inf29 plt29 rfl rfl) ?_
    refine o_q _ rfl rfl rfl (v_move rfl rfl) ?_
    refine o_st rfl inf29 rfl rfl rfl rfl rfl rfl rfl rfl ?_
    refine o_q _ rfl rfl rfl (v_assign rfl rfl) ?_
    refine o_nil ?_
    with_reducible refine r_then ?_
    refine r_ret ?_
    with_reducible refine r_then_ret ?_
    exact r_retv2 (Rd.two rfl (RdI.cellW Tryd.underlying29 rfl inf29 rfl rfl) (RdI.tmp rfl)) (by rw [aheadR, ansD_n (chkD_1 hng) (by decide)]; try rfl) SelMC.sel SubRC.sub
  ·
    (exfalso; revert hc19; decide)
set_option maxHeartbeats 4000000 in
theorem ahead17_c (who d : Int) (hl1 : D.dues.length ≤ 40) (hl2 : D.paid.length ≤ 40) (hg : GoodD D) (h1 : isW D who = false) : FnV Tryd.prog 17 [valD D uo po uc pc, i64 who, i64 d] [rowD uo 5 encD D.dues, rowD po 4 encP D.paid] (.tuple #[vS (aheadR D who d).1, i64 (aheadR D who d).2]) := by
  refine FnV.intro Tryd.call17 Tryd.func17 rfl Tryd.ntmps17 rfl ?_
  intro W M Rf
  refine r_seq ?_
  refine r_region ?_
  refine o_boxA rfl rfl rfl rfl rfl (fun b3 => ?_)
  refine o_alloc rfl inf29 rfl rfl rfl rfl rfl (fun b6 => ?_)
  refine o_q _ rfl rfl rfl (v_assign rfl rfl) ?_
  refine o_nil ?_
  with_reducible refine r_then ?_
  refine r_seq ?_
  refine r_region_q mixed (by kernel_rfl) ?_
  refine q_q _ rfl rfl rfl (v_ldW rfl Tryd.underlying25 rfl inf25 rfl rfl) ?_
  refine q_q _ rfl rfl rfl (v_ldW rfl Tryd.underlying25 rfl inf25 rfl rfl) ?_
  refine q_q _ rfl rfl rfl (v_move rfl rfl) ?_
  refine q_q _ rfl rfl rfl (v_cast (v := .bool false) (OpQ.fn (rWho_v D uo po uc pc who) rfl rfl SubRC.sub) (congrArg Value.bool h1)) ?_
  refine q_q _ rfl rfl rfl (v_move rfl rfl) ?_
  refine q_gn rfl rfl rfl rfl ?_
  refine q_gn rfl rfl rfl rfl ?_
  refine q_q _ rfl rfl rfl (v_pick_f rfl rfl rfl) ?_
  refine q_q _ rfl rfl rfl (v_cast (v := i64 2) (OpQ.fn (check48_v D uo po uc pc false hl1 hl2) rfl rfl SubRC.sub) (i64c (chkD_2 hg rfl))) ?_
  refine q_q _ rfl rfl rfl (v_assign rfl rfl) ?_
  refine q_nil ?_
  with_reducible refine r_then ?_
  refine r_seq ?_
  refine r_seq ?_
  refine r_region ?_
  refine o_q _ rfl rfl rfl (v_move rfl rfl) ?_
  refine o_q _ rfl rfl rfl (v_neq rfl rfl rfl) ?_
  refine o_nil ?_
  with_reducible refine r_then ?_
  refine r_condd rfl (fun hc19 => ?_) (fun hc19 => ?_)
  ·
    refine r_seq ?_
    refine r_region ?_
    refine o_q _ rfl rfl rfl (v_bS0 rfl Tryd.underlying29 inf29 plt29 rfl rfl) ?_
    refine o_q _ rfl rfl rfl (v_move rfl rfl) ?_
    refine o_st rfl inf29 rfl rfl rfl rfl rfl rfl rfl rfl ?_
    refine o_q _ rfl rfl rfl (v_assign rfl rfl) ?_
    refine o_nil ?_
    with_reducible refine r_then ?_
    refine r_ret ?_
    with_reducible refine r_then_ret ?_
    exact r_retv2 (Rd.two rfl (RdI.cellW Tryd.underlying29 rfl inf29 rfl rfl) (RdI.tmp rfl)) (by rw [aheadR, ansD_n (chkD_2 hg (okF1 h1)) (by decide)]; try rfl) SelMC.sel SubRC.sub
  ·
    (exfalso; revert hc19; decide)
set_option maxHeartbeats 4000000 in
theorem ahead17_d (who d : Int) (hl1 : D.dues.length ≤ 40) (hl2 : D.paid.length ≤ 40) (hg : GoodD D) (h1 : isW D who = true) (h2 : isDy d = false) : FnV Tryd.prog 17 [valD D uo po uc pc, i64 who, i64 d] [rowD uo 5 encD D.dues, rowD po 4 encP D.paid] (.tuple #[vS (aheadR D who d).1, i64 (aheadR D who d).2]) := by
  refine FnV.intro Tryd.call17 Tryd.func17 rfl Tryd.ntmps17 rfl ?_
  intro W M Rf
  refine r_seq ?_
  refine r_region ?_
  refine o_boxA rfl rfl rfl rfl rfl (fun b3 => ?_)
  refine o_alloc rfl inf29 rfl rfl rfl rfl rfl (fun b6 => ?_)
  refine o_q _ rfl rfl rfl (v_assign rfl rfl) ?_
  refine o_nil ?_
  with_reducible refine r_then ?_
  refine r_seq ?_
  refine r_region_q mixed (by kernel_rfl) ?_
  refine q_q _ rfl rfl rfl (v_ldW rfl Tryd.underlying25 rfl inf25 rfl rfl) ?_
  refine q_q _ rfl rfl rfl (v_ldW rfl Tryd.underlying25 rfl inf25 rfl rfl) ?_
  refine q_q _ rfl rfl rfl (v_move rfl rfl) ?_
  refine q_q _ rfl rfl rfl (v_cast (v := .bool true) (OpQ.fn (rWho_v D uo po uc pc who) rfl rfl SubRC.sub) (congrArg Value.bool h1)) ?_
  refine q_q _ rfl rfl rfl (v_move rfl rfl) ?_
  refine q_g _ rfl rfl rfl rfl (v_move rfl rfl) ?_
  refine q_g _ rfl rfl rfl rfl (v_cast (v := .bool false) (OpQ.fn (rDay_v _) rfl rfl SubRC.sub) (congrArg Value.bool h2)) ?_
  refine q_q _ rfl rfl rfl (v_pick_t rfl rfl rfl) ?_
  refine q_q _ rfl rfl rfl (v_cast (v := i64 2) (OpQ.fn (check48_v D uo po uc pc false hl1 hl2) rfl rfl SubRC.sub) (i64c (chkD_2 hg rfl))) ?_
  refine q_q _ rfl rfl rfl (v_assign rfl rfl) ?_
  refine q_nil ?_
  with_reducible refine r_then ?_
  refine r_seq ?_
  refine r_seq ?_
  refine r_region ?_
  refine o_q _ rfl rfl rfl (v_move rfl rfl) ?_
  refine o_q _ rfl rfl rfl (v_neq rfl rfl rfl) ?_
  refine o_nil ?_
  with_reducible refine r_then ?_
  refine r_condd rfl (fun hc19 => ?_) (fun hc19 => ?_)
  ·
    refine r_seq ?_
    refine r_region ?_
    refine o_q _ rfl rfl rfl (v_bS0 rfl Tryd.underlying29 inf29 plt29 rfl rfl) ?_
    refine o_q _ rfl rfl rfl (v_move rfl rfl) ?_
    refine o_st rfl inf29 rfl rfl rfl rfl rfl rfl rfl rfl ?_
    refine o_q _ rfl rfl rfl (v_assign rfl rfl) ?_
    refine o_nil ?_
    with_reducible refine r_then ?_
    refine r_ret ?_
    with_reducible refine r_then_ret ?_
    exact r_retv2 (Rd.two rfl (RdI.cellW Tryd.underlying29 rfl inf29 rfl rfl) (RdI.tmp rfl)) (by rw [aheadR, ansD_n (chkD_2 hg (okF2 h2)) (by decide)]; try rfl) SelMC.sel SubRC.sub
  ·
    (exfalso; revert hc19; decide)
set_option maxHeartbeats 4000000 in
theorem ahead17_o (who d : Int) (hl1 : D.dues.length ≤ 40) (hl2 : D.paid.length ≤ 40) (hg : GoodD D) (h1 : isW D who = true) (h2 : isDy d = true) : FnV Tryd.prog 17 [valD D uo po uc pc, i64 who, i64 d] [rowD uo 5 encD D.dues, rowD po 4 encP D.paid] (.tuple #[vS (aheadR D who d).1, i64 (aheadR D who d).2]) := by
  obtain ⟨dn, rfl⟩ : ∃ n : Nat, d = n := ⟨d.toNat, by have := of_decide_eq_true h2; omega⟩
  have hd := of_decide_eq_true h2
  have hdn : dn ≤ 30 := by omega
  have hp2 := hg.nd
  refine FnV.intro Tryd.call17 Tryd.func17 rfl Tryd.ntmps17 rfl ?_
  intro W M Rf
  refine r_seq ?_
  refine r_region ?_
  refine o_boxA rfl rfl rfl rfl rfl (fun b3 => ?_)
  refine o_alloc rfl inf29 rfl rfl rfl rfl rfl (fun b6 => ?_)
  refine o_q _ rfl rfl rfl (v_assign rfl rfl) ?_
  refine o_nil ?_
  with_reducible refine r_then ?_
  refine r_seq ?_
  refine r_region_q mixed (by kernel_rfl) ?_
  refine q_q _ rfl rfl rfl (v_ldW rfl Tryd.underlying25 rfl inf25 rfl rfl) ?_
  refine q_q _ rfl rfl rfl (v_ldW rfl Tryd.underlying25 rfl inf25 rfl rfl) ?_
  refine q_q _ rfl rfl rfl (v_move rfl rfl) ?_
  refine q_q _ rfl rfl rfl (v_cast (v := .bool true) (OpQ.fn (rWho_v D uo po uc pc who) rfl rfl SubRC.sub) (congrArg Value.bool h1)) ?_
  refine q_q _ rfl rfl rfl (v_move rfl rfl) ?_
  refine q_g _ rfl rfl rfl rfl (v_move rfl rfl) ?_
  refine q_g _ rfl rfl rfl rfl (v_cast (v := .bool true) (OpQ.fn (rDay_v _) rfl rfl SubRC.sub) (congrArg Value.bool h2)) ?_
  refine q_q _ rfl rfl rfl (v_pick_t rfl rfl rfl) ?_
  refine q_q _ rfl rfl rfl (v_cast (v := i64 0) (OpQ.fn (check48_v D uo po uc pc true hl1 hl2) rfl rfl SubRC.sub) (i64c (chkD_0 hg rfl))) ?_
  refine q_q _ rfl rfl rfl (v_assign rfl rfl) ?_
  refine q_nil ?_
  with_reducible refine r_then ?_
  refine r_seq ?_
  refine r_seq ?_
  refine r_region ?_
  refine o_q _ rfl rfl rfl (v_move rfl rfl) ?_
  refine o_q _ rfl rfl rfl (v_neq rfl rfl rfl) ?_
  refine o_nil ?_
  with_reducible refine r_then ?_
  refine r_condd rfl (fun hc19 => ?_) (fun hc19 => ?_)
  ·
    (exfalso; revert hc19; decide)
  ·
    refine r_skip ?_
    with_reducible refine r_then ?_
    refine r_seq ?_
    refine r_par' 15 mixed (by kernel_rfl) (by rfl) ?_
    refine p_q _ rfl rfl rfl (fun _ _ => v_ldW rfl Tryd.underlying25 rfl inf25 rfl rfl) ?_
    refine p_q _ rfl rfl rfl (fun _ _ => v_ldW rfl Tryd.underlying25 rfl inf25 rfl rfl) ?_
    refine p_fn (bad37_r D uo po uc pc hl1 hl2) rfl rfl rfl rfl rfl SubRC.sub ?_
    refine p_q _ rfl rfl rfl (fun _ _ => v_move rfl rfl) ?_
    refine p_q _ rfl rfl rfl (fun _ _ => v_move rfl rfl) ?_
    refine p_acc (by simp only [List.nil_append, List.cons_append]; rfl) ?_
    refine p_depN (valAc D.dues.length (4000 * ((dn : Int) + 1)) (accT D (amT D 1) (paT D 1) who (dn + 1)).2) (resAc D.dues.length (accT D (amT D 1) (paT D 1) who (dn + 1)).1) 2 rfl rfl rfl (by kernel_rfl) rfl rfl rfl (fun u hu => by obtain ⟨ao, ac, qo, qc, rfl⟩ := hu; exact LayR.mk (layAc (after_v D uo po uc pc (amT D 1) (paT D 1) ao qo ac qc hg (tru_end hg 1) who dn hdn)) rfl rfl (by show SubR ([rowD ao 1 encI (amT D 1), rowD qo 1 encI (paT D 1)] ++ _) _; exact SubRC.sub)) ?_
    refine p_acc (by simp only [List.nil_append, List.cons_append]; rfl) ?_
    refine p_dep (v := i64 (accT D (amT D 1) (paT D 1) who (dn + 1)).2) 5 rfl rfl rfl (by kernel_rfl) rfl rfl rfl (fun u hu Mx Rx => by obtain ⟨⟨⟨gx, rx, wx⟩, hrx, hwx⟩, rfl⟩ := hu; exact v_field rfl Tryd.underlying81 Tryd.underlying3 inf3 rfl rfl rfl rfl) ?_
    refine p_q _ rfl rfl rfl (fun _ _ => v_ldW rfl Tryd.underlying25 rfl inf25 rfl rfl) ?_
    refine p_q _ rfl rfl rfl (fun _ _ => v_ldW rfl Tryd.underlying25 rfl inf25 rfl rfl) ?_
    refine p_fn (good36_r D uo po uc pc hl1 hl2) rfl rfl rfl rfl rfl SubRC.sub ?_
    refine p_q _ rfl rfl rfl (fun _ _ => v_move rfl rfl) ?_
    refine p_q _ rfl rfl rfl (fun _ _ => v_move rfl rfl) ?_
    refine p_acc (by simp only [List.nil_append, List.cons_append]; rfl) ?_
    refine p_depN (valAc D.dues.length (4000 * ((dn : Int) + 1)) (accT D (amT D 0) (paT D 0) who (dn + 1)).2) (resAc D.dues.length (accT D (amT D 0) (paT D 0) who (dn + 1)).1) 9 rfl rfl rfl (by kernel_rfl) rfl rfl rfl (fun u hu => by obtain ⟨ao, ac, qo, qc, rfl⟩ := hu; exact LayR.mk (layAc (after_v D uo po uc pc (amT D 0) (paT D 0) ao qo ac qc hg (tru_end hg 0) who dn hdn)) rfl rfl (by show SubR ([rowD ao 1 encI (amT D 0), rowD qo 1 encI (paT D 0)] ++ _) _; exact SubRC.sub)) ?_
    refine p_acc (by simp only [List.nil_append, List.cons_append]; rfl) ?_
    refine p_dep (v := i64 (accT D (amT D 0) (paT D 0) who (dn + 1)).2) 12 rfl rfl rfl (by kernel_rfl) rfl rfl rfl (fun u hu Mx Rx => by obtain ⟨⟨⟨gx, rx, wx⟩, hrx, hwx⟩, rfl⟩ := hu; exact v_field rfl Tryd.underlying81 Tryd.underlying3 inf3 rfl rfl rfl rfl) ?_
    refine p_q _ rfl rfl rfl (fun _ _ => v_bS rfl Tryd.underlying29 inf29 plt29 rfl rfl rfl (by repeat (first | exact trivial | refine ⟨rfl, ?_⟩)) (by rfl)) ?_
    refine p_nil2 (by simp only [List.nil_append, List.cons_append]; rfl) rfl ?_
    refine f_q rfl ?_
    refine f_q rfl ?_
    refine f_gf rfl (fun v24 hv24 => ?_)
    refine f_q rfl ?_
    refine f_q rfl ?_
    refine f_g rfl (fun v27 hv27 => ?_)
    obtain ⟨⟨⟨g27, r27, w27⟩, hr27, hw27⟩, rfl⟩ := hv27
    show Fin _ _ _ _ _ _ _ (bx g27 3 ((arrL (accT D (amT D 1) (paT D 1) who (dn + 1)).1 D.dues.length).flatMap encI) :: _) _
    simp only [List.append_eq, List.nil_append]
    refine f_q rfl ?_
    refine f_q rfl ?_
    refine f_q rfl ?_
    refine f_gf rfl (fun v31 hv31 => ?_)
    refine f_q rfl ?_
    refine f_q rfl ?_
    refine f_g rfl (fun v34 hv34 => ?_)
    obtain ⟨⟨⟨g34, r34, w34⟩, hr34, hw34⟩, rfl⟩ := hv34
    show Fin _ _ _ _ _ _ _ (bx g34 3 ((arrL (accT D (amT D 0) (paT D 0) who (dn + 1)).1 D.dues.length).flatMap encI) :: _) _
    simp only [List.append_eq, List.nil_append]
    refine f_q rfl ?_
    refine f_q rfl ?_
    refine f_nil ?_
    refine o_st rfl inf29 rfl rfl rfl rfl rfl rfl rfl rfl ?_
    refine o_q _ rfl rfl rfl (v_assign rfl rfl) ?_
    refine o_nil ?_
    with_reducible refine r_then ?_
    refine r_ret ?_
    exact r_retv2 (Rd.two rfl (RdI.cellW Tryd.underlying29 rfl inf29 rfl rfl) (RdI.tmp rfl)) (by rw [aheadR, ansD_0 (chkD_0 hg (okT h1 h2)), Int.toNat_natCast]; try rfl) SelMC.sel SubRC.sub
theorem ahead17_v (who d : Int) (hl1 : D.dues.length ≤ 40) (hl2 : D.paid.length ≤ 40) : FnV Tryd.prog 17 [valD D uo po uc pc, i64 who, i64 d] [rowD uo 5 encD D.dues, rowD po 4 encP D.paid] (.tuple #[vS (aheadR D who d).1, i64 (aheadR D who d).2]) := by
  by_cases hg : GoodD D
  · cases h1 : isW D who
    · exact ahead17_c D uo po uc pc who d hl1 hl2 hg h1
    · cases h2 : isDy d
      · exact ahead17_d D uo po uc pc who d hl1 hl2 hg h1 h2
      · exact ahead17_o D uo po uc pc who d hl1 hl2 hg h1 h2
  · cases h1 : isW D who
    · exact ahead17_a D uo po uc pc who d hl1 hl2 hg h1
    · exact ahead17_b D uo po uc pc who d hl1 hl2 hg h1
def openR (D : Debt) (who d : Int) : (Nat × Nat) × Int := ansD D (okWD D who d) (0, 0) (openK (valF (endA D 0 who d.toNat).1) D.dues.length, openK (valF (endA D 1 who d.toNat).1) D.dues.length)
set_option maxHeartbeats 4000000 in
theorem open21_a (who d : Int) (hl1 : D.dues.length ≤ 40) (hl2 : D.paid.length ≤ 40) (hng : ¬ GoodD D) (h1 : isW D who = false) : FnV Tryd.prog 21 [valD D uo po uc pc, i64 who, i64 d] [rowD uo 5 encD D.dues, rowD po 4 encP D.paid] (.tuple #[i64 ((openR D who d).1.1 : Nat), i64 ((openR D who d).1.2 : Nat), i64 (openR D who d).2]) := by
  refine FnV.intro Tryd.call21 Tryd.func21 rfl Tryd.ntmps21 rfl ?_
  intro W M Rf
  refine r_seq ?_
  refine r_region ?_
  refine o_boxA rfl rfl rfl rfl rfl (fun b3 => ?_)
  refine o_q _ rfl rfl rfl (v_assign rfl rfl) ?_
  refine o_q _ rfl rfl rfl (v_assign rfl rfl) ?_
  refine o_q _ rfl rfl rfl (v_assign rfl rfl) ?_
  refine o_nil ?_
  with_reducible refine r_then ?_
  refine r_seq ?_
  refine r_region_q mixed (by kernel_rfl) ?_
  refine q_q _ rfl rfl rfl (v_ldW rfl Tryd.underlying25 rfl inf25 rfl rfl) ?_
  refine q_q _ rfl rfl rfl (v_ldW rfl Tryd.underlying25 rfl inf25 rfl rfl) ?_
  refine q_q _ rfl rfl rfl (v_move rfl rfl) ?_
  refine q_q _ rfl rfl rfl (v_cast (v := .bool false) (OpQ.fn (rWho_v D uo po uc pc who) rfl rfl SubRC.sub) (congrArg Value.bool h1)) ?_
  refine q_q _ rfl rfl rfl (v_move rfl rfl) ?_
  refine q_gn rfl rfl rfl rfl ?_
  refine q_gn rfl rfl rfl rfl ?_
  refine q_q _ rfl rfl rfl (v_pick_f rfl rfl rfl) ?_
  refine q_q _ rfl rfl rfl (v_cast (v := i64 1) (OpQ.fn (check48_v D uo po uc pc false hl1 hl2) rfl rfl SubRC.sub) (i64c (chkD_1 hng))) ?_
  refine q_q _ rfl rfl rfl (v_assign rfl rfl) ?_
  refine q_nil ?_
  with_reducible refine r_then ?_
  refine r_seq ?_
  refine r_seq ?_
  refine r_region ?_
  refine o_q _ rfl rfl rfl (v_move rfl rfl) ?_
  refine o_q _ rfl rfl rfl (v_neq rfl rfl rfl) ?_
  refine o_nil ?_
  with_reducible refine r_then ?_
  refine r_condd rfl (fun hc25 => ?_) (fun hc25 => ?_)
  ·
    refine r_seq ?_
    refine r_region ?_
    refine o_q _ rfl rfl rfl (v_move rfl rfl) ?_
    refine o_q _ rfl rfl rfl (v_assign rfl rfl) ?_
    refine o_q _ rfl rfl rfl (v_assign rfl rfl) ?_
    refine o_q _ rfl rfl rfl (v_assign rfl rfl) ?_
    refine o_nil ?_
    with_reducible refine r_then ?_
    refine r_ret ?_
    with_reducible refine r_then_ret ?_
    exact r_retv2 (Rd.three rfl (RdI.tmp rfl) (RdI.tmp rfl) (RdI.tmp rfl)) (by rw [openR, ansD_n (chkD_1 hng) (by decide)]; try rfl) SelMC.sel SubRC.sub
  ·
    (exfalso; revert hc25; decide)
set_option maxHeartbeats 4000000 in
theorem open21_b (who d : Int) (hl1 : D.dues.length ≤ 40) (hl2 : D.paid.length ≤ 40) (hng : ¬ GoodD D) (h1 : isW D who = true) : FnV Tryd.prog 21 [valD D uo po uc pc, i64 who, i64 d] [rowD uo 5 encD D.dues, rowD po 4 encP D.paid] (.tuple #[i64 ((openR D who d).1.1 : Nat), i64 ((openR D who d).1.2 : Nat), i64 (openR D who d).2]) := by
  refine FnV.intro Tryd.call21 Tryd.func21 rfl Tryd.ntmps21 rfl ?_
  intro W M Rf
  refine r_seq ?_
  refine r_region ?_
  refine o_boxA rfl rfl rfl rfl rfl (fun b3 => ?_)
  refine o_q _ rfl rfl rfl (v_assign rfl rfl) ?_
  refine o_q _ rfl rfl rfl (v_assign rfl rfl) ?_
  refine o_q _ rfl rfl rfl (v_assign rfl rfl) ?_
  refine o_nil ?_
  with_reducible refine r_then ?_
  refine r_seq ?_
  refine r_region_q mixed (by kernel_rfl) ?_
  refine q_q _ rfl rfl rfl (v_ldW rfl Tryd.underlying25 rfl inf25 rfl rfl) ?_
  refine q_q _ rfl rfl rfl (v_ldW rfl Tryd.underlying25 rfl inf25 rfl rfl) ?_
  refine q_q _ rfl rfl rfl (v_move rfl rfl) ?_
  refine q_q _ rfl rfl rfl (v_cast (v := .bool true) (OpQ.fn (rWho_v D uo po uc pc who) rfl rfl SubRC.sub) (congrArg Value.bool h1)) ?_
  refine q_q _ rfl rfl rfl (v_move rfl rfl) ?_
  refine q_g _ rfl rfl rfl rfl (v_move rfl rfl) ?_
  refine q_g _ rfl rfl rfl rfl (OpQ.fn (rDay_v d) rfl rfl SubRC.sub) ?_
  refine q_q _ rfl rfl rfl (v_pick_t rfl rfl rfl) ?_
  refine q_q _ rfl rfl rfl (v_cast (v := i64 1) (OpQ.fn (check48_v D uo po uc pc (isDy d) hl1 hl2) rfl rfl SubRC.sub) (i64c (chkD_1 hng))) ?_
  refine q_q _ rfl rfl rfl (v_assign rfl rfl) ?_
  refine q_nil ?_
  with_reducible refine r_then ?_
  refine r_seq ?_
  refine r_seq ?_
  refine r_region ?_
  refine o_q _ rfl rfl rfl (v_move rfl rfl) ?_
  refine o_q _ rfl rfl rfl (v_neq rfl rfl rfl) ?_
  refine o_nil ?_
  with_reducible refine r_then ?_
  refine r_condd rfl (fun hc25 => ?_) (fun hc25 => ?_)
  ·
    refine r_seq ?_
    refine r_region ?_
    refine o_q _ rfl rfl rfl (v_move rfl rfl) ?_
    refine o_q _ rfl rfl rfl (v_assign rfl rfl) ?_
    refine o_q _ rfl rfl rfl (v_assign rfl rfl) ?_
    refine o_q _ rfl rfl rfl (v_assign rfl rfl) ?_
    refine o_nil ?_
    with_reducible refine r_then ?_
    refine r_ret ?_
    with_reducible refine r_then_ret ?_
    exact r_retv2 (Rd.three rfl (RdI.tmp rfl) (RdI.tmp rfl) (RdI.tmp rfl)) (by rw [openR, ansD_n (chkD_1 hng) (by decide)]; try rfl) SelMC.sel SubRC.sub
  ·
    (exfalso; revert hc25; decide)
set_option maxHeartbeats 4000000 in
theorem open21_c (who d : Int) (hl1 : D.dues.length ≤ 40) (hl2 : D.paid.length ≤ 40) (hg : GoodD D) (h1 : isW D who = false) : FnV Tryd.prog 21 [valD D uo po uc pc, i64 who, i64 d] [rowD uo 5 encD D.dues, rowD po 4 encP D.paid] (.tuple #[i64 ((openR D who d).1.1 : Nat), i64 ((openR D who d).1.2 : Nat), i64 (openR D who d).2]) := by
  refine FnV.intro Tryd.call21 Tryd.func21 rfl Tryd.ntmps21 rfl ?_
  intro W M Rf
  refine r_seq ?_
  refine r_region ?_
  refine o_boxA rfl rfl rfl rfl rfl (fun b3 => ?_)
  refine o_q _ rfl rfl rfl (v_assign rfl rfl) ?_
  refine o_q _ rfl rfl rfl (v_assign rfl rfl) ?_
  refine o_q _ rfl rfl rfl (v_assign rfl rfl) ?_
  refine o_nil ?_
  with_reducible refine r_then ?_
  refine r_seq ?_
  refine r_region_q mixed (by kernel_rfl) ?_
  refine q_q _ rfl rfl rfl (v_ldW rfl Tryd.underlying25 rfl inf25 rfl rfl) ?_
  refine q_q _ rfl rfl rfl (v_ldW rfl Tryd.underlying25 rfl inf25 rfl rfl) ?_
  refine q_q _ rfl rfl rfl (v_move rfl rfl) ?_
  refine q_q _ rfl rfl rfl (v_cast (v := .bool false) (OpQ.fn (rWho_v D uo po uc pc who) rfl rfl SubRC.sub) (congrArg Value.bool h1)) ?_
  refine q_q _ rfl rfl rfl (v_move rfl rfl) ?_
  refine q_gn rfl rfl rfl rfl ?_
  refine q_gn rfl rfl rfl rfl ?_
  refine q_q _ rfl rfl rfl (v_pick_f rfl rfl rfl) ?_
  refine q_q _ rfl rfl rfl (v_cast (v := i64 2) (OpQ.fn (check48_v D uo po uc pc false hl1 hl2) rfl rfl SubRC.sub) (i64c (chkD_2 hg rfl))) ?_
  refine q_q _ rfl rfl rfl (v_assign rfl rfl) ?_
  refine q_nil ?_
  with_reducible refine r_then ?_
  refine r_seq ?_
  refine r_seq ?_
  refine r_region ?_
  refine o_q _ rfl rfl rfl (v_move rfl rfl) ?_
  refine o_q _ rfl rfl rfl (v_neq rfl rfl rfl) ?_
  refine o_nil ?_
  with_reducible refine r_then ?_
  refine r_condd rfl (fun hc25 => ?_) (fun hc25 => ?_)
  ·
    refine r_seq ?_
    refine r_region ?_
    refine o_q _ rfl rfl rfl (v_move rfl rfl) ?_
    refine o_q _ rfl rfl rfl (v_assign rfl rfl) ?_
    refine o_q _ rfl rfl rfl (v_assign rfl rfl) ?_
    refine o_q _ rfl rfl rfl (v_assign rfl rfl) ?_
    refine o_nil ?_
    with_reducible refine r_then ?_
    refine r_ret ?_
    with_reducible refine r_then_ret ?_
    exact r_retv2 (Rd.three rfl (RdI.tmp rfl) (RdI.tmp rfl) (RdI.tmp rfl)) (by rw [openR, ansD_n (chkD_2 hg (okF1 h1)) (by decide)]; try rfl) SelMC.sel SubRC.sub
  ·
    (exfalso; revert hc25; decide)
set_option maxHeartbeats 4000000 in
theorem open21_d (who d : Int) (hl1 : D.dues.length ≤ 40) (hl2 : D.paid.length ≤ 40) (hg : GoodD D) (h1 : isW D who = true) (h2 : isDy d = false) : FnV Tryd.prog 21 [valD D uo po uc pc, i64 who, i64 d] [rowD uo 5 encD D.dues, rowD po 4 encP D.paid] (.tuple #[i64 ((openR D who d).1.1 : Nat), i64 ((openR D who d).1.2 : Nat), i64 (openR D who d).2]) := by
  refine FnV.intro Tryd.call21 Tryd.func21 rfl Tryd.ntmps21 rfl ?_
  intro W M Rf
  refine r_seq ?_
  refine r_region ?_
  refine o_boxA rfl rfl rfl rfl rfl (fun b3 => ?_)
  refine o_q _ rfl rfl rfl (v_assign rfl rfl) ?_
  refine o_q _ rfl rfl rfl (v_assign rfl rfl) ?_
  refine o_q _ rfl rfl rfl (v_assign rfl rfl) ?_
  refine o_nil ?_
  with_reducible refine r_then ?_
  refine r_seq ?_
  refine r_region_q mixed (by kernel_rfl) ?_
  refine q_q _ rfl rfl rfl (v_ldW rfl Tryd.underlying25 rfl inf25 rfl rfl) ?_
  refine q_q _ rfl rfl rfl (v_ldW rfl Tryd.underlying25 rfl inf25 rfl rfl) ?_
  refine q_q _ rfl rfl rfl (v_move rfl rfl) ?_
  refine q_q _ rfl rfl rfl (v_cast (v := .bool true) (OpQ.fn (rWho_v D uo po uc pc who) rfl rfl SubRC.sub) (congrArg Value.bool h1)) ?_
  refine q_q _ rfl rfl rfl (v_move rfl rfl) ?_
  refine q_g _ rfl rfl rfl rfl (v_move rfl rfl) ?_
  refine q_g _ rfl rfl rfl rfl (v_cast (v := .bool false) (OpQ.fn (rDay_v _) rfl rfl SubRC.sub) (congrArg Value.bool h2)) ?_
  refine q_q _ rfl rfl rfl (v_pick_t rfl rfl rfl) ?_
  refine q_q _ rfl rfl rfl (v_cast (v := i64 2) (OpQ.fn (check48_v D uo po uc pc false hl1 hl2) rfl rfl SubRC.sub) (i64c (chkD_2 hg rfl))) ?_
  refine q_q _ rfl rfl rfl (v_assign rfl rfl) ?_
  refine q_nil ?_
  with_reducible refine r_then ?_
  refine r_seq ?_
  refine r_seq ?_
  refine r_region ?_
  refine o_q _ rfl rfl rfl (v_move rfl rfl) ?_
  refine o_q _ rfl rfl rfl (v_neq rfl rfl rfl) ?_
  refine o_nil ?_
  with_reducible refine r_then ?_
  refine r_condd rfl (fun hc25 => ?_) (fun hc25 => ?_)
  ·
    refine r_seq ?_
    refine r_region ?_
    refine o_q _ rfl rfl rfl (v_move rfl rfl) ?_
    refine o_q _ rfl rfl rfl (v_assign rfl rfl) ?_
    refine o_q _ rfl rfl rfl (v_assign rfl rfl) ?_
    refine o_q _ rfl rfl rfl (v_assign rfl rfl) ?_
    refine o_nil ?_
    with_reducible refine r_then ?_
    refine r_ret ?_
    with_reducible refine r_then_ret ?_
    exact r_retv2 (Rd.three rfl (RdI.tmp rfl) (RdI.tmp rfl) (RdI.tmp rfl)) (by rw [openR, ansD_n (chkD_2 hg (okF2 h2)) (by decide)]; try rfl) SelMC.sel SubRC.sub
  ·
    (exfalso; revert hc25; decide)
set_option maxHeartbeats 4000000 in
theorem open21_o (who d : Int) (hl1 : D.dues.length ≤ 40) (hl2 : D.paid.length ≤ 40) (hg : GoodD D) (h1 : isW D who = true) (h2 : isDy d = true) : FnV Tryd.prog 21 [valD D uo po uc pc, i64 who, i64 d] [rowD uo 5 encD D.dues, rowD po 4 encP D.paid] (.tuple #[i64 ((openR D who d).1.1 : Nat), i64 ((openR D who d).1.2 : Nat), i64 (openR D who d).2]) := by
  obtain ⟨dn, rfl⟩ : ∃ n : Nat, d = n := ⟨d.toNat, by have := of_decide_eq_true h2; omega⟩
  have hd := of_decide_eq_true h2
  have hdn : dn ≤ 30 := by omega
  have hp2 := hg.nd
  refine FnV.intro Tryd.call21 Tryd.func21 rfl Tryd.ntmps21 rfl ?_
  intro W M Rf
  refine r_seq ?_
  refine r_region ?_
  refine o_boxA rfl rfl rfl rfl rfl (fun b3 => ?_)
  refine o_q _ rfl rfl rfl (v_assign rfl rfl) ?_
  refine o_q _ rfl rfl rfl (v_assign rfl rfl) ?_
  refine o_q _ rfl rfl rfl (v_assign rfl rfl) ?_
  refine o_nil ?_
  with_reducible refine r_then ?_
  refine r_seq ?_
  refine r_region_q mixed (by kernel_rfl) ?_
  refine q_q _ rfl rfl rfl (v_ldW rfl Tryd.underlying25 rfl inf25 rfl rfl) ?_
  refine q_q _ rfl rfl rfl (v_ldW rfl Tryd.underlying25 rfl inf25 rfl rfl) ?_
  refine q_q _ rfl rfl rfl (v_move rfl rfl) ?_
  refine q_q _ rfl rfl rfl (v_cast (v := .bool true) (OpQ.fn (rWho_v D uo po uc pc who) rfl rfl SubRC.sub) (congrArg Value.bool h1)) ?_
  refine q_q _ rfl rfl rfl (v_move rfl rfl) ?_
  refine q_g _ rfl rfl rfl rfl (v_move rfl rfl) ?_
  refine q_g _ rfl rfl rfl rfl (v_cast (v := .bool true) (OpQ.fn (rDay_v _) rfl rfl SubRC.sub) (congrArg Value.bool h2)) ?_
  refine q_q _ rfl rfl rfl (v_pick_t rfl rfl rfl) ?_
  refine q_q _ rfl rfl rfl (v_cast (v := i64 0) (OpQ.fn (check48_v D uo po uc pc true hl1 hl2) rfl rfl SubRC.sub) (i64c (chkD_0 hg rfl))) ?_
  refine q_q _ rfl rfl rfl (v_assign rfl rfl) ?_
  refine q_nil ?_
  with_reducible refine r_then ?_
  refine r_seq ?_
  refine r_seq ?_
  refine r_region ?_
  refine o_q _ rfl rfl rfl (v_move rfl rfl) ?_
  refine o_q _ rfl rfl rfl (v_neq rfl rfl rfl) ?_
  refine o_nil ?_
  with_reducible refine r_then ?_
  refine r_condd rfl (fun hc25 => ?_) (fun hc25 => ?_)
  ·
    (exfalso; revert hc25; decide)
  ·
    refine r_skip ?_
    with_reducible refine r_then ?_
    refine r_seq ?_
    refine r_par' 14 mixed (by kernel_rfl) (by rfl) ?_
    refine p_q _ rfl rfl rfl (fun _ _ => v_ldW rfl Tryd.underlying25 rfl inf25 rfl rfl) ?_
    refine p_q _ rfl rfl rfl (fun _ _ => v_ldW rfl Tryd.underlying25 rfl inf25 rfl rfl) ?_
    refine p_fn (good36_r D uo po uc pc hl1 hl2) rfl rfl rfl rfl rfl SubRC.sub ?_
    refine p_q _ rfl rfl rfl (fun _ _ => v_move rfl rfl) ?_
    refine p_q _ rfl rfl rfl (fun _ _ => v_move rfl rfl) ?_
    refine p_acc (by simp only [List.nil_append, List.cons_append]; rfl) ?_
    refine p_depN (valAc D.dues.length (4000 * ((dn : Int) + 1)) (accT D (amT D 0) (paT D 0) who (dn + 1)).2) (resAc D.dues.length (accT D (amT D 0) (paT D 0) who (dn + 1)).1) 2 rfl rfl rfl (by kernel_rfl) rfl rfl rfl (fun u hu => by obtain ⟨ao, ac, qo, qc, rfl⟩ := hu; exact LayR.mk (layAc (after_v D uo po uc pc (amT D 0) (paT D 0) ao qo ac qc hg (tru_end hg 0) who dn hdn)) rfl rfl (by show SubR ([rowD ao 1 encI (amT D 0), rowD qo 1 encI (paT D 0)] ++ _) _; exact SubRC.sub)) ?_
    refine p_q _ rfl rfl rfl (fun _ _ => v_ldW rfl Tryd.underlying25 rfl inf25 rfl rfl) ?_
    refine p_q _ rfl rfl rfl (fun _ _ => v_ldW rfl Tryd.underlying25 rfl inf25 rfl rfl) ?_
    refine p_fn (bad37_r D uo po uc pc hl1 hl2) rfl rfl rfl rfl rfl SubRC.sub ?_
    refine p_q _ rfl rfl rfl (fun _ _ => v_move rfl rfl) ?_
    refine p_q _ rfl rfl rfl (fun _ _ => v_move rfl rfl) ?_
    refine p_acc (by simp only [List.nil_append, List.cons_append]; rfl) ?_
    refine p_depN (valAc D.dues.length (4000 * ((dn : Int) + 1)) (accT D (amT D 1) (paT D 1) who (dn + 1)).2) (resAc D.dues.length (accT D (amT D 1) (paT D 1) who (dn + 1)).1) 8 rfl rfl rfl (by kernel_rfl) rfl rfl rfl (fun u hu => by obtain ⟨ao, ac, qo, qc, rfl⟩ := hu; exact LayR.mk (layAc (after_v D uo po uc pc (amT D 1) (paT D 1) ao qo ac qc hg (tru_end hg 1) who dn hdn)) rfl rfl (by show SubR ([rowD ao 1 encI (amT D 1), rowD qo 1 encI (paT D 1)] ++ _) _; exact SubRC.sub)) ?_
    refine p_alloc rfl inf81 rfl rfl rfl rfl rfl ?_
    refine p_alloc rfl inf81 rfl rfl rfl rfl rfl ?_
    refine p_nil2 (by simp only [List.nil_append, List.cons_append]; rfl) rfl ?_
    refine f_q rfl ?_
    refine f_q rfl ?_
    refine f_gf rfl (fun v29 hv29 => ?_)
    refine f_q rfl ?_
    refine f_q rfl ?_
    refine f_g rfl (fun v32 hv32 => ?_)
    obtain ⟨⟨⟨g32, r32, w32⟩, hr32, hw32⟩, rfl⟩ := hv32
    show Fin _ _ _ _ _ _ _ (bx g32 3 ((arrL (accT D (amT D 0) (paT D 0) who (dn + 1)).1 D.dues.length).flatMap encI) :: _) _
    simp only [List.append_eq, List.nil_append]
    refine f_q rfl ?_
    refine f_q rfl ?_
    refine f_gf rfl (fun v35 hv35 => ?_)
    refine f_q rfl ?_
    refine f_q rfl ?_
    refine f_g rfl (fun v38 hv38 => ?_)
    obtain ⟨⟨⟨g38, r38, w38⟩, hr38, hw38⟩, rfl⟩ := hv38
    show Fin _ _ _ _ _ _ _ (bx g38 3 ((arrL (accT D (amT D 1) (paT D 1) who (dn + 1)).1 D.dues.length).flatMap encI) :: _) _
    simp only [List.append_eq, List.nil_append]
    refine f_alloc rfl (fun b10 => ?_)
    refine f_alloc rfl (fun b11 => ?_)
    refine f_nil ?_
    refine o_st rfl inf81 rfl rfl rfl rfl rfl rfl rfl rfl ?_
    refine o_st rfl inf81 rfl rfl rfl rfl rfl rfl rfl rfl ?_
    refine o_nil ?_
    with_reducible refine r_then ?_
    refine r_seq ?_
    refine r_region ?_
    refine o_q _ rfl rfl rfl (v_assign rfl rfl) ?_
    refine o_q _ rfl rfl rfl (v_assign rfl rfl) ?_
    refine o_nil ?_
    with_reducible refine r_then ?_
    refine r_seq ?_
    refine r_seq ?_
    refine Imp.box_to b10 [.slice (some ⟨g32, 0, none⟩) D.dues.length D.dues.length, i64 (accT D (amT D 0) (paT D 0) who (dn + 1)).2, i64 r32, i64 w32] rfl ?_
    refine Imp.box_to b11 [.slice (some ⟨g38, 0, none⟩) D.dues.length D.dues.length, i64 (accT D (amT D 1) (paT D 1) who (dn + 1)).2, i64 r38, i64 w38] rfl ?_
    refine r_region ?_
    refine o_q _ rfl rfl rfl (v_assign rfl rfl) ?_
    refine o_nil ?_
    with_reducible refine r_then ?_
    refine r_block ?_
    refine r_loop (ι := Nat) (fun k => k ≤ D.dues.length) (fun k => [(3, pt b3 0), (10, pt b10 0), (11, pt b11 0), (12, i64 ((openK (valF (accT D (amT D 0) (paT D 0) who (dn + 1)).1) k : Nat) : Int)), (13, i64 ((openK (valF (accT D (amT D 1) (paT D 1) who (dn + 1)).1) k : Nat) : Int)), (14, i64 (k : Int))]) (fun k => bx b10 81 [.slice (some ⟨g32, 0, none⟩) D.dues.length D.dues.length, i64 (accT D (amT D 0) (paT D 0) who (dn + 1)).2, i64 r32, i64 w32] :: bx b11 81 [.slice (some ⟨g38, 0, none⟩) D.dues.length D.dues.length, i64 (accT D (amT D 1) (paT D 1) who (dn + 1)).2, i64 r38, i64 w38] :: bx g32 3 ((arrL (accT D (amT D 0) (paT D 0) who (dn + 1)).1 D.dues.length).flatMap encI) :: bx g38 3 ((arrL (accT D (amT D 1) (paT D 1) who (dn + 1)).1 D.dues.length).flatMap encI) :: bx b3 25 (cellsD D uo po uc pc) :: M) (fun k => [rowD uo 5 encD D.dues, rowD po 4 encP D.paid] ++ Rf) (fun k => D.dues.length - k) 0 ?_ ?_ ?_
    ·
      exact r_here (by (repeat (first | exact FSub.nil | refine FSub.cons rfl ?_)); first | done | fail) SelMC.sel SubRC.sub
    ·
      omega
    ·
      rintro k hI0
      refine r_seq ?_
      refine r_seq ?_
      refine r_region ?_
      refine o_q _ rfl rfl rfl (v_move rfl rfl) ?_
      refine o_q _ rfl rfl rfl (v_fieldAddr rfl Tryd.underlying25 inf22 rfl rfl rfl rfl) ?_
      refine o_q _ rfl rfl rfl (v_ld1 rfl Tryd.underlying22 rfl rfl rfl) ?_
      refine o_q _ rfl rfl rfl (v_len rfl rfl Tryd.underlying22 rfl) ?_
      refine o_q _ rfl rfl rfl (v_lss rfl rfl rfl) ?_
      refine o_nil ?_
      with_reducible refine r_then ?_
      refine r_condd rfl (fun hc43 => ?_) (fun hc43 => ?_)
      ·
        refine r_skip ?_
        with_reducible refine r_then ?_
        refine r_seq ?_
        refine r_block ?_
        refine r_seq ?_
        refine r_seq ?_
        refine r_region ?_
        refine o_q _ rfl rfl rfl (v_fieldAddr rfl Tryd.underlying81 inf41 rfl rfl rfl rfl) ?_
        refine o_q _ rfl rfl rfl (v_ld1 rfl Tryd.underlying41 rfl rfl rfl) ?_
        refine o_q _ rfl rfl rfl (v_move rfl rfl) ?_
        refine o_q _ rfl rfl rfl (v_indexAddrB rfl Tryd.underlying41 inf3 rfl rfl (by omega)) ?_
        refine o_q _ rfl rfl rfl (v_cast (v := i64 (valF (accT D (amT D 0) (paT D 0) who (dn + 1)).1 k)) (v_ld1 rfl Tryd.underlying3 rfl rfl (boxI_get (by rw [arr_len]; omega))) (i64c ((arr_at (by omega)).trans (rfl)))) ?_
        refine o_q _ rfl rfl rfl (v_gtr rfl rfl rfl) ?_
        refine o_nil ?_
        with_reducible refine r_then ?_
        refine r_condd rfl (fun hc51 => ?_) (fun hc51 => ?_)
        ·
          have ho1 := openK_bd (valF (accT D (amT D 0) (paT D 0) who (dn + 1)).1) (k := k) (by omega)
          have ho2 : 2 ^ k ≤ 2 ^ 6 := Nat.pow_le_pow_right (by decide) (by omega)
          have hpz : (0 : Int) ≤ ((2 ^ k : Nat) : Int) := Int.natCast_nonneg _
          refine r_region ?_
          refine o_q _ rfl rfl rfl (v_move rfl rfl) ?_
          refine o_q _ rfl rfl rfl (v_move rfl rfl) ?_
          refine o_q _ rfl rfl rfl (OpQ.fn (pow_v k (by omega)) rfl rfl SubRC.sub) ?_
          refine o_q _ rfl rfl rfl (v_add rfl rfl rfl (by omega)) ?_
          refine o_q _ rfl rfl rfl (v_assign rfl rfl) ?_
          refine o_nil ?_
          with_reducible refine r_then ?_
          refine r_seq ?_
          refine r_region ?_
          refine o_q _ rfl rfl rfl (v_fieldAddr rfl Tryd.underlying81 inf41 rfl rfl rfl rfl) ?_
          refine o_q _ rfl rfl rfl (v_ld1 rfl Tryd.underlying41 rfl rfl rfl) ?_
          refine o_q _ rfl rfl rfl (v_move rfl rfl) ?_
          refine o_q _ rfl rfl rfl (v_indexAddrB rfl Tryd.underlying41 inf3 rfl rfl (by omega)) ?_
          refine o_q _ rfl rfl rfl (v_cast (v := i64 (valF (accT D (amT D 1) (paT D 1) who (dn + 1)).1 k)) (v_ld1 rfl Tryd.underlying3 rfl rfl (boxI_get (by rw [arr_len]; omega))) (i64c ((arr_at (by omega)).trans (rfl)))) ?_
          refine o_q _ rfl rfl rfl (v_gtr rfl rfl rfl) ?_
          refine o_nil ?_
          with_reducible refine r_then ?_
          refine r_condd rfl (fun hc61 => ?_) (fun hc61 => ?_)
          ·
            have ho1 := openK_bd (valF (accT D (amT D 1) (paT D 1) who (dn + 1)).1) (k := k) (by omega)
            have ho2 : 2 ^ k ≤ 2 ^ 6 := Nat.pow_le_pow_right (by decide) (by omega)
            have hpz : (0 : Int) ≤ ((2 ^ k : Nat) : Int) := Int.natCast_nonneg _
            refine r_region ?_
            refine o_q _ rfl rfl rfl (v_move rfl rfl) ?_
            refine o_q _ rfl rfl rfl (v_move rfl rfl) ?_
            refine o_q _ rfl rfl rfl (OpQ.fn (pow_v k (by omega)) rfl rfl SubRC.sub) ?_
            refine o_q _ rfl rfl rfl (v_add rfl rfl rfl (by omega)) ?_
            refine o_q _ rfl rfl rfl (v_assign rfl rfl) ?_
            refine o_nil ?_
            with_reducible refine r_in_normal ?_; refine r_then ?_
            refine r_region ?_
            refine o_q _ rfl rfl rfl (v_move rfl rfl) ?_
            refine o_q _ rfl rfl rfl (v_add rfl rfl rfl (by omega)) ?_
            refine o_q _ rfl rfl rfl (v_assign rfl rfl) ?_
            refine o_nil ?_
            with_reducible refine r_then ?_
            refine r_next (k + 1) ?_ ?_ ?_
            ·
              exact r_here (by (repeat (first | exact FSub.nil | refine FSub.cons rfl ?_ | refine FSub.cons2 rfl (i64c (openK_add (by omega))) ?_ | refine FSub.cons2 rfl (i64n (openK_n (by omega)).symm) ?_)); first | done | fail) SelMC.sel SubRC.sub
            ·
              omega
            ·
              omega
          ·
            refine r_skip ?_
            with_reducible refine r_in_normal ?_; refine r_then ?_
            refine r_region ?_
            refine o_q _ rfl rfl rfl (v_move rfl rfl) ?_
            refine o_q _ rfl rfl rfl (v_add rfl rfl rfl (by omega)) ?_
            refine o_q _ rfl rfl rfl (v_assign rfl rfl) ?_
            refine o_nil ?_
            with_reducible refine r_then ?_
            refine r_next (k + 1) ?_ ?_ ?_
            ·
              exact r_here (by (repeat (first | exact FSub.nil | refine FSub.cons rfl ?_ | refine FSub.cons2 rfl (i64c (openK_add (by omega))) ?_ | refine FSub.cons2 rfl (i64n (openK_n (by omega)).symm) ?_)); first | done | fail) SelMC.sel SubRC.sub
            ·
              omega
            ·
              omega
        ·
          refine r_skip ?_
          with_reducible refine r_then ?_
          refine r_seq ?_
          refine r_region ?_
          refine o_q _ rfl rfl rfl (v_fieldAddr rfl Tryd.underlying81 inf41 rfl rfl rfl rfl) ?_
          refine o_q _ rfl rfl rfl (v_ld1 rfl Tryd.underlying41 rfl rfl rfl) ?_
          refine o_q _ rfl rfl rfl (v_move rfl rfl) ?_
          refine o_q _ rfl rfl rfl (v_indexAddrB rfl Tryd.underlying41 inf3 rfl rfl (by omega)) ?_
          refine o_q _ rfl rfl rfl (v_cast (v := i64 (valF (accT D (amT D 1) (paT D 1) who (dn + 1)).1 k)) (v_ld1 rfl Tryd.underlying3 rfl rfl (boxI_get (by rw [arr_len]; omega))) (i64c ((arr_at (by omega)).trans (rfl)))) ?_
          refine o_q _ rfl rfl rfl (v_gtr rfl rfl rfl) ?_
          refine o_nil ?_
          with_reducible refine r_then ?_
          refine r_condd rfl (fun hc61 => ?_) (fun hc61 => ?_)
          ·
            have ho1 := openK_bd (valF (accT D (amT D 1) (paT D 1) who (dn + 1)).1) (k := k) (by omega)
            have ho2 : 2 ^ k ≤ 2 ^ 6 := Nat.pow_le_pow_right (by decide) (by omega)
            have hpz : (0 : Int) ≤ ((2 ^ k : Nat) : Int) := Int.natCast_nonneg _
            refine r_region ?_
            refine o_q _ rfl rfl rfl (v_move rfl rfl) ?_
            refine o_q _ rfl rfl rfl (v_move rfl rfl) ?_
            refine o_q _ rfl rfl rfl (OpQ.fn (pow_v k (by omega)) rfl rfl SubRC.sub) ?_
            refine o_q _ rfl rfl rfl (v_add rfl rfl rfl (by omega)) ?_
            refine o_q _ rfl rfl rfl (v_assign rfl rfl) ?_
            refine o_nil ?_
            with_reducible refine r_in_normal ?_; refine r_then ?_
            refine r_region ?_
            refine o_q _ rfl rfl rfl (v_move rfl rfl) ?_
            refine o_q _ rfl rfl rfl (v_add rfl rfl rfl (by omega)) ?_
            refine o_q _ rfl rfl rfl (v_assign rfl rfl) ?_
            refine o_nil ?_
            with_reducible refine r_then ?_
            refine r_next (k + 1) ?_ ?_ ?_
            ·
              exact r_here (by (repeat (first | exact FSub.nil | refine FSub.cons rfl ?_ | refine FSub.cons2 rfl (i64c (openK_add (by omega))) ?_ | refine FSub.cons2 rfl (i64n (openK_n (by omega)).symm) ?_)); first | done | fail) SelMC.sel SubRC.sub
            ·
              omega
            ·
              omega
          ·
            refine r_skip ?_
            with_reducible refine r_in_normal ?_; refine r_then ?_
            refine r_region ?_
            refine o_q _ rfl rfl rfl (v_move rfl rfl) ?_
            refine o_q _ rfl rfl rfl (v_add rfl rfl rfl (by omega)) ?_
            refine o_q _ rfl rfl rfl (v_assign rfl rfl) ?_
            refine o_nil ?_
            with_reducible refine r_then ?_
            refine r_next (k + 1) ?_ ?_ ?_
            ·
              exact r_here (by (repeat (first | exact FSub.nil | refine FSub.cons rfl ?_ | refine FSub.cons2 rfl (i64c (openK_add (by omega))) ?_ | refine FSub.cons2 rfl (i64n (openK_n (by omega)).symm) ?_)); first | done | fail) SelMC.sel SubRC.sub
            ·
              omega
            ·
              omega
      ·
        refine r_exit ?_
        with_reducible refine r_then_exit ?_; refine r_then_exit ?_; refine r_in_here ?_; refine r_then ?_
        refine r_seq ?_
        obtain rfl : k = D.dues.length := by omega
        refine r_region ?_
        refine o_q _ rfl rfl rfl (v_move rfl rfl) ?_
        refine o_q _ rfl rfl rfl (v_move rfl rfl) ?_
        refine o_q _ rfl rfl rfl (v_assign rfl rfl) ?_
        refine o_q _ rfl rfl rfl (v_assign rfl rfl) ?_
        refine o_q _ rfl rfl rfl (v_assign rfl rfl) ?_
        refine o_nil ?_
        with_reducible refine r_then ?_
        refine r_ret ?_
        exact r_retv2 (Rd.three rfl (RdI.tmp rfl) (RdI.tmp rfl) (RdI.tmp rfl)) (by rw [openR, ansD_0 (chkD_0 hg (okT h1 h2)), Int.toNat_natCast]; try rfl) SelMC.sel SubRC.sub
theorem open21_v (who d : Int) (hl1 : D.dues.length ≤ 40) (hl2 : D.paid.length ≤ 40) : FnV Tryd.prog 21 [valD D uo po uc pc, i64 who, i64 d] [rowD uo 5 encD D.dues, rowD po 4 encP D.paid] (.tuple #[i64 ((openR D who d).1.1 : Nat), i64 ((openR D who d).1.2 : Nat), i64 (openR D who d).2]) := by
  by_cases hg : GoodD D
  · cases h1 : isW D who
    · exact open21_c D uo po uc pc who d hl1 hl2 hg h1
    · cases h2 : isDy d
      · exact open21_d D uo po uc pc who d hl1 hl2 hg h1 h2
      · exact open21_o D uo po uc pc who d hl1 hl2 hg h1 h2
  · cases h1 : isW D who
    · exact open21_a D uo po uc pc who d hl1 hl2 hg h1
    · exact open21_b D uo po uc pc who d hl1 hl2 hg h1
end Go.Proofs.YtpfgiednfjfdmaaDoor


namespace Go.Proofs.YtpfgiednfjfdmaaDoor
open Go.G Debt10
set_option maxRecDepth 1000000
attribute [local irreducible] G.ParO G.Fin
theorem ans_eq {α : Type} {D : Debt} {ok : Bool} {z a b : α} (h : GoodD D → a = b) : ansD D ok z a = ansD D ok z b := by
  by_cases hg : GoodD D
  · rw [h hg]
  · rw [ansD_n (chkD_1 hg) (by decide), ansD_n (chkD_1 hg) (by decide)]
theorem end_acc (D : Debt) (e : Nat) (who : Int) (d : Nat) : endA D e who d = acc0 D (amD D e) (paD D e) who (d + 1) := acc_alike (ends_alike D e) who (d + 1)
theorem end_total {D : Debt} (hg : GoodD D) (e : Nat) (who : Int) (d : Nat) : total (endA D e who d).1 = total (progA D e who (d + 1)).1 := by rw [prog_total hg, end_acc]
theorem leftT_same {D : Debt} (hg : GoodD D) (who : Int) (d : Nat) : leftRT D who d = leftT D who d := by
  unfold leftRT leftT
  rw [end_total hg 0, end_total hg 1]
theorem left_same (D : Debt) (who d : Int) : leftR D who d = leftB D who d := ans_eq fun hg => leftT_same hg who d.toNat
theorem setl_same (D : Debt) (who d : Int) : setlR D who d = setlB D who d := ans_eq fun hg => by rw [leftT_same hg]
theorem ahead_same (D : Debt) (who d : Int) : aheadR D who d = aheadB D who d := ans_eq fun hg => by
  unfold aheadT
  rw [end_acc, end_acc]; rfl
theorem need_eq {D : Debt} (hg : GoodD D) (who : Int) (d : Nat) : sumTo (valF (payF (lstT D (amT D 1) (paT D 1) who d) (bagT D (amT D 1) (paT D 1) who d))) D.dues.length = needT D who d := by
  rw [← total_sum (by rw [nums_pay]; exact lst_nodup who d) (fun x hx => (((lst_ent who d).pay) x hx).1)]
  unfold needT
  rw [progB_total hg]
  exact congrArg (fun x : List Opn × Int => total x.1) (accB_alike (ends_alike D 1) who d)
theorem need_same (D : Debt) (who d : Int) : needR D who d = needB D who d := ans_eq fun hg => need_eq hg who d.toNat
theorem open_eq {D : Debt} (hg : GoodD D) (e : Nat) (who : Int) (d : Nat) : openK (valF (endA D e who d).1) D.dues.length = setT (progA D e who (d + 1)).1 := by
  rw [open_allT hg (tru_end hg e)]
  show setT ((endA D e who d).1.filter isOpen) = _
  rw [end_acc]; rfl
theorem open_same (D : Debt) (who d : Int) : openR D who d = openB D who d := ans_eq fun hg => by rw [open_eq hg, open_eq hg]
attribute [local irreducible] leftB aheadB setlB openB needB leftR aheadR setlR openR needR
variable (D : Debt) (uo po : Option Addr) (uc pc : Nat)
set_option maxHeartbeats 4000000 in
theorem reads_far (who d : Int) (hf : farD D) : FnV Tryd.prog 3 [valD D uo po uc pc, i64 who, i64 d] [rowD uo 5 encD D.dues, rowD po 4 encP D.paid, rowD (some ⟨0, 0, none⟩) 1 encE ([0, 1] : List Nat)] (.bool true) := by
  refine FnV.intro Tryd.call3 Tryd.func3 rfl Tryd.ntmps3 rfl ?_
  intro W M Rf
  refine r_seq ?_
  refine r_region ?_
  refine o_boxA rfl rfl rfl rfl rfl (fun b3 => ?_)
  refine o_q _ rfl rfl rfl (v_assign rfl rfl) ?_
  refine o_nil ?_
  with_reducible refine r_then ?_
  refine r_seq ?_
  refine r_seq ?_
  refine r_region ?_
  refine o_q _ rfl rfl rfl (v_ldW rfl Tryd.underlying25 rfl inf25 rfl rfl) ?_
  refine o_q _ rfl rfl rfl (v_cast (v := .bool true) (OpQ.fn (far_v D uo po uc pc) rfl rfl SubRC.sub) (congrArg Value.bool (decide_eq_true hf))) ?_
  refine o_nil ?_
  with_reducible refine r_then ?_
  refine r_cond rfl (fun hc30 => ?_) (fun hc30 => ?_)
  ·
    refine r_seq ?_
    refine r_region ?_
    refine o_q _ rfl rfl rfl (OpQ.fn awake_v rfl rfl SubRC.sub) ?_
    refine o_q _ rfl rfl rfl (v_assign rfl rfl) ?_
    refine o_nil ?_
    with_reducible refine r_then ?_
    refine r_ret ?_
    with_reducible refine r_then_ret ?_
    exact r_retv2 (Rd.tmp rfl rfl) rfl SelMC.sel SubRC.sub
  ·
    (exfalso; revert hc30; decide)
set_option maxHeartbeats 4000000 in
theorem reads_ok (who d : Int) (hf : ¬ farD D) : FnV Tryd.prog 3 [valD D uo po uc pc, i64 who, i64 d] [rowD uo 5 encD D.dues, rowD po 4 encP D.paid, rowD (some ⟨0, 0, none⟩) 1 encE ([0, 1] : List Nat)] (.bool true) := by
  have hf2 := hf
  unfold farD at hf2
  have hl1 : D.dues.length ≤ 40 := by omega
  have hl2 : D.paid.length ≤ 40 := by omega
  refine FnV.intro Tryd.call3 Tryd.func3 rfl Tryd.ntmps3 rfl ?_
  intro W M Rf
  refine r_seq ?_
  refine r_region ?_
  refine o_boxA rfl rfl rfl rfl rfl (fun b3 => ?_)
  refine o_q _ rfl rfl rfl (v_assign rfl rfl) ?_
  refine o_nil ?_
  with_reducible refine r_then ?_
  refine r_seq ?_
  refine r_seq ?_
  refine r_region ?_
  refine o_q _ rfl rfl rfl (v_ldW rfl Tryd.underlying25 rfl inf25 rfl rfl) ?_
  refine o_q _ rfl rfl rfl (v_cast (v := .bool false) (OpQ.fn (far_v D uo po uc pc) rfl rfl SubRC.sub) (congrArg Value.bool (decide_eq_false hf))) ?_
  refine o_nil ?_
  with_reducible refine r_then ?_
  refine r_cond rfl (fun hc30 => ?_) (fun hc30 => ?_)
  ·
    (exfalso; revert hc30; decide)
  ·
    refine r_skip ?_
    with_reducible refine r_then ?_
    refine r_seq ?_
    refine r_region ?_
    refine o_q _ rfl rfl rfl (v_ldW rfl Tryd.underlying25 rfl inf25 rfl rfl) ?_
    refine o_q _ rfl rfl rfl (v_move rfl rfl) ?_
    refine o_q _ rfl rfl rfl (v_move rfl rfl) ?_
    refine o_q _ rfl rfl rfl (OpQ.fn (left14_v D uo po uc pc who d hl1 hl2) rfl rfl SubRC.sub) ?_
    refine o_q _ rfl rfl rfl (v_move rfl rfl) ?_
    refine o_q _ rfl rfl rfl (v_extract rfl rfl rfl) ?_
    refine o_q _ rfl rfl rfl (v_extract rfl rfl rfl) ?_
    refine o_alloc rfl inf29 rfl rfl rfl rfl rfl (fun b7 => ?_)
    refine o_st rfl inf29 rfl rfl rfl rfl rfl rfl rfl rfl ?_
    refine o_q _ rfl rfl rfl (v_assign rfl rfl) ?_
    refine o_nil ?_
    with_reducible refine r_then ?_
    refine r_seq ?_
    refine r_region ?_
    refine o_q _ rfl rfl rfl (v_ldW rfl Tryd.underlying25 rfl inf25 rfl rfl) ?_
    refine o_q _ rfl rfl rfl (v_move rfl rfl) ?_
    refine o_q _ rfl rfl rfl (v_move rfl rfl) ?_
    refine o_q _ rfl rfl rfl (v_cast (v := .tuple #[vS (leftB D who d).1, i64 (leftB D who d).2]) (OpQ.fn (left15_v D uo po uc pc who d hl1 hl2) rfl rfl SubRC.sub) (by rw [left_same])) ?_
    refine o_q _ rfl rfl rfl (v_move rfl rfl) ?_
    refine o_q _ rfl rfl rfl (v_extract rfl rfl rfl) ?_
    refine o_q _ rfl rfl rfl (v_extract rfl rfl rfl) ?_
    refine o_alloc rfl inf29 rfl rfl rfl rfl rfl (fun b9 => ?_)
    refine o_st rfl inf29 rfl rfl rfl rfl rfl rfl rfl rfl ?_
    refine o_q _ rfl rfl rfl (v_assign rfl rfl) ?_
    refine o_nil ?_
    with_reducible refine r_then ?_
    refine r_seq ?_
    refine r_region ?_
    refine o_q _ rfl rfl rfl (v_ldW rfl Tryd.underlying25 rfl inf25 rfl rfl) ?_
    refine o_q _ rfl rfl rfl (v_move rfl rfl) ?_
    refine o_q _ rfl rfl rfl (v_move rfl rfl) ?_
    refine o_q _ rfl rfl rfl (OpQ.fn (ahead16_v D uo po uc pc who d hl1 hl2) rfl rfl SubRC.sub) ?_
    refine o_q _ rfl rfl rfl (v_move rfl rfl) ?_
    refine o_q _ rfl rfl rfl (v_extract rfl rfl rfl) ?_
    refine o_q _ rfl rfl rfl (v_extract rfl rfl rfl) ?_
    refine o_alloc rfl inf29 rfl rfl rfl rfl rfl (fun b11 => ?_)
    refine o_st rfl inf29 rfl rfl rfl rfl rfl rfl rfl rfl ?_
    refine o_q _ rfl rfl rfl (v_assign rfl rfl) ?_
    refine o_nil ?_
    with_reducible refine r_then ?_
    refine r_seq ?_
    refine r_region ?_
    refine o_q _ rfl rfl rfl (v_ldW rfl Tryd.underlying25 rfl inf25 rfl rfl) ?_
    refine o_q _ rfl rfl rfl (v_move rfl rfl) ?_
    refine o_q _ rfl rfl rfl (v_move rfl rfl) ?_
    refine o_q _ rfl rfl rfl (v_cast (v := .tuple #[vS (aheadB D who d).1, i64 (aheadB D who d).2]) (OpQ.fn (ahead17_v D uo po uc pc who d hl1 hl2) rfl rfl SubRC.sub) (by rw [ahead_same])) ?_
    refine o_q _ rfl rfl rfl (v_move rfl rfl) ?_
    refine o_q _ rfl rfl rfl (v_extract rfl rfl rfl) ?_
    refine o_q _ rfl rfl rfl (v_extract rfl rfl rfl) ?_
    refine o_alloc rfl inf29 rfl rfl rfl rfl rfl (fun b13 => ?_)
    refine o_st rfl inf29 rfl rfl rfl rfl rfl rfl rfl rfl ?_
    refine o_q _ rfl rfl rfl (v_assign rfl rfl) ?_
    refine o_nil ?_
    with_reducible refine r_then ?_
    refine r_seq ?_
    refine r_region ?_
    refine o_q _ rfl rfl rfl (v_ldW rfl Tryd.underlying25 rfl inf25 rfl rfl) ?_
    refine o_q _ rfl rfl rfl (v_move rfl rfl) ?_
    refine o_q _ rfl rfl rfl (v_move rfl rfl) ?_
    refine o_q _ rfl rfl rfl (OpQ.fn (setl18_v D uo po uc pc who d hl1 hl2) rfl rfl SubRC.sub) ?_
    refine o_q _ rfl rfl rfl (v_move rfl rfl) ?_
    refine o_q _ rfl rfl rfl (v_extract rfl rfl rfl) ?_
    refine o_q _ rfl rfl rfl (v_extract rfl rfl rfl) ?_
    refine o_q _ rfl rfl rfl (v_assign rfl rfl) ?_
    refine o_q _ rfl rfl rfl (v_assign rfl rfl) ?_
    refine o_nil ?_
    with_reducible refine r_then ?_
    refine r_seq ?_
    refine r_region ?_
    refine o_q _ rfl rfl rfl (v_ldW rfl Tryd.underlying25 rfl inf25 rfl rfl) ?_
    refine o_q _ rfl rfl rfl (v_move rfl rfl) ?_
    refine o_q _ rfl rfl rfl (v_move rfl rfl) ?_
    refine o_q _ rfl rfl rfl (v_cast (v := .tuple #[i64 (setlB D who d).1, i64 (setlB D who d).2]) (OpQ.fn (setl19_v D uo po uc pc who d hl1 hl2) rfl rfl SubRC.sub) (by rw [setl_same])) ?_
    refine o_q _ rfl rfl rfl (v_move rfl rfl) ?_
    refine o_q _ rfl rfl rfl (v_extract rfl rfl rfl) ?_
    refine o_q _ rfl rfl rfl (v_extract rfl rfl rfl) ?_
    refine o_q _ rfl rfl rfl (v_assign rfl rfl) ?_
    refine o_q _ rfl rfl rfl (v_assign rfl rfl) ?_
    refine o_nil ?_
    with_reducible refine r_then ?_
    refine r_seq ?_
    refine r_region ?_
    refine o_q _ rfl rfl rfl (v_ldW rfl Tryd.underlying25 rfl inf25 rfl rfl) ?_
    refine o_q _ rfl rfl rfl (v_move rfl rfl) ?_
    refine o_q _ rfl rfl rfl (v_move rfl rfl) ?_
    refine o_q _ rfl rfl rfl (OpQ.fn (open20_v D uo po uc pc who d hl1 hl2) rfl rfl SubRC.sub) ?_
    refine o_q _ rfl rfl rfl (v_move rfl rfl) ?_
    refine o_q _ rfl rfl rfl (v_extract rfl rfl rfl) ?_
    refine o_q _ rfl rfl rfl (v_extract rfl rfl rfl) ?_
    refine o_q _ rfl rfl rfl (v_extract rfl rfl rfl) ?_
    refine o_q _ rfl rfl rfl (v_assign rfl rfl) ?_
    refine o_q _ rfl rfl rfl (v_assign rfl rfl) ?_
    refine o_q _ rfl rfl rfl (v_assign rfl rfl) ?_
    refine o_nil ?_
    with_reducible refine r_then ?_
    refine r_seq ?_
    refine r_region ?_
    refine o_q _ rfl rfl rfl (v_ldW rfl Tryd.underlying25 rfl inf25 rfl rfl) ?_
    refine o_q _ rfl rfl rfl (v_move rfl rfl) ?_
    refine o_q _ rfl rfl rfl (v_move rfl rfl) ?_
    refine o_q _ rfl rfl rfl (v_cast (v := .tuple #[i64 ((openB D who d).1.1 : Nat), i64 ((openB D who d).1.2 : Nat), i64 (openB D who d).2]) (OpQ.fn (open21_v D uo po uc pc who d hl1 hl2) rfl rfl SubRC.sub) (by rw [open_same])) ?_
    refine o_q _ rfl rfl rfl (v_move rfl rfl) ?_
    refine o_q _ rfl rfl rfl (v_extract rfl rfl rfl) ?_
    refine o_q _ rfl rfl rfl (v_extract rfl rfl rfl) ?_
    refine o_q _ rfl rfl rfl (v_extract rfl rfl rfl) ?_
    refine o_q _ rfl rfl rfl (v_assign rfl rfl) ?_
    refine o_q _ rfl rfl rfl (v_assign rfl rfl) ?_
    refine o_q _ rfl rfl rfl (v_assign rfl rfl) ?_
    refine o_nil ?_
    with_reducible refine r_then ?_
    refine r_seq ?_
    refine r_region ?_
    refine o_q _ rfl rfl rfl (v_ldW rfl Tryd.underlying25 rfl inf25 rfl rfl) ?_
    refine o_q _ rfl rfl rfl (v_move rfl rfl) ?_
    refine o_q _ rfl rfl rfl (v_move rfl rfl) ?_
    refine o_q _ rfl rfl rfl (OpQ.fn (need22_v D uo po uc pc who d hl1 hl2) rfl rfl SubRC.sub) ?_
    refine o_q _ rfl rfl rfl (v_move rfl rfl) ?_
    refine o_q _ rfl rfl rfl (v_extract rfl rfl rfl) ?_
    refine o_q _ rfl rfl rfl (v_extract rfl rfl rfl) ?_
    refine o_q _ rfl rfl rfl (v_assign rfl rfl) ?_
    refine o_q _ rfl rfl rfl (v_assign rfl rfl) ?_
    refine o_nil ?_
    with_reducible refine r_then ?_
    refine r_seq ?_
    refine r_region ?_
    refine o_q _ rfl rfl rfl (v_ldW rfl Tryd.underlying25 rfl inf25 rfl rfl) ?_
    refine o_q _ rfl rfl rfl (v_move rfl rfl) ?_
    refine o_q _ rfl rfl rfl (v_move rfl rfl) ?_
    refine o_q _ rfl rfl rfl (v_cast (v := .tuple #[i64 (needB D who d).1, i64 (needB D who d).2]) (OpQ.fn (need23_v D uo po uc pc who d hl1 hl2) rfl rfl SubRC.sub) (by rw [need_same])) ?_
    refine o_q _ rfl rfl rfl (v_move rfl rfl) ?_
    refine o_q _ rfl rfl rfl (v_extract rfl rfl rfl) ?_
    refine o_q _ rfl rfl rfl (v_extract rfl rfl rfl) ?_
    refine o_q _ rfl rfl rfl (v_assign rfl rfl) ?_
    refine o_q _ rfl rfl rfl (v_assign rfl rfl) ?_
    refine o_nil ?_
    with_reducible refine r_then ?_
    refine r_seq ?_
    refine Imp.box_to b7 [i64 (leftB D who d).1.lo, i64 (leftB D who d).1.hi] rfl ?_
    refine Imp.box_to b9 [i64 (leftB D who d).1.lo, i64 (leftB D who d).1.hi] rfl ?_
    refine Imp.box_to b11 [i64 (aheadB D who d).1.lo, i64 (aheadB D who d).1.hi] rfl ?_
    refine Imp.box_to b13 [i64 (aheadB D who d).1.lo, i64 (aheadB D who d).1.hi] rfl ?_
    refine r_region ?_
    refine o_q _ rfl rfl rfl (v_ldW rfl Tryd.underlying29 rfl inf29 rfl rfl) ?_
    refine o_q _ rfl rfl rfl (v_ldW rfl Tryd.underlying29 rfl inf29 rfl rfl) ?_
    refine o_q _ rfl rfl rfl (v_cast (v := .bool true) (v_eqP rfl rfl rfl guard29 (eq29 _ _ _ _)) (congrArg Value.bool (decide_eq_true rfl))) ?_
    refine o_q _ rfl rfl rfl (v_move rfl rfl) ?_
    refine o_g _ rfl rfl rfl rfl (v_move rfl rfl) ?_
    refine o_g _ rfl rfl rfl rfl (v_move rfl rfl) ?_
    refine o_g _ rfl rfl rfl rfl (v_cast (v := .bool true) (v_eql rfl rfl rfl) (congrArg Value.bool (decide_eq_true rfl))) ?_
    refine o_q _ rfl rfl rfl (v_pick_t rfl rfl rfl) ?_
    refine o_q _ rfl rfl rfl (v_move rfl rfl) ?_
    refine o_g _ rfl rfl rfl rfl (v_ldW rfl Tryd.underlying29 rfl inf29 rfl rfl) ?_
    refine o_g _ rfl rfl rfl rfl (v_ldW rfl Tryd.underlying29 rfl inf29 rfl rfl) ?_
    refine o_g _ rfl rfl rfl rfl (v_cast (v := .bool true) (v_eqP rfl rfl rfl guard29 (eq29 _ _ _ _)) (congrArg Value.bool (decide_eq_true rfl))) ?_
    refine o_q _ rfl rfl rfl (v_pick_t rfl rfl rfl) ?_
    refine o_q _ rfl rfl rfl (v_move rfl rfl) ?_
    refine o_g _ rfl rfl rfl rfl (v_move rfl rfl) ?_
    refine o_g _ rfl rfl rfl rfl (v_move rfl rfl) ?_
    refine o_g _ rfl rfl rfl rfl (v_cast (v := .bool true) (v_eql rfl rfl rfl) (congrArg Value.bool (decide_eq_true rfl))) ?_
    refine o_q _ rfl rfl rfl (v_pick_t rfl rfl rfl) ?_
    refine o_q _ rfl rfl rfl (v_move rfl rfl) ?_
    refine o_g _ rfl rfl rfl rfl (v_move rfl rfl) ?_
    refine o_g _ rfl rfl rfl rfl (v_move rfl rfl) ?_
    refine o_g _ rfl rfl rfl rfl (v_cast (v := .bool true) (v_eql rfl rfl rfl) (congrArg Value.bool (decide_eq_true rfl))) ?_
    refine o_q _ rfl rfl rfl (v_pick_t rfl rfl rfl) ?_
    refine o_q _ rfl rfl rfl (v_move rfl rfl) ?_
    refine o_g _ rfl rfl rfl rfl (v_move rfl rfl) ?_
    refine o_g _ rfl rfl rfl rfl (v_move rfl rfl) ?_
    refine o_g _ rfl rfl rfl rfl (v_cast (v := .bool true) (v_eql rfl rfl rfl) (congrArg Value.bool (decide_eq_true rfl))) ?_
    refine o_q _ rfl rfl rfl (v_pick_t rfl rfl rfl) ?_
    refine o_q _ rfl rfl rfl (v_move rfl rfl) ?_
    refine o_g _ rfl rfl rfl rfl (v_move rfl rfl) ?_
    refine o_g _ rfl rfl rfl rfl (v_move rfl rfl) ?_
    refine o_g _ rfl rfl rfl rfl (v_cast (v := .bool true) (v_eql rfl rfl rfl) (congrArg Value.bool (decide_eq_true rfl))) ?_
    refine o_q _ rfl rfl rfl (v_pick_t rfl rfl rfl) ?_
    refine o_q _ rfl rfl rfl (v_move rfl rfl) ?_
    refine o_g _ rfl rfl rfl rfl (v_move rfl rfl) ?_
    refine o_g _ rfl rfl rfl rfl (v_move rfl rfl) ?_
    refine o_g _ rfl rfl rfl rfl (v_cast (v := .bool true) (v_eql rfl rfl rfl) (congrArg Value.bool (decide_eq_true rfl))) ?_
    refine o_q _ rfl rfl rfl (v_pick_t rfl rfl rfl) ?_
    refine o_q _ rfl rfl rfl (v_move rfl rfl) ?_
    refine o_g _ rfl rfl rfl rfl (v_move rfl rfl) ?_
    refine o_g _ rfl rfl rfl rfl (v_move rfl rfl) ?_
    refine o_g _ rfl rfl rfl rfl (v_cast (v := .bool true) (v_eql rfl rfl rfl) (congrArg Value.bool (decide_eq_true rfl))) ?_
    refine o_q _ rfl rfl rfl (v_pick_t rfl rfl rfl) ?_
    refine o_q _ rfl rfl rfl (v_move rfl rfl) ?_
    refine o_g _ rfl rfl rfl rfl (v_move rfl rfl) ?_
    refine o_g _ rfl rfl rfl rfl (v_move rfl rfl) ?_
    refine o_g _ rfl rfl rfl rfl (v_cast (v := .bool true) (v_eql rfl rfl rfl) (congrArg Value.bool (decide_eq_true rfl))) ?_
    refine o_q _ rfl rfl rfl (v_pick_t rfl rfl rfl) ?_
    refine o_q _ rfl rfl rfl (v_move rfl rfl) ?_
    refine o_g _ rfl rfl rfl rfl (v_move rfl rfl) ?_
    refine o_g _ rfl rfl rfl rfl (v_move rfl rfl) ?_
    refine o_g _ rfl rfl rfl rfl (v_cast (v := .bool true) (v_eql rfl rfl rfl) (congrArg Value.bool (decide_eq_true rfl))) ?_
    refine o_q _ rfl rfl rfl (v_pick_t rfl rfl rfl) ?_
    refine o_q _ rfl rfl rfl (v_move rfl rfl) ?_
    refine o_g _ rfl rfl rfl rfl (OpQ.fn awake_v rfl rfl SubRC.sub) ?_
    refine o_q _ rfl rfl rfl (v_pick_t rfl rfl rfl) ?_
    refine o_q _ rfl rfl rfl (v_assign rfl rfl) ?_
    refine o_nil ?_
    with_reducible refine r_then ?_
    refine r_ret ?_
    exact r_retv2 (Rd.tmp rfl rfl) rfl SelMC.sel SubRC.sub
theorem reads_v (who d : Int) : FnV Tryd.prog 3 [valD D uo po uc pc, i64 who, i64 d] [rowD uo 5 encD D.dues, rowD po 4 encP D.paid, rowD (some ⟨0, 0, none⟩) 1 encE ([0, 1] : List Nat)] (.bool true) := by
  by_cases h : farD D
  · exact reads_far D uo po uc pc who d h
  · exact reads_ok D uo po uc pc who d h
end Go.Proofs.YtpfgiednfjfdmaaDoor

