/- Part 5 of 5 of what the proofs of this seat stand on: a small logic for walks, what the functions come to, and the walks themselves. No condition of its own. -/
import Derived.Test.YtpndeonmmcaikaaL4
import Derived.Test.YtpndeonmmcaikaaL2
import Derived.Test.YtpndeonmmcaikaaL1
import Derived.Test.YtpndeonmmcaikaaL3
import Derived.Test.YtpndeonmmcaikaaRows
set_option linter.unusedVariables false
set_option linter.unusedSimpArgs false
set_option linter.unusedSectionVars false
namespace Foot4
open Go Go.G
theorem bestG {α : Type} {bt : α → α → Bool} {z : α} {key : α → Int} (hbt : ∀ x y, bt x y = decide (key y < key x)) {l : List α} : ∀ k, 0 < k → k ≤ l.length →
    ∃ i, i < k ∧ l.getD i z = best1 bt z l k ∧ (∀ j, j < k → key (l.getD j z) ≤ key (best1 bt z l k)) ∧ (∀ j, j < i → key (l.getD j z) < key (best1 bt z l k))
  | 0, h, _ => by omega
  | k + 1, _, hl => by
    by_cases h0 : k = 0
    · subst h0
      rw [best1_yes (.inl rfl)]
      refine ⟨0, by omega, rfl, fun j hj => ?_, fun j hj => by omega⟩
      obtain rfl : j = 0 := by omega
      exact Int.le_refl _
    · obtain ⟨i, hi, he, ha, hb⟩ := bestG hbt (l := l) (z := z) k (by omega) (by omega)
      by_cases hs : key (best1 bt z l k) < key (l.getD k z)
      · rw [best1_yes (.inr (by rw [hbt]; exact decide_eq_true hs))]
        refine ⟨k, by omega, rfl, fun j hj => ?_, fun j hj => ?_⟩
        · by_cases e : j = k
          · subst e; exact Int.le_refl _
          · have := ha j (by omega); omega
        · have := ha j (by omega); omega
      · rw [best1_no h0 (by rw [hbt]; exact fun x => hs (of_decide_eq_true x))]
        refine ⟨i, by omega, he, fun j hj => ?_, hb⟩
        by_cases e : j = k
        · subst e; omega
        · exact ha j (by omega)
def wholeB' (p : T3) : Prop := 0 ≤ p.a ∧ 0 ≤ p.b ∧ 0 ≤ p.c
instance (p : T3) : Decidable (wholeB' p) := by unfold wholeB'; infer_instance
/-- Plans for the r heaps that are left are right, so many steps being on each day already. -/
def Right (F : Work) (men : Int) : Nat → List Int → List T3 → Prop
  | 0, _, Q => Q = []
  | r + 1, B, Q => ∃ p Q', Q = p :: Q' ∧ IsPlan F.rain.length p ∧ keptF selW F (F.heaps.length - (r + 1)) p ∧ (∀ j, j < 3 → 0 ≤ p.at j → B.getD (p.at j).toNat 0 < men) ∧ Right F men r (with_ B p) Q'
def total (F : Work) : Nat → List T3 → Int
  | 0, _ => 0
  | r + 1, Q => (if wholeB' (Q.headD default) then (F.heaps.getD (F.heaps.length - (r + 1)) default).sods else 0) + total F r Q.tail
def bl (F : Work) (men : Int) : Nat → List Int → List T3
  | 0, _ => []
  | r + 1, B => (bestW F men (r + 1) B).plan :: bl F men r (with_ B (bestW F men (r + 1) B).plan)
def lexL : List T3 → List T3 → Prop
  | a :: l, b :: q => lex a b ∨ a = b ∧ lexL l q
  | [], _ => True
  | _, [] => False
def leB (B B' : List Int) : Prop := ∀ d : Int, 0 ≤ d ∧ d ≤ 7 → B.getD d.toNat 0 ≤ B'.getD d.toNat 0
theorem plan_at7 {n : Nat} (hn : n ≤ 8) {p : T3} (h : IsPlan n p) {k : Nat} (hk : k < 3) : p.at k ≤ 7 := by have := h.1 k hk; omega
theorem with_at {n : Nat} (hn : n ≤ 8) {B : List Int} (hB : B.length = 8) {p : T3} (h : IsPlan n p) {d : Int} (hd : 0 ≤ d ∧ d ≤ 7) : (with_ B p).getD d.toNat 0 = B.getD d.toNat 0 + cnt p d 3 :=
  withTo_at hB hd (fun _ hk => plan_at7 hn h hk) 3 (Nat.le_refl _)
theorem leB_with {n : Nat} (hn : n ≤ 8) {B B' : List Int} (hB : B.length = 8) (hB' : B'.length = 8) {p : T3} (h : IsPlan n p) (hl : leB B B') : leB (with_ B p) (with_ B' p) := fun d hd => by
  rw [with_at hn hB h hd, with_at hn hB' h hd]
  have := hl d hd; omega
theorem leB_self {n : Nat} (hn : n ≤ 8) {B : List Int} (hB : B.length = 8) {p : T3} (h : IsPlan n p) : leB B (with_ B p) := fun d hd => by
  rw [with_at hn hB h hd]
  have := cnt_bd p d 3; omega
theorem Right.anti {F : Work} (hn : F.rain.length ≤ 8) {men : Int} : ∀ {r : Nat} {B B' : List Int} {Q : List T3}, B.length = 8 → B'.length = 8 → leB B B' → Right F men r B' Q → Right F men r B Q
  | 0, _, _, _, _, _, _, h => h
  | r + 1, B, B', Q, h1, h2, hl, ⟨p, Q', e, hp, hk, hf, hr⟩ => by
    refine ⟨p, Q', e, hp, hk, fun j hj h0 => ?_, Right.anti hn (by rw [with_len, h1]) (by rw [with_len, h2]) (leB_with hn h1 h2 hp hl) hr⟩
    have := hf j hj h0
    have := hl (p.at j) ⟨h0, plan_at7 hn hp hj⟩
    omega
theorem with_none {B : List Int} : with_ B noneT = B := by
  unfold with_
  simp only [withTo]
  rfl
theorem Right.len {F : Work} {men : Int} : ∀ {r : Nat} {B : List Int} {Q : List T3}, Right F men r B Q → Q.length = r
  | 0, _, _, h => by
    have h : _ = [] := h
    rw [h]; rfl
  | r + 1, _, _, ⟨p, Q', e, _, _, _, hr⟩ => by rw [e, List.length_cons, hr.len]
theorem none_lt {n : Nat} {p : T3} (h : IsPlan n p) (hne : p ≠ noneT) : lex noneT p := by
  have h1 := ord1.1 h.2.2.1
  have h2 := ord2.1 h.2.2.2
  have g0 : -1 ≤ p.a ∧ _ := h.1 0 (by omega)
  have g1 : -1 ≤ p.b ∧ _ := h.1 1 (by omega)
  have g2 : -1 ≤ p.c ∧ _ := h.1 2 (by omega)
  obtain ⟨a, b, c⟩ := p
  dsimp only at *
  show (-1 : Int) < a ∨ (-1 : Int) = a ∧ ((-1 : Int) < b ∨ (-1 : Int) = b ∧ (-1 : Int) < c)
  by_cases e : a = -1
  · have e2 : b = -1 := by omega
    have e3 : c = -1 := by omega
    subst e e2 e3
    exact absurd rfl hne
  · exact .inl (by omega)
theorem free_iff {men : Int} {B : List Int} {p : T3} (hw : wholeB' p) : freeB men B p = true ↔ ∀ j, j < 3 → 0 ≤ p.at j → B.getD (p.at j).toNat 0 < men := by
  unfold freeB
  simp only [List.any_cons, List.any_nil, Bool.or_false, Bool.not_eq_true', Bool.or_eq_false_iff, decide_eq_false_iff_not]
  constructor
  · rintro ⟨h0, h1, h2⟩ j hj _
    obtain rfl | rfl | rfl : j = 0 ∨ j = 1 ∨ j = 2 := by omega
    · show B.getD p.a.toNat 0 < men; omega
    · show B.getD p.b.toNat 0 < men; omega
    · show B.getD p.c.toNat 0 < men; omega
  · intro h
    have h0 : B.getD p.a.toNat 0 < men := h 0 (by omega) hw.1
    have h1 : B.getD p.b.toNat 0 < men := h 1 (by omega) hw.2.1
    have h2 : B.getD p.c.toNat 0 < men := h 2 (by omega) hw.2.2
    exact ⟨by omega, by omega, by omega⟩
end Foot4


namespace Foot4
open Go Go.G
abbrev wsF (F : Work) (men : Int) (r : Nat) (B : List Int) : List Way := waysW F men (F.heaps.length - (r + 1)) B (fun C => (bestW F men r C).sods) (sureF selW F (F.heaps.length - (r + 1)))
theorem ws_mem {F : Work} {men : Int} {r : Nat} {B : List Int} {w : Way} (h : w ∈ wsF F men r B) : (w = ⟨(bestW F men r B).sods, noneT⟩) ∨ ∃ p, w = ⟨(F.heaps.getD (F.heaps.length - (r + 1)) default).sods + (bestW F men r (with_ B p)).sods, p⟩ ∧ p ∈ sureF selW F (F.heaps.length - (r + 1)) ∧ freeB men B p = true := by
  rcases List.mem_cons.1 h with e | h
  · exact .inl e
  · obtain ⟨p, hp, e⟩ := List.mem_map.1 h
    have := List.mem_filter.1 hp
    exact .inr ⟨p, e.symm, this.1, this.2⟩
theorem none_kept (F : Work) (heap : Nat) : keptF selW F heap noneT := ⟨.inl (by decide), .inl (by decide), .inl (by decide)⟩
theorem bl_right {F : Work} (hg : GoodF F) {men : Int} : ∀ (r : Nat) (B : List Int), Right F men r B (bl F men r B) ∧ total F r (bl F men r B) = (bestW F men r B).sods
  | 0, _ => ⟨rfl, rfl⟩
  | r + 1, B => by
    have hm := wayL_mem (l := wsF F men r B) (by simp [wsF, waysW])
    have hb : bestW F men (r + 1) B = wayL (wsF F men r B) := rfl
    rw [← hb] at hm
    have h8 := hg.1
    show (∃ p Q', _ :: _ = p :: Q' ∧ _) ∧ (if wholeB' (bestW F men (r + 1) B).plan then _ else 0) + total F r (bl F men r (with_ B (bestW F men (r + 1) B).plan)) = _
    rcases ws_mem hm with e | ⟨p, e, hp, hf⟩
    · have ih := bl_right hg (men := men) r B
      rw [e]
      refine ⟨⟨_, _, rfl, none_plan _ (by omega), none_kept _ _, fun j hj h0 => ?_, ?_⟩, ?_⟩
      · obtain rfl | rfl | rfl : j = 0 ∨ j = 1 ∨ j = 2 := by omega
        all_goals (have h0 : (0 : Int) ≤ -1 := h0; omega)
      · show Right F men r (with_ B noneT) (bl F men r (with_ B noneT))
        rw [with_none]; exact ih.1
      · show (if wholeB' noneT then _ else 0) + total F r (bl F men r (with_ B noneT)) = (bestW F men r B).sods
        rw [if_neg (by decide), with_none, ih.2]; omega
    · have ih := bl_right hg (men := men) r (with_ B p)
      have hps := List.mem_filter.1 hp
      have hpl := whole_plan' hps.1
      rw [e]
      refine ⟨⟨_, _, rfl, hpl.1, by simpa [keptB] using hps.2, (free_iff hpl.2).1 hf, ih.1⟩, ?_⟩
      show (if wholeB' p then _ else 0) + total F r (bl F men r (with_ B p)) = _
      rw [if_pos (show wholeB' p from hpl.2), ih.2]
theorem best_opt {F : Work} (hg : GoodF F) {men : Int} : ∀ (r : Nat) (B : List Int) (Q : List T3), B.length = 8 → Right F men r B Q → total F r Q ≤ (bestW F men r B).sods ∧ (total F r Q = (bestW F men r B).sods → lexL (bl F men r B) Q)
  | 0, _, _, _, h => by
    have h : _ = [] := h
    subst h
    exact ⟨Int.le_refl _, fun _ => trivial⟩
  | r + 1, B, _, hB, ⟨p, Q, rfl, hp, hk, hf, hr⟩ => by
    have h8 := hg.1
    have hn : F.rain.length ≤ 8 := by omega
    have hpos : 0 < (wsF F men r B).length := by simp [wsF, waysW]
    obtain ⟨i, hi, he, ha, hb⟩ := bestG (bt := more) (z := default) (key := Way.sods) (fun _ _ => rfl) (l := wsF F men r B) _ hpos (Nat.le_refl _)
    have hw : best1 more default (wsF F men r B) (wsF F men r B).length = bestW F men (r + 1) B := rfl
    rw [hw] at he ha hb
    have hget : ∀ j, j < (wsF F men r B).length → (wsF F men r B)[j]? = some ((wsF F men r B).getD j default) := fun j hj => by simp [hj]
    have h0 : (wsF F men r B).getD 0 default = ⟨(bestW F men r B).sods, noneT⟩ := rfl
    by_cases hwp : wholeB' p
    · -- a whole plan
      have ih := best_opt hg (men := men) r (with_ B p) Q (by rw [with_len, hB]) hr
      have hps : p ∈ sureF selW F (F.heaps.length - (r + 1)) := sure_of hp hwp hk
      have hfr := (free_iff hwp).2 hf
      have htot : total F (r + 1) (p :: Q) = (F.heaps.getD (F.heaps.length - (r + 1)) default).sods + total F r Q := by
        show (if wholeB' p then _ else 0) + total F r Q = _
        rw [if_pos hwp]
      have hmw : (⟨(F.heaps.getD (F.heaps.length - (r + 1)) default).sods + (bestW F men r (with_ B p)).sods, p⟩ : Way) ∈ wsF F men r B :=
        List.mem_cons_of_mem _ (List.mem_map.2 ⟨p, List.mem_filter.2 ⟨hps, hfr⟩, rfl⟩)
      obtain ⟨j, hj⟩ := List.mem_iff_getElem?.1 hmw
      have hjl := (List.getElem?_eq_some_iff.1 hj).1
      have hje := Option.some.inj ((hget j hjl).symm.trans hj)
      have h1 := ha j hjl
      rw [hje] at h1
      have h1 : (F.heaps.getD (F.heaps.length - (r + 1)) default).sods + (bestW F men r (with_ B p)).sods ≤ (bestW F men (r + 1) B).sods := h1
      refine ⟨by rw [htot]; omega, fun heq => ?_⟩
      rw [htot] at heq
      have hsame : (F.heaps.getD (F.heaps.length - (r + 1)) default).sods + (bestW F men r (with_ B p)).sods = (bestW F men (r + 1) B).sods := by omega
      have hij : i ≤ j := by
        rcases Nat.lt_or_ge j i with h | h
        · have := hb j h
          rw [hje] at this
          have : (F.heaps.getD (F.heaps.length - (r + 1)) default).sods + (bestW F men r (with_ B p)).sods < (bestW F men (r + 1) B).sods := this
          omega
        · exact h
      show lex _ p ∨ _ = p ∧ _
      by_cases e : i = j
      · right
        subst e
        have e2 : (bestW F men (r + 1) B).plan = p := by rw [← he, hje]
        rw [e2]
        exact ⟨rfl, ih.2 (by omega)⟩
      · left
        -- the ways' plans stand in order
        have hso : (wsF F men r B).Pairwise (fun v w => lex v.plan w.plan ∨ True ∧ v.plan = noneT ∧ wholeB' w.plan) := by
          show List.Pairwise _ (_ :: _)
          rw [List.pairwise_cons]
          refine ⟨fun w hwm => ?_, ?_⟩
          · obtain ⟨q, hq, rfl⟩ := List.mem_map.1 hwm
            exact .inr ⟨trivial, rfl, (whole_plan' (List.mem_filter.1 (List.mem_filter.1 hq).1).1).2⟩
          · rw [List.pairwise_map]
            exact (((whole_sorted _).filter _).filter _).imp fun h => .inl h
        obtain ⟨l1, g1⟩ := List.getElem?_eq_some_iff.1 (hget i hi)
        obtain ⟨l2, g2⟩ := List.getElem?_eq_some_iff.1 hj
        have := List.pairwise_iff_getElem.1 hso i j l1 l2 (by omega)
        rw [g1, g2, he] at this
        rcases this with h | ⟨_, h2, h3⟩
        · exact h
        · rw [h2]
          refine none_lt hp (fun e => ?_)
          subst e
          have h3 : wholeB' noneT := h3
          exact absurd h3 (by decide)
    · -- no whole plan: the heap is not clamped
      have htot : total F (r + 1) (p :: Q) = total F r Q := by
        show (if wholeB' p then _ else 0) + total F r Q = _
        rw [if_neg hwp]; omega
      have hr' : Right F men r B Q := Right.anti hn hB (by rw [with_len, hB]) (leB_self hn hB hp) hr
      have ih := best_opt hg (men := men) r B Q hB hr'
      have h1 := ha 0 hpos
      rw [h0] at h1
      have h1 : (bestW F men r B).sods ≤ (bestW F men (r + 1) B).sods := h1
      refine ⟨by rw [htot]; omega, fun heq => ?_⟩
      rw [htot] at heq
      have hi0 : i = 0 := by
        rcases Nat.eq_zero_or_pos i with h | h
        · exact h
        · have := hb 0 h
          rw [h0] at this
          have : (bestW F men r B).sods < (bestW F men (r + 1) B).sods := this
          omega
      subst hi0
      rw [h0] at he
      have e2 : (bestW F men (r + 1) B).plan = noneT := by rw [← he]
      show lex _ p ∨ _ = p ∧ lexL (bl F men r (with_ B (bestW F men (r + 1) B).plan)) Q
      rw [e2]
      by_cases hpn : p = noneT
      · right
        refine ⟨hpn.symm, ?_⟩
        rw [with_none]
        exact ih.2 (by omega)
      · exact .inl (none_lt hp hpn)
end Foot4


namespace Foot4
open Go Go.G
theorem stW_bl (F : Work) (men : Int) : ∀ k, k ≤ F.heaps.length → (stW F men k).2 ++ bl F men (F.heaps.length - k) (stW F men k).1 = bl F men F.heaps.length zeros
  | 0, _ => by simp [stW]
  | k + 1, hk => by
    have ih := stW_bl F men k (by omega)
    rw [← ih]
    obtain ⟨r, hr⟩ : ∃ r, F.heaps.length - k = r + 1 := ⟨F.heaps.length - (k + 1), by omega⟩
    have hr' : F.heaps.length - (k + 1) = r := by omega
    rw [hr', hr]
    simp only [stW, bl, hr, List.append_assoc, List.singleton_append]
theorem stW_all (F : Work) (men : Int) : (stW F men F.heaps.length).2 = bl F men F.heaps.length zeros := by
  have := stW_bl F men F.heaps.length (Nat.le_refl _)
  simpa [bl] using this
theorem right_of {F : Work} {men : Int} {l : List T3} (hl : l.length = F.heaps.length)
    (h : ∀ h, h < F.heaps.length → IsPlan F.rain.length (l.getD h default) ∧ keptF selW F h (l.getD h default) ∧ ∀ j, j < 3 → 0 ≤ (l.getD h default).at j → (busyTo l h).getD ((l.getD h default).at j).toNat 0 < men) :
    ∀ r, r ≤ F.heaps.length → Right F men r (busyTo l (F.heaps.length - r)) (l.drop (F.heaps.length - r))
  | 0, _ => by
    show l.drop (F.heaps.length - 0) = []
    rw [Nat.sub_zero, ← hl]; simp
  | r + 1, hr => by
    have ih := right_of hl h r (by omega)
    have hk := h (F.heaps.length - (r + 1)) (by omega)
    have hlt : F.heaps.length - (r + 1) < l.length := by omega
    have e : l.drop (F.heaps.length - (r + 1)) = l.getD (F.heaps.length - (r + 1)) default :: l.drop (F.heaps.length - r) := by
      rw [List.drop_eq_getElem_cons hlt, show F.heaps.length - (r + 1) + 1 = F.heaps.length - r from by omega]
      simp [hlt]
    refine ⟨_, _, e, hk.1, hk.2.1, hk.2.2, ?_⟩
    rw [show F.heaps.length - r = (F.heaps.length - (r + 1)) + 1 from by omega] at ih
    have e2 : F.heaps.length - r = (F.heaps.length - (r + 1)) + 1 := by omega
    rw [e2]
    exact ih
theorem of_right {F : Work} {men : Int} {l : List T3} (hl : l.length = F.heaps.length) : ∀ r, r ≤ F.heaps.length → Right F men r (busyTo l (F.heaps.length - r)) (l.drop (F.heaps.length - r)) →
    ∀ h, F.heaps.length - r ≤ h → h < F.heaps.length → IsPlan F.rain.length (l.getD h default) ∧ keptF selW F h (l.getD h default) ∧ ∀ j, j < 3 → 0 ≤ (l.getD h default).at j → (busyTo l h).getD ((l.getD h default).at j).toNat 0 < men
  | 0, _, _, h, h1, h2 => by omega
  | r + 1, hr, hR, h, h1, h2 => by
    have hlt : F.heaps.length - (r + 1) < l.length := by omega
    have e : l.drop (F.heaps.length - (r + 1)) = l.getD (F.heaps.length - (r + 1)) default :: l.drop (F.heaps.length - r) := by
      rw [List.drop_eq_getElem_cons hlt, show F.heaps.length - (r + 1) + 1 = F.heaps.length - r from by omega]
      simp [hlt]
    obtain ⟨p, Q, e1, hp, hk, hf, hr'⟩ := hR
    rw [e] at e1
    obtain ⟨rfl, rfl⟩ := List.cons.inj e1
    by_cases he : h = F.heaps.length - (r + 1)
    · subst he; exact ⟨hp, hk, hf⟩
    · refine of_right hl r (by omega) ?_ h (by omega) h2
      have e2 : F.heaps.length - r = (F.heaps.length - (r + 1)) + 1 := by omega
      rw [e2] at hr' ⊢
      exact hr'
theorem rule_parts {F : Work} {l : List T3} {h i : Nat} : ruleP F l h i = 0 ↔ (l.getD h default).at i < 0 ∨ (Ordered (l.getD h default) i ∧ canF selW F h (l.getD h default) i ∧ (busyTo l h).getD ((l.getD h default).at i).toNat 0 < F.men) := by
  unfold ruleP
  by_cases h0 : (l.getD h default).at i < 0
  · rw [if_pos h0]; exact ⟨fun _ => .inl h0, fun _ => rfl⟩
  · rw [if_neg h0]
    by_cases h1 : Ordered (l.getD h default) i
    · rw [if_neg (fun x => x h1)]
      by_cases h2 : canF selW F h (l.getD h default) i
      · rw [if_neg (fun x => x h2)]
        by_cases h3 : F.men ≤ (busyTo l h).getD ((l.getD h default).at i).toNat 0
        · rw [if_pos h3]
          exact ⟨fun x => absurd x (by decide), fun x => by
            rcases x with x | x
            · exact absurd x h0
            · have := x.2.2; omega⟩
        · rw [if_neg h3]; exact ⟨fun _ => .inr ⟨h1, h2, by omega⟩, fun _ => rfl⟩
      · rw [if_pos h2]
        exact ⟨fun x => absurd x (by decide), fun x => by
          rcases x with x | x
          · exact absurd x h0
          · exact absurd x.2.1 h2⟩
    · rw [if_pos h1]
      exact ⟨fun x => absurd x (by decide), fun x => by
        rcases x with x | x
        · exact absurd x h0
        · exact absurd x.1 h1⟩
theorem rules_right {F : Work} {l : List T3} (hl : ListOk F l) : (∀ h, h < F.heaps.length → ∀ i, i < 3 → ruleP F l h i = 0) ↔
    ∀ h, h < F.heaps.length → IsPlan F.rain.length (l.getD h default) ∧ keptF selW F h (l.getD h default) ∧ ∀ j, j < 3 → 0 ≤ (l.getD h default).at j → (busyTo l h).getD ((l.getD h default).at j).toNat 0 < F.men := by
  constructor
  · intro hr h hh
    have hd := hl.2 h (by have := hl.1; omega)
    have ho : ∀ i, i < 3 → Ordered (l.getD h default) i := fun i hi => by
      rcases rule_parts.1 (hr h hh i hi) with x | x
      · exact .inl x
      · exact x.1
    have hc : ∀ i, i < 3 → canF selW F h (l.getD h default) i := fun i hi => by
      rcases rule_parts.1 (hr h hh i hi) with x | x
      · exact .inl x
      · exact x.2.1
    refine ⟨⟨hd, ho 0 (by omega), ho 1 (by omega), ho 2 (by omega)⟩, ⟨hc 0 (by omega), hc 1 (by omega), hc 2 (by omega)⟩, fun j hj h0 => ?_⟩
    rcases rule_parts.1 (hr h hh j hj) with x | x
    · omega
    · exact x.2.2
  · intro hr h hh i hi
    obtain ⟨hp, hk, hf⟩ := hr h hh
    rw [rule_parts]
    by_cases h0 : (l.getD h default).at i < 0
    · exact .inl h0
    · refine .inr ⟨?_, ?_, hf i hi (by omega)⟩
      · obtain rfl | rfl | rfl : i = 0 ∨ i = 1 ∨ i = 2 := by omega
        · exact hp.2.1
        · exact hp.2.2.1
        · exact hp.2.2.2
      · obtain rfl | rfl | rfl : i = 0 ∨ i = 1 ∨ i = 2 := by omega
        · exact hk.1
        · exact hk.2.1
        · exact hk.2.2
end Foot4


namespace Foot4
open Go Go.G
theorem total_to {F : Work} {l : List T3} (hl : l.length = F.heaps.length) : ∀ r, r ≤ F.heaps.length → sodsTo F l (F.heaps.length - r) + total F r (l.drop (F.heaps.length - r)) = sodsTo F l F.heaps.length
  | 0, _ => by simp [total]
  | r + 1, hr => by
    have ih := total_to hl r (by omega)
    have hlt : F.heaps.length - (r + 1) < l.length := by omega
    have e : l.drop (F.heaps.length - (r + 1)) = l.getD (F.heaps.length - (r + 1)) default :: l.drop (F.heaps.length - r) := by
      rw [List.drop_eq_getElem_cons hlt, show F.heaps.length - (r + 1) + 1 = F.heaps.length - r from by omega]
      simp [hlt]
    rw [e]
    show _ + ((if wholeB' (l.getD (F.heaps.length - (r + 1)) default) then _ else 0) + total F r (l.drop (F.heaps.length - r))) = _
    rw [← ih, show F.heaps.length - r = (F.heaps.length - (r + 1)) + 1 from by omega]
    have e2 : sodsTo F l (F.heaps.length - (r + 1) + 1) = sodsTo F l (F.heaps.length - (r + 1)) + (if wholeB' (l.getD (F.heaps.length - (r + 1)) default) then (F.heaps.getD (F.heaps.length - (r + 1)) default).sods else 0) := rfl
    rw [e2]
    omega
theorem total_sods {F : Work} {l : List T3} (hl : l.length = F.heaps.length) : total F F.heaps.length l = sodsR F l := by
  have := total_to hl F.heaps.length (Nat.le_refl _)
  rw [Nat.sub_self] at this
  unfold sodsR
  rw [hl]
  simpa [sodsTo] using this
end Foot4


namespace Foot4
open Go Go.G
abbrev bestL (F : Work) : List T3 := (stW F F.men F.heaps.length).2
theorem bestL_len (F : Work) : (bestL F).length = F.heaps.length := (stW_len F F.men F.heaps.length).2
theorem bestL_right {F : Work} (hg : GoodF F) : ListOk F (bestL F) ∧ (∀ h, h < F.heaps.length → ∀ i, i < 3 → ruleP F (bestL F) h i = 0) ∧ sodsR F (bestL F) = bestS F F.men ∧ ∀ h, h < F.heaps.length → IsPlan F.rain.length ((bestL F).getD h default) ∧ keptF selW F h ((bestL F).getD h default) := by
  have h1 := bl_right hg (men := F.men) F.heaps.length zeros
  rw [← stW_all F F.men] at h1
  have h2 := of_right (men := F.men) (bestL_len F) F.heaps.length (Nat.le_refl _) (by rw [Nat.sub_self]; exact h1.1)
  have hok : ListOk F (bestL F) := ⟨by rw [bestL_len], fun k hk => (h2 k (by omega) (by rw [bestL_len] at hk; exact hk)).1.1⟩
  refine ⟨hok, (rules_right hok).2 (fun h hh => h2 h (by omega) hh), ?_, fun h hh => ⟨(h2 h (by omega) hh).1, (h2 h (by omega) hh).2.1⟩⟩
  rw [← total_sods (bestL_len F)]
  exact h1.2
theorem best_beats {F : Work} (hg : GoodF F) {l : List T3} (hl : ListOk F l) (hr : ∀ h, h < F.heaps.length → ∀ i, i < 3 → ruleP F l h i = 0) : sodsR F l ≤ bestS F F.men ∧ (sodsR F l = bestS F F.men → lexL (bestL F) l) := by
  have hlen : l.length = F.heaps.length := by have := hl.1; omega
  have h1 := right_of (men := F.men) hlen ((rules_right hl).1 hr) F.heaps.length (Nat.le_refl _)
  rw [Nat.sub_self] at h1
  have h2 := best_opt hg (men := F.men) F.heaps.length zeros l rfl h1
  rw [total_sods hlen] at h2
  rw [← stW_all F F.men] at h2
  exact h2
end Foot4


namespace Foot4
open Go Go.G
theorem t3_ext {p q : T3} (h : ∀ i, i < 3 → p.at i = q.at i) : p = q := by
  obtain ⟨a, b, c⟩ := p
  obtain ⟨d, e, f⟩ := q
  have h0 : a = d := h 0 (by omega)
  have h1 : b = e := h 1 (by omega)
  have h2 : c = f := h 2 (by omega)
  subst h0 h1 h2; rfl
end Foot4


namespace Foot4
open Go Go.G
def RightL (F : Work) (men : Int) (l : List T3) : Prop := l.length = F.heaps.length ∧ ∀ h, h < F.heaps.length → IsPlan F.rain.length (l.getD h default) ∧ keptF selW F h (l.getD h default) ∧ ∀ j, j < 3 → 0 ≤ (l.getD h default).at j → (busyTo l h).getD ((l.getD h default).at j).toNat 0 < men
theorem bestS_ge {F : Work} (hg : GoodF F) {men : Int} {l : List T3} (h : RightL F men l) : sodsR F l ≤ bestS F men := by
  have h1 := right_of (men := men) h.1 h.2 F.heaps.length (Nat.le_refl _)
  rw [Nat.sub_self] at h1
  have h2 := best_opt hg (men := men) F.heaps.length zeros l rfl h1
  rw [total_sods h.1] at h2
  exact h2.1
theorem bestS_att {F : Work} (hg : GoodF F) (men : Int) : ∃ l, RightL F men l ∧ sodsR F l = bestS F men := by
  have h1 := bl_right hg (men := men) F.heaps.length zeros
  rw [← stW_all F men] at h1
  have hlen := (stW_len F men F.heaps.length).2
  refine ⟨_, ⟨hlen, fun h hh => of_right hlen F.heaps.length (Nat.le_refl _) (by rw [Nat.sub_self]; exact h1.1) h (by omega) hh⟩, ?_⟩
  rw [← total_sods hlen]
  exact h1.2
end Foot4


namespace Foot4
open Go Go.G
structure Ease (F F' : Work) : Prop where
  good : GoodF F'
  men : F'.men = F.men
  rl : F'.rain.length = F.rain.length
  hl : F'.heaps.length = F.heaps.length
  rain : ∀ k, (F'.rain.getD k default).hi ≤ (F.rain.getD k default).hi
  heap : ∀ k, (F'.heaps.getD k default).hi ≤ (F.heaps.getD k default).hi
  sods : ∀ k, (F'.heaps.getD k default).sods = (F.heaps.getD k default).sods
  lim : ∀ k, F.lim.at k ≤ F'.lim.at k
  dr : ∀ k, F.dr.at k ≤ F'.dr.at k
theorem Ease.wet {F F' : Work} (h : Ease F F') (heap : Nat) (p : T3) : ∀ d, worstTo F' heap p d ≤ worstTo F heap p d
  | 0 => h.heap heap
  | d + 1 => by
    have ih := h.wet heap p d
    have h1 := h.rain d
    have h2 := h.dr (Done p d).toNat
    simp only [worstTo]
    split
    · unfold step; omega
    · exact ih
theorem Ease.kept {F F' : Work} (h : Ease F F') {heap : Nat} {p : T3} (hp : IsPlan F.rain.length p) (hk : keptF selW F heap p) : keptF selW F' heap p := by
  have hp' : IsPlan F'.rain.length p := by rw [h.rl]; exact hp
  have go : ∀ k, canF selW F heap p k → canF selW F' heap p k := fun k hc => by
    rw [(can_ok hp k).1] at hc
    rw [(can_ok hp' k).1]
    rcases hc with hc | hc
    · exact .inl hc
    · right
      have := h.wet heap p (p.at k).toNat
      have := h.lim k
      omega
  exact ⟨go 0 hk.1, go 1 hk.2.1, go 2 hk.2.2⟩
theorem Ease.sodsTo {F F' : Work} (h : Ease F F') (l : List T3) : ∀ k, sodsTo F' l k = sodsTo F l k
  | 0 => rfl
  | k + 1 => by simp only [Foot4.sodsTo, h.sodsTo l k, h.sods k]
theorem Ease.best {F F' : Work} (hg : GoodF F) (h : Ease F F') : bestS F F.men ≤ bestS F' F'.men := by
  obtain ⟨l, hl, he⟩ := bestS_att hg F.men
  rw [← he, h.men]
  have : sodsR F l = sodsR F' l := (h.sodsTo l _).symm
  rw [this]
  exact bestS_ge h.good ⟨by rw [hl.1, h.hl], fun k hk => by
    rw [h.hl] at hk
    obtain ⟨h1, h2, h3⟩ := hl.2 k hk
    exact ⟨by rw [h.rl]; exact h1, h.kept h1 h2, h3⟩⟩
theorem Ease.can {F F' : Work} (h : Ease F F') {heap : Nat} {p : T3} (hp : IsPlan F.rain.length p) (hk : keptP F heap p = 2) : keptP F' heap p = 2 := kept_2.2 (h.kept hp (kept_2.1 hk))
/-! ### heaps numbered otherwise -/
end Foot4


namespace Foot4
open Go Go.G
theorem broke_firstP {F : Work} {l : List T3} {x : Int × Int × Int × Int} (hg : GoodF F) (hl : ListOk F l) (h : BrokeP F l x) : First (ruleP F l) l.length x := by
  unfold BrokeP at h
  rwa [if_pos (by simp [chk, hg, hl])] at h
theorem broke_ok {F : Work} {l : List T3} {x : Int × Int × Int × Int} (hg : GoodF F) (hl : ListOk F l) (h : BrokeP F l x) (hr : ∀ h, h < F.heaps.length → ∀ i, i < 3 → ruleP F l h i = 0) : x = (0, 0, 0, 4) := by
  have hh : l.length = F.heaps.length := by have := hl.1; omega
  rcases broke_firstP hg hl h with ⟨h, i, h1, h2, h3, _⟩ | ⟨_, e⟩
  · exact absurd (hr h (by omega) i h2) h3
  · exact e
theorem bestL_ok {F : Work} (hg : GoodF F) {x : Int × Int × Int × Int} (h : BrokeP F (bestL F) x) : x = (0, 0, 0, 4) := broke_ok hg (bestL_right hg).1 h (bestL_right hg).2.1
end Foot4


namespace Go.Proofs.Ytpndeonmmcaikaa.FootW
open Go.G Foot4
set_option maxRecDepth 1000000
attribute [local irreducible] G.ParO G.Fin
variable (F : Work) (ro ho : Option Addr) (rc hc : Nat)
theorem EBest_s (hg : GoodF F) : FnS Try.prog 10 [valF F ro rc ho hc] [] [rowD ro 2 encS F.rain, rowD ho 3 encH F.heaps] (fun e M' R' => ∃ v, e = .returned (.tuple #[i64 (bestS F F.men), v, i64 0]) ∧ M' = [ownL v 55 3 encT (bestL F)] ∧ R' = []) := by
  have h := Best_s F ro ho rc hc (by have := hg.1; omega) (by have := hg.2.2.1; omega)
  rw [bestP_ok hg] at h; exact h
end Go.Proofs.Ytpndeonmmcaikaa.FootW


namespace Go.Proofs.Ytpndeonmmcaikaa
open Go.G Foot4 Sod2
set_option maxRecDepth 1000000
attribute [local irreducible] G.ParO G.Fin
set_option maxHeartbeats 4000000 in
theorem span04_v (a b : Int) : FnV Try.prog 19 [i64 a, i64 b] [] (.agg #[i64 a, i64 b]) := by
 refine FnV.intro Try.call19 Try.func19 rfl Try.ntmps19 rfl ?_
 intro W M Rf
 refine r_seq ?_
 refine r_region ?_
 refine o_alloc rfl inf42 rfl rfl rfl rfl rfl (fun b4 => ?_)
 refine o_nil ?_
 repeat (first | with_reducible refine r_then ?_ | with_reducible refine r_in_normal ?_ | with_reducible refine r_sc_normal ?_)
 refine r_seq ?_
 refine r_region ?_
 refine o_q _ rfl rfl rfl (v_move rfl rfl) ?_
 refine o_q _ rfl rfl rfl (v_move rfl rfl) ?_
 refine o_q _ rfl rfl rfl (v_bS rfl Try.underlying42 inf42 plt42 rfl rfl rfl (by repeat (first | exact trivial | refine ⟨rfl, ?_⟩)) (by rfl)) ?_
 refine o_st rfl inf42 rfl rfl rfl rfl rfl rfl rfl rfl ?_
 refine o_nil ?_
 repeat (first | with_reducible refine r_then ?_ | with_reducible refine r_in_normal ?_ | with_reducible refine r_sc_normal ?_)
 refine r_ret ?_
 repeat (first | with_reducible refine r_then_ret ?_ | with_reducible refine r_in_ret ?_ | with_reducible refine r_sc_ret ?_)
 exact r_retv2 (Rd.one rfl (RdI.cellW Try.underlying42 rfl inf42 rfl rfl)) rfl SelMC.sel SubRC.sub
def S04 : Bank := ⟨[⟨4, 2, 2⟩, ⟨3, 3, 4⟩], [⟨6, 8⟩, ⟨6, 8⟩, ⟨4, 10⟩], []⟩
theorem good_S04 : GoodS S04 := by decide +kernel
theorem can_S04 : canS S04 := by decide +kernel
theorem cut_S04 : cutP S04 1 = ⟨5, 6⟩ := by decide +kernel
@[reducible] def valS04 (po so : Option Addr) : Value := .agg #[.slice po 2 2, .slice so 3 3, .slice none 0 0]
set_option maxHeartbeats 4000000 in
theorem sod04_r  : FnR Try.prog 17 [] [] (fun v => ∃ po so, v = valS04 po so) (fun v => [rowD (adrAt v 0) 3 encSp S04.spits, rowD (adrAt v 1) 2 encS S04.days]) := by
 refine FnR.intro Try.call17 Try.func17 rfl Try.ntmps17 rfl ?_
 intro W M Rf
 refine r_seq ?_
 refine r_region ?_
 refine o_alloc rfl inf37 rfl rfl rfl rfl rfl (fun b0 => ?_)
 refine o_nil ?_
 repeat (first | with_reducible refine r_then ?_ | with_reducible refine r_in_normal ?_ | with_reducible refine r_sc_normal ?_)
 refine r_seq ?_
 refine r_region ?_
 refine o_q _ rfl rfl rfl (OpQ.fn (span04_v _ _) rfl rfl SubRC.sub) ?_
 refine o_q _ rfl rfl rfl (v_bS rfl Try.underlying67 inf67 plt67 rfl rfl rfl (by repeat (first | exact trivial | refine ⟨rfl, ?_⟩)) (by rfl)) ?_
 refine o_q _ rfl rfl rfl (OpQ.fn (span04_v _ _) rfl rfl SubRC.sub) ?_
 refine o_q _ rfl rfl rfl (v_bS rfl Try.underlying67 inf67 plt67 rfl rfl rfl (by repeat (first | exact trivial | refine ⟨rfl, ?_⟩)) (by rfl)) ?_
 refine o_lit rfl Try.underlying34 inf67 rfl rfl rfl rfl rfl rfl rfl rfl (by repeat (first | exact trivial | refine ⟨rfl, ?_⟩)) (by rfl) (fun b5 => ?_)
 refine o_q _ rfl rfl rfl (OpQ.fn (span04_v _ _) rfl rfl SubRC.sub) ?_
 refine o_q _ rfl rfl rfl (OpQ.fn (span04_v _ _) rfl rfl SubRC.sub) ?_
 refine o_q _ rfl rfl rfl (OpQ.fn (span04_v _ _) rfl rfl SubRC.sub) ?_
 refine o_lit rfl Try.underlying22 inf42 rfl rfl rfl rfl rfl rfl rfl rfl (by repeat (first | exact trivial | refine ⟨rfl, ?_⟩)) (by rfl) (fun b9 => ?_)
 refine o_q _ rfl rfl rfl (v_bSp rfl Try.underlying37 inf37 plt37 rfl rfl rfl (by repeat (first | exact trivial | refine ⟨rfl, ?_⟩)) (by show 2 ≤ 3; omega) (by rfl)) ?_
 refine o_st rfl inf37 rfl rfl rfl rfl rfl rfl rfl rfl ?_
 refine o_nil ?_
 repeat (first | with_reducible refine r_then ?_ | with_reducible refine r_in_normal ?_ | with_reducible refine r_sc_normal ?_)
 refine r_ret ?_
 repeat (first | with_reducible refine r_then_ret ?_ | with_reducible refine r_in_ret ?_ | with_reducible refine r_sc_ret ?_)
 refine Imp.box_to b0 [.slice (some ⟨b5, 0, none⟩) 2 2, .slice (some ⟨b9, 0, none⟩) 3 3, .slice none 0 0] rfl ?_
 refine Imp.sealB b5 ?_
 refine Imp.rowN (b := b5) S04.spits encSp_len rfl ?_
 refine Imp.sealB b9 ?_
 refine Imp.rowN (b := b9) S04.days encS_len rfl ?_
 exact r_retr (Rd.one rfl (RdI.cellW Try.underlying37 rfl inf37 rfl rfl)) ⟨some ⟨b5, 0, none⟩, some ⟨b9, 0, none⟩, rfl⟩ SelMC.sel (by show SubR _ ([rowD (some ⟨b5, 0, none⟩) 3 encSp S04.spits, rowD (some ⟨b9, 0, none⟩) 2 encS S04.days] ++ _); exact SubRC.sub)
set_option maxHeartbeats 4000000 in
theorem foot04_r  : FnR Try.prog 18 [] [] (fun v => ∃ ro ho, v = valF (sampleF 2) ro 6 ho 3) (fun v => [rowD (adrAt v 0) 2 encS (sampleF 2).rain, rowD (adrAt v 8) 3 encH (sampleF 2).heaps]) := by
 refine FnR.intro Try.call18 Try.func18 rfl Try.ntmps18 rfl ?_
 intro W M Rf
 refine r_seq ?_
 refine r_region ?_
 refine o_alloc rfl inf26 rfl rfl rfl rfl rfl (fun b0 => ?_)
 refine o_nil ?_
 repeat (first | with_reducible refine r_then ?_ | with_reducible refine r_in_normal ?_ | with_reducible refine r_sc_normal ?_)
 refine r_seq ?_
 refine r_region ?_
 refine o_q _ rfl rfl rfl (OpQ.fn (span04_v _ _) rfl rfl SubRC.sub) ?_
 refine o_q _ rfl rfl rfl (OpQ.fn (span04_v _ _) rfl rfl SubRC.sub) ?_
 refine o_q _ rfl rfl rfl (OpQ.fn (span04_v _ _) rfl rfl SubRC.sub) ?_
 refine o_q _ rfl rfl rfl (OpQ.fn (span04_v _ _) rfl rfl SubRC.sub) ?_
 refine o_q _ rfl rfl rfl (OpQ.fn (span04_v _ _) rfl rfl SubRC.sub) ?_
 refine o_q _ rfl rfl rfl (OpQ.fn (span04_v _ _) rfl rfl SubRC.sub) ?_
 refine o_lit rfl Try.underlying22 inf42 rfl rfl rfl rfl rfl rfl rfl rfl (by repeat (first | exact trivial | refine ⟨rfl, ?_⟩)) (by rfl) (fun b7 => ?_)
 refine o_q _ rfl rfl rfl (v_bA rfl Try.underlying23 inf23 inf3 rfl rfl rfl (by repeat (first | exact trivial | refine ⟨rfl, ?_⟩)) (by rfl)) ?_
 refine o_q _ rfl rfl rfl (v_bA rfl Try.underlying23 inf23 inf3 rfl rfl rfl (by repeat (first | exact trivial | refine ⟨rfl, ?_⟩)) (by rfl)) ?_
 refine o_q _ rfl rfl rfl (OpQ.fn (span04_v _ _) rfl rfl SubRC.sub) ?_
 refine o_q _ rfl rfl rfl (v_bS rfl Try.underlying47 inf47 plt47 rfl rfl rfl (by repeat (first | exact trivial | refine ⟨rfl, ?_⟩)) (by rfl)) ?_
 refine o_q _ rfl rfl rfl (OpQ.fn (span04_v _ _) rfl rfl SubRC.sub) ?_
 refine o_q _ rfl rfl rfl (v_bS rfl Try.underlying47 inf47 plt47 rfl rfl rfl (by repeat (first | exact trivial | refine ⟨rfl, ?_⟩)) (by rfl)) ?_
 refine o_q _ rfl rfl rfl (OpQ.fn (span04_v _ _) rfl rfl SubRC.sub) ?_
 refine o_q _ rfl rfl rfl (v_bS rfl Try.underlying47 inf47 plt47 rfl rfl rfl (by repeat (first | exact trivial | refine ⟨rfl, ?_⟩)) (by rfl)) ?_
 refine o_lit rfl Try.underlying24 inf47 rfl rfl rfl rfl rfl rfl rfl rfl (by repeat (first | exact trivial | refine ⟨rfl, ?_⟩)) (by rfl) (fun b16 => ?_)
 refine o_q _ rfl rfl rfl (v_bS rfl Try.underlying26 inf26 plt26 rfl rfl rfl (by repeat (first | exact trivial | refine ⟨rfl, ?_⟩)) (by rfl)) ?_
 refine o_st rfl inf26 rfl rfl rfl rfl rfl rfl rfl rfl ?_
 refine o_nil ?_
 repeat (first | with_reducible refine r_then ?_ | with_reducible refine r_in_normal ?_ | with_reducible refine r_sc_normal ?_)
 refine r_ret ?_
 repeat (first | with_reducible refine r_then_ret ?_ | with_reducible refine r_in_ret ?_ | with_reducible refine r_sc_ret ?_)
 refine Imp.box_to b0 (cellsF (sampleF 2) (some ⟨b7, 0, none⟩) 6 (some ⟨b16, 0, none⟩) 3) rfl ?_
 refine Imp.sealB b7 ?_
 refine Imp.rowN (b := b7) (sampleF 2).rain encS_len rfl ?_
 refine Imp.sealB b16 ?_
 refine Imp.rowN (b := b16) (sampleF 2).heaps encH_len rfl ?_
 exact r_retr (Rd.one rfl (RdI.cellW Try.underlying26 rfl inf26 rfl rfl)) ⟨some ⟨b7, 0, none⟩, some ⟨b16, 0, none⟩, rfl⟩ SelMC.sel (by show SubR _ ([rowD (some ⟨b7, 0, none⟩) 2 encS (sampleF 2).rain, rowD (some ⟨b16, 0, none⟩) 3 encH (sampleF 2).heaps] ++ _); exact SubRC.sub)
theorem o_sod04 {W : World} {n : Nat} {D : List Deferred} {L : Tm} {M : List Res} {R : List Fact} {Q : Exit → Act → World → Prop} {o : Oper} {ops : Array Oper} {rest : List Oper} {xs : List Operand} {ts : Array TypeId} {d : Nat} (ho : o.op = .call { callee := .value (.func 17), args := xs.toArray, argTypes := ts }) (hx : evs L xs = some []) (hg : o.guard = none) (hdst : o.dst = some d) (hd : Nat.blt d n = true)
    (hret : ∀ po so, Imp W n D ((d, valS04 po so) :: L) M (rowD po 3 encSp S04.spits :: rowD so 2 encS S04.days :: rowD none 3 encLg S04.logs :: R) (wpList Try.prog ops Q rest)) : Imp W n D L M R (wpList Try.prog ops Q (o :: rest)) :=
  o_fn sod04_r ho hx hg hdst hd SubR.nil (fun v ⟨po, so, hv⟩ => by
    subst hv
    refine Imp.derive (ψ := rowD none 3 encLg S04.logs) ?_ (fun V _ => .inl rfl)
    exact (hret po so).weak (fun _ _ h => h) SelM.refl (fun φ h => by
      simp only [List.mem_cons, List.mem_append, List.not_mem_nil, or_false] at h ⊢
      rcases h with h | h | h | h
      · exact .inr (.inl (.inl h))
      · exact .inr (.inl (.inr h))
      · exact .inl h
      · exact .inr (.inr h)))
theorem o_foot04 {W : World} {n : Nat} {D : List Deferred} {L : Tm} {M : List Res} {R : List Fact} {Q : Exit → Act → World → Prop} {o : Oper} {ops : Array Oper} {rest : List Oper} {xs : List Operand} {ts : Array TypeId} {d : Nat} (ho : o.op = .call { callee := .value (.func 18), args := xs.toArray, argTypes := ts }) (hx : evs L xs = some []) (hg : o.guard = none) (hdst : o.dst = some d) (hd : Nat.blt d n = true)
    (hret : ∀ ro ho, Imp W n D ((d, valF (sampleF 2) ro 6 ho 3) :: L) M (rowD ro 2 encS (sampleF 2).rain :: rowD ho 3 encH (sampleF 2).heaps :: R) (wpList Try.prog ops Q rest)) : Imp W n D L M R (wpList Try.prog ops Q (o :: rest)) :=
  o_fn foot04_r ho hx hg hdst hd SubR.nil (fun v ⟨ro, ho, hv⟩ => by subst hv; exact hret ro ho)
theorem cut04s_v (po so : Option Addr) : FnV Try.prog 9 [valS04 po so, i64 1] [rowD po 3 encSp S04.spits, rowD so 2 encS S04.days, rowD none 3 encLg S04.logs] (.tuple #[vS ⟨5, 6⟩, i64 0]) := by
  have h := SodW.Cut_v S04 po so none 2 3 0 1 good_S04 can_S04 (by decide)
  rw [cut_S04] at h; exact h
theorem best04_s (ro ho : Option Addr) (rc hc : Nat) : FnS Try.prog 10 [valF (sampleF 2) ro rc ho hc] [] [rowD ro 2 encS (sampleF 2).rain, rowD ho 3 encH (sampleF 2).heaps] (fun e M' R' => ∃ v, e = .returned (.tuple #[i64 160, v, i64 0]) ∧ M' = [ownL v 55 3 encT [⟨0, 3, 5⟩, ⟨0, 3, 5⟩, ⟨-1, -1, -1⟩]] ∧ R' = []) := by
  have h := FootW.Best_s (sampleF 2) ro ho rc hc (by simp) (by simp)
  rw [smp_best] at h; exact h
set_option maxHeartbeats 4000000 in
theorem awake04_v  : FnV Try.prog 5 [] [] (.bool true) := by
 refine FnV.intro Try.call5 Try.func5 rfl Try.ntmps5 rfl ?_
 intro W M Rf
 refine r_seq ?_
 refine r_region ?_
 refine o_q _ rfl rfl rfl (v_assign rfl rfl) ?_
 refine o_nil ?_
 repeat (first | with_reducible refine r_then ?_ | with_reducible refine r_in_normal ?_ | with_reducible refine r_sc_normal ?_)
 refine r_seq ?_
 refine r_region ?_
 refine o_sod04 rfl rfl rfl rfl rfl (fun po so => ?_)
 all_goals
  refine o_q _ rfl rfl rfl (OpQ.fn (cut04s_v po so) rfl rfl SubRC.sub) ?_
  refine o_q _ rfl rfl rfl (v_move rfl rfl) ?_
  refine o_q _ rfl rfl rfl (v_extract rfl rfl rfl) ?_
  refine o_q _ rfl rfl rfl (v_extract rfl rfl rfl) ?_
  refine o_alloc rfl inf42 rfl rfl rfl rfl rfl (fun b1 => ?_)
  refine o_st rfl inf42 rfl rfl rfl rfl rfl rfl rfl rfl ?_
  refine o_q _ rfl rfl rfl (v_assign rfl rfl) ?_
  refine o_nil ?_
  repeat (first | with_reducible refine r_then ?_ | with_reducible refine r_in_normal ?_ | with_reducible refine r_sc_normal ?_)
  refine r_seq ?_
  refine r_region ?_
  refine o_foot04 rfl rfl rfl rfl rfl (fun ro ho => ?_)
  all_goals
   refine o_fnown (best04_s ro ho 6 3) rfl rfl rfl rfl rfl SubRC.sub (fun v13 => ?_)
   all_goals
    refine o_q _ rfl rfl rfl (v_move rfl rfl) ?_
    refine o_q _ rfl rfl rfl (v_extract rfl rfl rfl) ?_
    refine o_q _ rfl rfl rfl (v_extract rfl rfl rfl) ?_
    refine o_q _ rfl rfl rfl (v_extract rfl rfl rfl) ?_
    refine o_q _ rfl rfl rfl (v_assign rfl rfl) ?_
    refine o_q _ rfl rfl rfl (v_assign rfl rfl) ?_
    refine o_q _ rfl rfl rfl (v_assign rfl rfl) ?_
    refine o_nil ?_
    repeat (first | with_reducible refine r_then ?_ | with_reducible refine r_in_normal ?_ | with_reducible refine r_sc_normal ?_)
    refine r_seq ?_
    refine Imp.box_to b1 [i64 5, i64 6] rfl ?_
    refine r_region_q mixed (by kernel_rfl) ?_
    first | refine q_q _ rfl rfl rfl (v_ldW rfl Try.underlying42 rfl inf42 rfl rfl) ?_ | refine q_q _ rfl rfl rfl (v_lfW rfl Try.underlying42 rfl inf42 rfl rfl) ?_ | refine q_q _ rfl rfl rfl (v_lfN rfl Try.underlying42 rfl inf42 rfl rfl rfl) ?_ | refine q_q _ rfl rfl rfl (v_ldN rfl Try.underlying42 rfl inf42 rfl rfl rfl) ?_ | refine q_q _ rfl rfl rfl (v_loadEN rfl Try.underlying42 rfl inf42 rfl (by omega) rfl rfl rfl) ?_
    refine q_q _ rfl rfl rfl (OpQ.fn (span04_v _ _) rfl rfl SubRC.sub) ?_
    refine q_q _ rfl rfl rfl (v_cast (v := .bool true) (v_eqP rfl rfl rfl FootW.guard31 (FootW.eq31 _ _ _ _)) rfl) ?_
    refine q_q _ rfl rfl rfl (v_move rfl rfl) ?_
    first | refine q_gn rfl rfl rfl rfl ?_ | refine q_g _ rfl rfl rfl rfl (v_move rfl rfl) ?_
    first | refine q_gn rfl rfl rfl rfl ?_ | refine q_g _ rfl rfl rfl rfl (v_true (v_eql rfl rfl rfl) (by omega)) ?_ | refine q_g _ rfl rfl rfl rfl (v_false (v_eql rfl rfl rfl) (by omega)) ?_ | refine q_gtest rfl rfl rfl rfl (v_eql rfl rfl rfl) (fun h22 => ?_) (fun h22 => ?_)
    all_goals
     first | refine q_q _ rfl rfl rfl (v_pick_t rfl rfl rfl) ?_ | refine q_q _ rfl rfl rfl (v_pick_f rfl rfl rfl) ?_
     refine q_q _ rfl rfl rfl (v_move rfl rfl) ?_
     first | refine q_gn rfl rfl rfl rfl ?_ | refine q_g _ rfl rfl rfl rfl (v_move rfl rfl) ?_
     first | refine q_gn rfl rfl rfl rfl ?_ | refine q_g _ rfl rfl rfl rfl (v_true (v_eql rfl rfl rfl) (by omega)) ?_ | refine q_g _ rfl rfl rfl rfl (v_false (v_eql rfl rfl rfl) (by omega)) ?_ | refine q_gtest rfl rfl rfl rfl (v_eql rfl rfl rfl) (fun h26 => ?_) (fun h26 => ?_)
     all_goals
      first | refine q_q _ rfl rfl rfl (v_pick_t rfl rfl rfl) ?_ | refine q_q _ rfl rfl rfl (v_pick_f rfl rfl rfl) ?_
      refine q_q _ rfl rfl rfl (v_move rfl rfl) ?_
      first | refine q_gn rfl rfl rfl rfl ?_ | refine q_g _ rfl rfl rfl rfl (v_move rfl rfl) ?_
      first | refine q_gn rfl rfl rfl rfl ?_ | refine q_g _ rfl rfl rfl rfl (v_true (v_eql rfl rfl rfl) (by omega)) ?_ | refine q_g _ rfl rfl rfl rfl (v_false (v_eql rfl rfl rfl) (by omega)) ?_ | refine q_gtest rfl rfl rfl rfl (v_eql rfl rfl rfl) (fun h30 => ?_) (fun h30 => ?_)
      all_goals
       first | refine q_q _ rfl rfl rfl (v_pick_t rfl rfl rfl) ?_ | refine q_q _ rfl rfl rfl (v_pick_f rfl rfl rfl) ?_
       refine q_q _ rfl rfl rfl (v_assign rfl rfl) ?_
       refine q_nil ?_
       repeat (first | with_reducible refine r_then ?_ | with_reducible refine r_in_normal ?_ | with_reducible refine r_sc_normal ?_)
       refine r_ret ?_
       repeat (first | with_reducible refine r_then_ret ?_ | with_reducible refine r_in_ret ?_ | with_reducible refine r_sc_ret ?_)
       exact r_retv2 (Rd.tmp rfl rfl) rfl SelMC.sel SubRC.sub
end Go.Proofs.Ytpndeonmmcaikaa


namespace Sod2
open Go Go.G Foot4
def Pos (B : Bank) (c : T3) : Prop := ∀ k, k < B.spits.length → 1 ≤ c.at k
theorem div_facts {m x : Int} (hx : 1 ≤ x) (hm : 0 ≤ m) : 0 ≤ m / x ∧ m / x * x ≤ m ∧ ∀ s, s ≤ m / x ↔ s * x ≤ m :=
  ⟨Int.ediv_nonneg hm (by omega), Int.ediv_mul_le m (by omega), fun _ => Int.le_ediv_iff_mul_le (by omega)⟩
theorem cutK_nn {B : Bank} {c : T3} (hg : GoodS B) (hc : Pos B c) : ∀ (r k : Nat) (m : Int), k + r = B.spits.length → 0 ≤ m → 0 ≤ cutK B c k m ∧ cutK B c k m ≤ 30 * r
  | 0, k, m, h, hm => by rw [cutK_end (B := B) (c := c) (k := k) (m := m) (by omega)]; omega
  | r + 1, k, m, h, hm => by
    have hs := hg.2.2.2.1 k (by omega)
    obtain ⟨h1, h2, h3⟩ := div_facts (hc k (by omega)) hm
    rw [cutK_div (B := B) (c := c) (k := k) (m := m) (by omega)]
    split
    · push_cast; omega
    · have e : min (B.spits.getD k default).sods (m / c.at k) = (B.spits.getD k default).sods := by omega
      have h4 := (h3 (B.spits.getD k default).sods).1 (by omega)
      have h5 := cutK_nn hg hc r (k + 1) (m - (B.spits.getD k default).sods * c.at k) (by omega) (by omega)
      rw [e]; push_cast; omega
theorem sods_bd {B : Bank} {c : T3} (hg : GoodS B) (hc : Pos B c) {m : Int} (hm : 0 ≤ m) : 0 ≤ sodsOf B c m ∧ sodsOf B c m ≤ 90 := by
  have h3 := hg.1
  have := cutK_nn hg hc B.spits.length 0 m (by omega) hm
  rw [cutK_0] at this; omega
/-- What so many sods take from the k-th spit on, and how many are left over. -/
def resK (B : Bank) (c : T3) : Nat → Nat → Int → Int × Int
  | 0, _, s => (0, s)
  | r + 1, k, s => (min s (B.spits.getD k default).sods * c.at k + (resK B c r (k + 1) (s - min s (B.spits.getD k default).sods)).1, (resK B c r (k + 1) (s - min s (B.spits.getD k default).sods)).2)
theorem str_res {B : Bank} {c : T3} {s : Int} : ∀ (r k : Nat), k + r = B.spits.length → strS B c s B.spits.length = ((strS B c s k).1 + (resK B c r k (strS B c s k).2).1, (resK B c r k (strS B c s k).2).2)
  | 0, k, h => by
    have e : k = B.spits.length := by omega
    subst e
    simp [resK]
  | r + 1, k, h => by
    rw [str_res r (k + 1) (by omega), resK, strS]
    simp only [Int.add_assoc]
theorem res_0 {B : Bank} {c : T3} (hg : GoodS B) : ∀ (r k : Nat), k + r = B.spits.length → resK B c r k 0 = (0, 0)
  | 0, _, _ => rfl
  | r + 1, k, h => by
    have hs := hg.2.2.2.1 k (by omega)
    rw [resK, show min (0 : Int) (B.spits.getD k default).sods = 0 from by omega, Int.sub_zero, res_0 hg r (k + 1) (by omega)]
    simp
theorem res_iff {B : Bank} {c : T3} (hg : GoodS B) (hc : Pos B c) : ∀ (r k : Nat) (s m : Int), k + r = B.spits.length → 0 ≤ s → 0 ≤ m → (0 ≤ (resK B c r k s).2 ∧ 0 ≤ (resK B c r k s).1) ∧ (((resK B c r k s).2 = 0 ∧ (resK B c r k s).1 ≤ m) ↔ s ≤ cutK B c k m)
  | 0, k, s, m, h, hs, hm => by
    rw [cutK_end (B := B) (c := c) (k := k) (m := m) (by omega)]
    simp only [resK]
    exact ⟨⟨hs, Int.le_refl _⟩, ⟨fun h => by omega, fun h => ⟨by omega, hm⟩⟩⟩
  | r + 1, k, s, m, h, hs, hm => by
    have hsp := hg.2.2.2.1 k (by omega)
    have hx := hc k (by omega)
    obtain ⟨h1, h2, h3⟩ := div_facts hx hm
    have hu0 : 0 ≤ min s (B.spits.getD k default).sods := by omega
    have hux : 0 ≤ min s (B.spits.getD k default).sods * c.at k := Int.mul_nonneg hu0 (by omega)
    have hr0 := (res_iff hg hc r (k + 1) (s - min s (B.spits.getD k default).sods) 0 (by omega) (by omega) (by omega)).1
    simp only [resK]
    refine ⟨⟨hr0.1, by omega⟩, ?_⟩
    rw [cutK_div (B := B) (c := c) (k := k) (m := m) (by omega)]
    by_cases hv : min (B.spits.getD k default).sods (m / c.at k) < (B.spits.getD k default).sods
    · rw [if_pos hv, show min (B.spits.getD k default).sods (m / c.at k) = m / c.at k from by omega]
      by_cases hsl : s ≤ (B.spits.getD k default).sods
      · rw [show min s (B.spits.getD k default).sods = s from by omega, Int.sub_self, res_0 hg r (k + 1) (by omega), h3 s]
        simp
      · have e : min s (B.spits.getD k default).sods = (B.spits.getD k default).sods := by omega
        rw [e] at hr0 ⊢
        constructor
        · intro ⟨_, h5⟩
          have := (h3 (B.spits.getD k default).sods).2 (by omega)
          omega
        · intro h5; omega
    · have e : min (B.spits.getD k default).sods (m / c.at k) = (B.spits.getD k default).sods := by omega
      have h4 := (h3 (B.spits.getD k default).sods).1 (by omega)
      rw [if_neg hv, e]
      by_cases hsl : s ≤ (B.spits.getD k default).sods
      · rw [show min s (B.spits.getD k default).sods = s from by omega, Int.sub_self, res_0 hg r (k + 1) (by omega)]
        have h5 := cutK_nn hg hc r (k + 1) (m - (B.spits.getD k default).sods * c.at k) (by omega) (by omega)
        have h6 : s * c.at k ≤ (B.spits.getD k default).sods * c.at k := Int.mul_le_mul_of_nonneg_right hsl (by omega)
        simp only [true_and, Int.add_zero]
        exact ⟨fun _ => by omega, fun _ => by omega⟩
      · have e2 : min s (B.spits.getD k default).sods = (B.spits.getD k default).sods := by omega
        rw [e2]
        have ih := (res_iff hg hc r (k + 1) (s - (B.spits.getD k default).sods) (m - (B.spits.getD k default).sods * c.at k) (by omega) (by omega) (by omega)).2
        constructor
        · intro ⟨h5, h6⟩
          have := ih.1 ⟨h5, by omega⟩
          omega
        · intro h5
          have := ih.2 (by omega)
          exact ⟨this.1, by omega⟩
theorem strokes_iff {B : Bank} {c : T3} (hg : GoodS B) (hc : Pos B c) {s m : Int} (hs : 0 ≤ s) (hm : 0 ≤ m) (hm2 : m < 1048576) : strokes B c s ≤ m ↔ s ≤ sodsOf B c m := by
  have h1 := str_res (B := B) (c := c) (s := s) B.spits.length 0 (by omega)
  have h2 := res_iff hg hc B.spits.length 0 s m (by omega) hs hm
  rw [cutK_0] at h2
  rw [← h2.2]
  unfold strokes
  rw [h1]
  simp only [strS, Int.zero_add]
  split
  · exact ⟨fun h => by omega, fun h => by omega⟩
  · exact ⟨fun h => ⟨by omega, h⟩, fun h => h.2⟩
theorem sods_mono {B : Bank} {c : T3} (hg : GoodS B) (hc : Pos B c) {m m' : Int} (hm : 0 ≤ m) (h : m ≤ m') (h2 : m' < 1048576) : sodsOf B c m ≤ sodsOf B c m' := by
  have h3 := sods_bd hg hc hm
  have h4 := (strokes_iff hg hc h3.1 hm (by omega)).2 (Int.le_refl _)
  exact (strokes_iff hg hc h3.1 (by omega) h2).1 (by omega)
/-! ### a truth -/
/-- Strokes by each day that fit. -/
structure TruS (B : Bank) (c : T3) (n : Nat → Int) : Prop where
  zero : n 0 = 0
  day : ∀ d, d < B.days.length → (B.days.getD d default).lo ≤ n (d + 1) - n d ∧ n (d + 1) - n d ≤ (B.days.getD d default).hi
  log : ∀ k, k < B.logs.length → (B.logs.getD k default).lo ≤ sodsOf B c (n ((B.logs.getD k default).day.toNat + 1)) ∧ sodsOf B c (n ((B.logs.getD k default).day.toNat + 1)) ≤ (B.logs.getD k default).hi
theorem TruS.bd {B : Bank} {c : T3} {n : Nat → Int} (hg : GoodS B) (h : TruS B c n) : ∀ d, d ≤ B.days.length → 0 ≤ n d ∧ n d ≤ 100 * d
  | 0, _ => by rw [h.zero]; omega
  | d + 1, hd => by
    have h1 := h.bd hg d (by omega)
    have h2 := h.day d (by omega)
    have h3 := hg.2.2.2.2.1 d (by omega)
    push_cast; omega
theorem now_in {B : Bank} {c : T3} {n : Nat → Int} (hg : GoodS B) (hc : Pos B c) (h : TruS B c n) : ∀ d, d ≤ B.days.length → (nowF B c d).lo ≤ n d ∧ n d ≤ (nowF B c d).hi
  | 0, _ => by rw [h.zero, nowF]; exact ⟨Int.le_refl _, Int.le_refl _⟩
  | d + 1, hd => by
    have h1 := now_in hg hc h d (by omega)
    have h2 := h.day d (by omega)
    have hb := h.bd hg (d + 1) hd
    have h6 := hg.2.1
    rw [nowF]
    have key : ∀ k, k ≤ B.logs.length → (cntTo B c d ⟨(nowF B c d).lo + (B.days.getD d default).lo, (nowF B c d).hi + (B.days.getD d default).hi⟩ k).lo ≤ n (d + 1) ∧ n (d + 1) ≤ (cntTo B c d ⟨(nowF B c d).lo + (B.days.getD d default).lo, (nowF B c d).hi + (B.days.getD d default).hi⟩ k).hi := by
      intro k
      induction k with
      | zero => intro _; simp only [cntTo]; omega
      | succ k ih =>
        intro hk
        have h3 := ih (by omega)
        by_cases hday : (B.logs.getD k default).day = d
        · have h4 := h.log k (by omega)
          have h5 := hg.2.2.2.2.2 k (by omega)
          rw [hday, Int.toNat_natCast] at h4
          have h7 := (strokes_iff hg hc (m := n (d + 1)) h5.2.1 hb.1 (by omega)).2 h4.1
          have h8 : ¬ strokes B c ((B.logs.getD k default).hi + 1) ≤ n (d + 1) := fun x => by
            have := (strokes_iff hg hc (m := n (d + 1)) (by omega) hb.1 (by omega)).1 x
            omega
          rw [cntTo_y hday]
          simp only [one, comS]
          omega
        · rw [cntTo_n hday]; exact h3
    exact key _ (Nat.le_refl _)
theorem tru_can {B : Bank} {c : T3} {n : Nat → Int} (hg : GoodS B) (hc : Pos B c) (h : TruS B c n) : canC B c := fun k hk => by
  have := now_in hg hc h (k + 1) (by omega)
  omega
theorem bk_in {B : Bank} {c : T3} {n : Nat → Int} (hg : GoodS B) (hc : Pos B c) (h : TruS B c n) : ∀ j, j < B.days.length → (bk B c j).lo ≤ n (B.days.length - j) ∧ n (B.days.length - j) ≤ (bk B c j).hi
  | 0, hj => by rw [bk, Nat.sub_zero]; exact now_in hg hc h _ (Nat.le_refl _)
  | j + 1, hj => by
    have h1 := bk_in hg hc h j (by omega)
    have h2 := now_in hg hc h (B.days.length - 1 - j) (by omega)
    have h3 := h.day (B.days.length - 1 - j) (by omega)
    rw [show B.days.length - 1 - j + 1 = B.days.length - j from by omega] at h3
    rw [bk, show B.days.length - (j + 1) = B.days.length - 1 - j from by omega]
    simp only
    omega
theorem log_in {B : Bank} {c : T3} {n : Nat → Int} (hg : GoodS B) (hc : Pos B c) (h : TruS B c n) {d : Nat} (hd : d < B.days.length) : (logD B c d).lo ≤ n (d + 1) ∧ n (d + 1) ≤ (logD B c d).hi := by
  have e : logD B c d = bk B c (B.days.length - 1 - d) := by unfold logD; rw [if_pos (tru_can hg hc h)]; unfold bckD; rw [if_pos hd, if_pos (Nat.zero_le _)]; rfl
  have := bk_in hg hc h (B.days.length - 1 - d) (by omega)
  rw [e]
  rw [show B.days.length - (B.days.length - 1 - d) = d + 1 from by omega] at this
  exact this
theorem cutP_bd {B : Bank} (hg : GoodS B) (hcs : canS B) {d : Nat} (hd : d < B.days.length) : 0 ≤ (cutP B d).lo ∧ (cutP B d).lo ≤ (cutP B d).hi ∧ (cutP B d).hi ≤ 90 := by
  refine hullTo_bd (a := 0) (b := 90) (fun s hs => ?_) (goodC_pos (d := d) hcs) _ (Nat.le_refl _)
  obtain ⟨c, hc, rfl⟩ := List.mem_map.1 hs
  obtain ⟨h1, h2⟩ := List.mem_filter.1 hc
  have hin := (mem_all hg).1 h1
  have hcan : canC B c := by simpa using h2
  have hb := log_bd hg (hin.inC hg) hcan hd
  have h3 := sods_bd hg (hin.pos hg) (m := (logD B c d).lo) hb.1
  have h4 := sods_bd hg (hin.pos hg) (m := (logD B c d).hi) (by omega)
  exact ⟨h3.1, sods_mono hg (hin.pos hg) hb.1 hb.2.1 (by omega), h4.2⟩
theorem cut_in {B : Bank} {c : T3} {n : Nat → Int} (hg : GoodS B) (hin : InB B c) (h : TruS B c n) {d : Nat} (hd : d < B.days.length) : canS B ∧ (cutP B d).lo ≤ sodsOf B c (n (d + 1)) ∧ sodsOf B c (n (d + 1)) ≤ (cutP B d).hi := by
  have hc := hin.pos hg
  have hcan := tru_can hg hc h
  have hmem := (mem_all hg).2 hin
  have h1 := log_in hg hc h hd
  have hb := h.bd hg (d + 1) (by omega)
  have hb2 := log_bd hg (hin.inC hg) hcan hd
  have h6 := hg.2.1
  have h2 := hull_in (l := (goodC B).map (cutSp B d)) (s := cutSp B d c) (List.mem_map.2 ⟨c, List.mem_filter.2 ⟨hmem, by simpa using hcan⟩, rfl⟩)
  have h3 : sodsOf B c (logD B c d).lo ≤ sodsOf B c (n (d + 1)) := sods_mono hg hc hb2.1 h1.1 (by omega)
  have h4 : sodsOf B c (n (d + 1)) ≤ sodsOf B c (logD B c d).hi := sods_mono hg hc hb.1 h1.2 (by omega)
  unfold cutP
  simp only [cutSp] at h2
  exact ⟨⟨c, hmem, hcan⟩, by omega, by omega⟩
end Sod2


namespace Sod2
open Go Go.G Foot4
def drawT (bys : List Int) (k : Nat) (s : Span) : Int :=
  if (bys.length : Int) = 0 then s.lo else s.lo + (bys.getD (k % bys.length) 0 + 79 * k).tmod (s.hi - s.lo + 1)
theorem drawT_0 {bys : List Int} {k : Nat} {s : Span} (h : (bys.length : Int) = 0) : drawT bys k s = s.lo := if_pos h
theorem drawT_1 {bys : List Int} {k : Nat} {s : Span} (h : ¬ (bys.length : Int) = 0) : drawT bys k s = s.lo + (bys.getD (k % bys.length) 0 + 79 * k).tmod (s.hi - s.lo + 1) := if_neg h
def InD (f : Nat → Span → Int) : Prop := ∀ k s, s.lo ≤ s.hi → s.lo ≤ f k s ∧ f k s ≤ s.hi
theorem drawT_in {bys : List Int} (hu : U16s bys) : InD (drawT bys) := fun k s h => by
  unfold drawT
  split
  · omega
  · have h0 : 0 ≤ bys.getD (k % bys.length) 0 := by
      by_cases hl : k % bys.length < bys.length
      · have hm : bys.getD (k % bys.length) 0 ∈ bys := by simp [List.getD_eq_getElem?_getD, hl]
        exact (hu _ hm).1
      · simp [List.getD_eq_getElem?_getD, List.getElem?_eq_none (by omega : bys.length ≤ k % bys.length)]
    have h1 := Int.tmod_nonneg (s.hi - s.lo + 1) (show 0 ≤ bys.getD (k % bys.length) 0 + 79 * (k : Int) by omega)
    have h2 := Int.tmod_lt_of_pos (bys.getD (k % bys.length) 0 + 79 * (k : Int)) (show 0 < s.hi - s.lo + 1 by omega)
    omega
def spD (p : Spit) : Span := ⟨p.lo, p.hi⟩
def costTo (f : Nat → Span → Int) (k0 : Nat) (B : Bank) (k : Nat) : List Int := (List.range k).map fun j => f (k0 + j + 1) (spD (B.spits.getD j default))
theorem costTo_s {f : Nat → Span → Int} {k0 : Nat} {B : Bank} {k : Nat} : costTo f k0 B k ++ [f (k0 + k + 1) (spD (B.spits.getD k default))] = costTo f k0 B (k + 1) := by simp [costTo, List.range_succ]
theorem costTo_len {f : Nat → Span → Int} {k0 : Nat} {B : Bank} {k : Nat} : (costTo f k0 B k).length = k := by simp [costTo]
theorem costTo_at {f : Nat → Span → Int} {k0 : Nat} {B : Bank} {k j : Nat} (h : j < k) : (costTo f k0 B k).getD j default = f (k0 + j + 1) (spD (B.spits.getD j default)) := by simp [costTo, List.getD_eq_getElem?_getD, h]
abbrev costD (f : Nat → Span → Int) (k0 : Nat) (B : Bank) : List Int := costTo f k0 B B.spits.length
abbrev cD (f : Nat → Span → Int) (k0 : Nat) (B : Bank) : T3 := ofL (costD f k0 B)
def strD (f : Nat → Span → Int) (k0 : Nat) (B : Bank) : Nat → Int
  | 0 => 0
  | d + 1 => strD f k0 B d + f (k0 + B.spits.length + d + 1) (B.days.getD d default)
def daysTo (f : Nat → Span → Int) (k0 : Nat) (B : Bank) (k : Nat) : List Int := (List.range k).map fun d => strD f k0 B (d + 1)
theorem daysTo_s {f : Nat → Span → Int} {k0 : Nat} {B : Bank} {k : Nat} : daysTo f k0 B k ++ [strD f k0 B (k + 1)] = daysTo f k0 B (k + 1) := by simp [daysTo, List.range_succ]
theorem daysTo_len {f : Nat → Span → Int} {k0 : Nat} {B : Bank} {k : Nat} : (daysTo f k0 B k).length = k := by simp [daysTo]
theorem daysTo_at {f : Nat → Span → Int} {k0 : Nat} {B : Bank} {k j : Nat} (h : j < k) : (daysTo f k0 B k).getD j default = strD f k0 B (j + 1) := by simp [daysTo, List.getD_eq_getElem?_getD, h]
def logN (f : Nat → Span → Int) (k0 : Nat) (B : Bank) (l : LogS) : Int := sodsOf B (cD f k0 B) (strD f k0 B (l.day.toNat + 1))
def logX (f : Nat → Span → Int) (k0 : Nat) (B : Bank) (l : LogS) : LogS := ⟨l.day, max 0 (logN f k0 B l - 1), logN f k0 B l + 1⟩
def logsTo (f : Nat → Span → Int) (k0 : Nat) (B : Bank) (k : Nat) : List LogS := (List.range k).map fun j => logX f k0 B (B.logs.getD j default)
theorem logsTo_s {f : Nat → Span → Int} {k0 : Nat} {B : Bank} {k : Nat} : logsTo f k0 B k ++ [logX f k0 B (B.logs.getD k default)] = logsTo f k0 B (k + 1) := by simp [logsTo, List.range_succ]
theorem logsTo_len {f : Nat → Span → Int} {k0 : Nat} {B : Bank} {k : Nat} : (logsTo f k0 B k).length = k := by simp [logsTo]
theorem logsTo_at {f : Nat → Span → Int} {k0 : Nat} {B : Bank} {k j : Nat} (h : j < k) : (logsTo f k0 B k).getD j default = logX f k0 B (B.logs.getD j default) := by simp [logsTo, List.getD_eq_getElem?_getD, h]
@[reducible] def bankX (f : Nat → Span → Int) (k0 : Nat) (B : Bank) : Bank := ⟨B.spits, B.days, logsTo f k0 B B.logs.length⟩
section
variable {f : Nat → Span → Int} {k0 : Nat} {B : Bank} (hf : InD f) (hg : GoodS B)
include hf hg
theorem cost_in {j : Nat} (h : j < B.spits.length) : (B.spits.getD j default).lo ≤ f (k0 + j + 1) (spD (B.spits.getD j default)) ∧ f (k0 + j + 1) (spD (B.spits.getD j default)) ≤ (B.spits.getD j default).hi :=
  hf _ _ (hg.2.2.2.1 j h).2.1.2.1
theorem cost_16 {j : Nat} (h : j < B.spits.length) : 1 ≤ (costD f k0 B).getD j default ∧ (costD f k0 B).getD j default ≤ 6 := by
  rw [costTo_at h]
  have h1 := cost_in (k0 := k0) hf hg h
  have h2 := hg.2.2.2.1 j h
  omega
theorem cD_in : InB B (cD f k0 B) := by
  have h3 := hg.1
  refine ⟨fun k hk => ?_, fun k hk hk2 => ?_⟩
  · rw [at_ofL (by omega), costTo_at hk]
    exact cost_in hf hg hk
  · rw [at_ofL hk]
    have : (costD f k0 B).length ≤ k := by rw [costTo_len]; exact hk2
    rw [List.getD_eq_getElem?_getD, List.getElem?_eq_none this]; rfl
theorem str_day {d : Nat} (h : d < B.days.length) : (B.days.getD d default).lo ≤ strD f k0 B (d + 1) - strD f k0 B d ∧ strD f k0 B (d + 1) - strD f k0 B d ≤ (B.days.getD d default).hi := by
  have := hf (k0 + B.spits.length + d + 1) (B.days.getD d default) (hg.2.2.2.2.1 d h).2.1
  rw [strD]; omega
theorem str_bd : ∀ d, d ≤ B.days.length → 0 ≤ strD f k0 B d ∧ strD f k0 B d ≤ 100 * d
  | 0, _ => by rw [strD]; omega
  | d + 1, h => by
    have h1 := str_bd d (by omega)
    have h2 := str_day (k0 := k0) hf hg (d := d) (by omega)
    have h3 := hg.2.2.2.2.1 d (by omega)
    push_cast; omega
theorem logN_bd {k : Nat} (h : k < B.logs.length) : 0 ≤ logN f k0 B (B.logs.getD k default) ∧ logN f k0 B (B.logs.getD k default) ≤ 90 := by
  have h1 := hg.2.2.2.2.2 k h
  exact sods_bd hg ((cD_in (k0 := k0) hf hg).pos hg) (str_bd hf hg _ (by omega)).1
theorem good_X : GoodS (bankX f k0 B) := by
  have hg2 := hg
  obtain ⟨g1, g2, g3, g4, g5, g6⟩ := hg
  refine ⟨g1, g2, ?_, g4, g5, fun k hk => ?_⟩
  · show ((logsTo f k0 B B.logs.length).length : Int) ≤ 4
    rw [logsTo_len]; exact g3
  · have hk2 : k < B.logs.length := by
      have : (logsTo f k0 B B.logs.length).length = B.logs.length := logsTo_len
      show k < _
      have hk3 : k < (logsTo f k0 B B.logs.length).length := hk
      omega
    show (0 ≤ ((logsTo f k0 B B.logs.length).getD k default).day ∧ ((logsTo f k0 B B.logs.length).getD k default).day ≤ _) ∧ (0 ≤ ((logsTo f k0 B B.logs.length).getD k default).lo ∧ ((logsTo f k0 B B.logs.length).getD k default).lo ≤ ((logsTo f k0 B B.logs.length).getD k default).hi ∧ ((logsTo f k0 B B.logs.length).getD k default).hi ≤ 200)
    rw [logsTo_at hk2]
    have h1 := logN_bd (k0 := k0) hf hg2 hk2
    have h2 := g6 k hk2
    refine ⟨h2.1, ?_⟩
    simp only [logX]
    omega
theorem tru_X : TruS (bankX f k0 B) (cD f k0 B) (strD f k0 B) := by
  refine ⟨rfl, fun d hd => str_day hf hg hd, fun k hk => ?_⟩
  have hk2 : k < B.logs.length := by
    have : (logsTo f k0 B B.logs.length).length = B.logs.length := logsTo_len
    have hk3 : k < (logsTo f k0 B B.logs.length).length := hk
    omega
  show ((logsTo f k0 B B.logs.length).getD k default).lo ≤ sodsOf B (cD f k0 B) (strD f k0 B (((logsTo f k0 B B.logs.length).getD k default).day.toNat + 1)) ∧ sodsOf B (cD f k0 B) (strD f k0 B (((logsTo f k0 B B.logs.length).getD k default).day.toNat + 1)) ≤ ((logsTo f k0 B B.logs.length).getD k default).hi
  rw [logsTo_at hk2]
  have h1 := logN_bd (k0 := k0) hf hg hk2
  have e : sodsOf B (cD f k0 B) (strD f k0 B ((B.logs.getD k default).day.toNat + 1)) = logN f k0 B (B.logs.getD k default) := rfl
  simp only [logX]
  rw [e]
  omega
/-- How many sods are truly cut. -/
theorem sods_X : canS (bankX f k0 B) ∧ (cutP (bankX f k0 B) (B.days.length - 1)).lo ≤ sodsOf B (cD f k0 B) (strD f k0 B B.days.length) ∧ sodsOf B (cD f k0 B) (strD f k0 B B.days.length) ≤ (cutP (bankX f k0 B) (B.days.length - 1)).hi := by
  have h2 := hg.2.1
  have h := cut_in (d := B.days.length - 1) (good_X (k0 := k0) hf hg) (show InB (bankX f k0 B) (cD f k0 B) from cD_in (B := B) (k0 := k0) hf hg) (tru_X hf hg) (by show B.days.length - 1 < B.days.length; omega)
  rw [show B.days.length - 1 + 1 = B.days.length from by omega] at h
  exact h
end
end Sod2


namespace Go.Proofs.Ytpndeonmmcaikaa
open Go.G Foot4 Sod2
set_option maxRecDepth 1000000
attribute [local irreducible] G.ParO G.Fin
set_option maxHeartbeats 4000000 in
theorem draws_s (bys : List Int) (ba : Option Addr) (bc : Nat) : FnS Try.prog 6 [.slice ba bys.length bc] [] [] (fun e M' R' => ∃ x : Nat × Nat, e = .returned (.func (.func 20) #[] #[pt x.1 0, pt x.2 0]) ∧ True ∧ M' = [bx x.1 3 [i64 ((0 : Nat) : Int)]] ∧ R' = [boxF x.2 28 [.slice ba bys.length bc]]) := by
 refine FnS.intro0 Try.call6 Try.func6 rfl Try.ntmps6 rfl ?_
 intro W M Rf
 refine r_seq ?_
 refine r_region ?_
 refine o_box1 rfl rfl rfl rfl rfl rfl (fun b1 => ?_)
 refine o_q _ rfl rfl rfl (v_assign rfl rfl) ?_
 refine o_nil ?_
 repeat (first | with_reducible refine r_then ?_ | with_reducible refine r_in_normal ?_ | with_reducible refine r_sc_normal ?_)
 refine r_seq ?_
 refine r_region ?_
 refine o_alloc rfl inf3 rfl rfl rfl rfl rfl (fun b3 => ?_)
 refine o_st rfl inf3 rfl rfl rfl rfl rfl rfl rfl rfl ?_
 refine o_nil ?_
 repeat (first | with_reducible refine r_then ?_ | with_reducible refine r_in_normal ?_ | with_reducible refine r_sc_normal ?_)
 refine r_seq ?_
 refine Imp.sealB b1 ?_
 refine r_region ?_
 refine o_q _ rfl rfl rfl (v_makeFunc rfl rfl rfl) ?_
 refine o_q _ rfl rfl rfl (v_assign rfl rfl) ?_
 refine o_nil ?_
 repeat (first | with_reducible refine r_then ?_ | with_reducible refine r_in_normal ?_ | with_reducible refine r_sc_normal ?_)
 refine r_ret ?_
 repeat (first | with_reducible refine r_then_ret ?_ | with_reducible refine r_in_ret ?_ | with_reducible refine r_sc_ret ?_)
 refine Imp.box_to b3 [i64 ((0 : Nat) : Int)] rfl ?_
 exact r_rete [bx b3 3 [i64 ((0 : Nat) : Int)]] [boxF b1 28 [.slice ba bys.length bc]] (Rd.tmp rfl rfl) ⟨(b3, b1), rfl, trivial, rfl, rfl⟩ SelMC.sel SubRC.sub
theorem u16_at {bys : List Int} (hu : U16s bys) (i : Nat) : 0 ≤ bys.getD i 0 ∧ bys.getD i 0 ≤ 65535 := by
  by_cases hl : i < bys.length
  · have hm : bys.getD i 0 ∈ bys := by simp [List.getD_eq_getElem?_getD, hl]
    exact hu _ hm
  · simp [List.getD_eq_getElem?_getD, List.getElem?_eq_none (by omega : bys.length ≤ i)]
set_option maxHeartbeats 4000000 in
theorem draw1_c (bys : List Int) (ba : Option Addr) (bc : Nat) (hu : U16s bys) (hbl : bys.length ≤ 9223372036854775807) (ab bb k : Nat) (s : Span) (hk : k ≤ 100000) (hs : s.lo ≤ s.hi) (h0 : -1000 ≤ s.lo) (h1 : s.hi ≤ 1000) : FnC Try.prog 20 [.agg #[i64 s.lo, i64 s.hi], pt ab 0, pt bb 0] (bx ab 3 [i64 k]) [boxF bb 28 [.slice ba bys.length bc], rowD ba 1 encU bys] (i64 (drawT bys (k + 1) s)) (bx ab 3 [i64 ((k + 1 : Nat) : Int)]) := by
 refine FnC.intro Try.call20 Try.func20 rfl Try.ntmps20 rfl ?_
 intro W M Rf
 refine r_seq ?_
 refine r_region ?_
 refine o_boxA rfl rfl rfl rfl rfl (fun b3 => ?_)
 refine o_q _ rfl rfl rfl (v_assign rfl rfl) ?_
 refine o_nil ?_
 repeat (first | with_reducible refine r_then ?_ | with_reducible refine r_in_normal ?_ | with_reducible refine r_sc_normal ?_)
 refine r_seq ?_
 refine Imp.box_to ab [i64 k] rfl ?_
 refine r_region ?_
 first | refine o_q _ rfl rfl rfl (v_ld1 rfl Try.underlying3 rfl rfl rfl) ?_ | refine o_q _ rfl rfl rfl (v_lf1 rfl Try.underlying3 rfl rfl rfl) ?_ | refine o_q _ rfl rfl rfl (v_loadE1 rfl Try.underlying3 rfl rfl (by omega) rfl rfl) ?_
 refine o_q _ rfl rfl rfl (v_add rfl rfl rfl (by omega)) ?_
 refine o_st rfl inf3 rfl rfl rfl rfl rfl rfl rfl rfl ?_
 refine o_nil ?_
 repeat (first | with_reducible refine r_then ?_ | with_reducible refine r_in_normal ?_ | with_reducible refine r_sc_normal ?_)
 refine r_seq ?_
 refine r_seq ?_
 refine r_region ?_
 first | refine o_q _ rfl rfl rfl (v_ld1 rfl Try.underlying28 rfl rfl rfl) ?_ | refine o_q _ rfl rfl rfl (v_lf1 rfl Try.underlying28 rfl rfl rfl) ?_ | refine o_q _ rfl rfl rfl (v_loadE1 rfl Try.underlying28 rfl rfl (by omega) rfl rfl) ?_
 refine o_q _ rfl rfl rfl (v_len rfl rfl Try.underlying28 rfl) ?_
 refine o_q _ rfl rfl rfl (v_eql rfl rfl rfl) ?_
 refine o_nil ?_
 repeat (first | with_reducible refine r_then ?_ | with_reducible refine r_in_normal ?_ | with_reducible refine r_sc_normal ?_)
 first | refine r_condd rfl (fun hc9 => ?_) (fun hc9 => ?_) | refine r_cond rfl (fun hc9 => ?_) (fun hc9 => ?_)
 ·
  first
  | (exfalso; revert hc9; decide)
  | (exfalso; omega)
  |
   skip
   refine r_seq ?_
   refine Imp.box_to ab [i64 ((k + 1 : Nat) : Int)] rfl ?_
   refine r_region ?_
   first | refine o_q _ rfl rfl rfl (v_fieldAddr rfl Try.underlying42 inf3 rfl rfl rfl rfl) ?_ | refine o_q _ rfl rfl rfl (v_fieldAddrE rfl Try.underlying42 inf3 rfl rfl rfl rfl) ?_
   first | refine o_q _ rfl rfl rfl (v_ld1 rfl Try.underlying3 rfl rfl rfl) ?_ | refine o_q _ rfl rfl rfl (v_lf1 rfl Try.underlying3 rfl rfl rfl) ?_ | refine o_q _ rfl rfl rfl (v_loadE1 rfl Try.underlying3 rfl rfl (by omega) rfl rfl) ?_
   refine o_q _ rfl rfl rfl (v_assign rfl rfl) ?_
   refine o_nil ?_
   repeat (first | with_reducible refine r_then ?_ | with_reducible refine r_in_normal ?_ | with_reducible refine r_sc_normal ?_)
   refine r_ret ?_
   repeat (first | with_reducible refine r_then_ret ?_ | with_reducible refine r_in_ret ?_ | with_reducible refine r_sc_ret ?_)
   first
   | exact r_rete [bx ab 3 [i64 ((k + 1 : Nat) : Int)]] [] (Rd.tmp rfl rfl) ⟨congrArg Ending.returned (congrArg (Value.int .i64) (drawT_0 (by assumption)).symm), rfl, rfl⟩ SelMC.sel SubRC.sub
   | exact r_rete [bx ab 3 [i64 ((k + 1 : Nat) : Int)]] [] (Rd.tmp rfl rfl) ⟨congrArg Ending.returned (congrArg (Value.int .i64) (drawT_1 (by assumption)).symm), rfl, rfl⟩ SelMC.sel SubRC.sub
 ·
  first
  | (exfalso; revert hc9; decide)
  | (exfalso; omega)
  |
   skip
   refine r_skip ?_
   repeat (first | with_reducible refine r_then ?_ | with_reducible refine r_in_normal ?_ | with_reducible refine r_sc_normal ?_)
   refine r_seq ?_
   have hpos : 0 < bys.length := by omega
   have hlt : (k + 1) % bys.length < bys.length := Nat.mod_lt _ hpos
   have hat := u16_at hu ((k + 1) % bys.length)
   refine Imp.box_to ab [i64 ((k + 1 : Nat) : Int)] rfl ?_
   refine r_region_q mixed (by kernel_rfl) ?_
   first | refine q_q _ rfl rfl rfl (v_fieldAddr rfl Try.underlying42 inf3 rfl rfl rfl rfl) ?_ | refine q_q _ rfl rfl rfl (v_fieldAddrE rfl Try.underlying42 inf3 rfl rfl rfl rfl) ?_
   first | refine q_q _ rfl rfl rfl (v_ld1 rfl Try.underlying3 rfl rfl rfl) ?_ | refine q_q _ rfl rfl rfl (v_lf1 rfl Try.underlying3 rfl rfl rfl) ?_ | refine q_q _ rfl rfl rfl (v_loadE1 rfl Try.underlying3 rfl rfl (by omega) rfl rfl) ?_
   first | refine q_q _ rfl rfl rfl (v_ld1 rfl Try.underlying28 rfl rfl rfl) ?_ | refine q_q _ rfl rfl rfl (v_lf1 rfl Try.underlying28 rfl rfl rfl) ?_ | refine q_q _ rfl rfl rfl (v_loadE1 rfl Try.underlying28 rfl rfl (by omega) rfl rfl) ?_
   first | refine q_q _ rfl rfl rfl (v_ld1 rfl Try.underlying3 rfl rfl rfl) ?_ | refine q_q _ rfl rfl rfl (v_lf1 rfl Try.underlying3 rfl rfl rfl) ?_ | refine q_q _ rfl rfl rfl (v_loadE1 rfl Try.underlying3 rfl rfl (by omega) rfl rfl) ?_
   first | refine q_q _ rfl rfl rfl (v_ld1 rfl Try.underlying28 rfl rfl rfl) ?_ | refine q_q _ rfl rfl rfl (v_lf1 rfl Try.underlying28 rfl rfl rfl) ?_ | refine q_q _ rfl rfl rfl (v_loadE1 rfl Try.underlying28 rfl rfl (by omega) rfl rfl) ?_
   refine q_q _ rfl rfl rfl (v_len rfl rfl Try.underlying28 rfl) ?_
   refine q_q _ rfl rfl rfl (v_cast (v := i64 (((k + 1) % bys.length : Nat) : Int)) (v_rem rfl rfl rfl (by omega)) (congrArg (Value.int .i64) (G.tmod_nat (a := k + 1) (b := bys.length)))) ?_
   first | refine q_q _ rfl rfl rfl (v_indexAddrSn rfl Try.underlying28 inf65 rfl rfl rfl (by omega) rfl) ?_ | refine q_q _ rfl rfl rfl (v_indexAddrS rfl Try.underlying28 inf65 rfl rfl rfl (by omega) (by omega) rfl) ?_
   refine q_q _ rfl rfl rfl (v_loadE1 (v := .int .u16 (bys.getD ((k + 1) % bys.length) 0)) rfl Try.underlying65 rfl rfl hlt rfl rfl) ?_
   refine q_q _ rfl rfl rfl (v_conv rfl Try.underlying65 Try.underlying3 rfl (IntWalk.i64_in _ (by omega))) ?_
   first | refine q_q _ rfl rfl rfl (v_ld1 rfl Try.underlying3 rfl rfl rfl) ?_ | refine q_q _ rfl rfl rfl (v_lf1 rfl Try.underlying3 rfl rfl rfl) ?_ | refine q_q _ rfl rfl rfl (v_loadE1 rfl Try.underlying3 rfl rfl (by omega) rfl rfl) ?_
   refine q_q _ rfl rfl rfl (v_mul rfl rfl rfl (by omega)) ?_
   refine q_q _ rfl rfl rfl (v_add rfl rfl rfl (by omega)) ?_
   first | refine q_q _ rfl rfl rfl (v_fieldAddr rfl Try.underlying42 inf3 rfl rfl rfl rfl) ?_ | refine q_q _ rfl rfl rfl (v_fieldAddrE rfl Try.underlying42 inf3 rfl rfl rfl rfl) ?_
   first | refine q_q _ rfl rfl rfl (v_ld1 rfl Try.underlying3 rfl rfl rfl) ?_ | refine q_q _ rfl rfl rfl (v_lf1 rfl Try.underlying3 rfl rfl rfl) ?_ | refine q_q _ rfl rfl rfl (v_loadE1 rfl Try.underlying3 rfl rfl (by omega) rfl rfl) ?_
   first | refine q_q _ rfl rfl rfl (v_fieldAddr rfl Try.underlying42 inf3 rfl rfl rfl rfl) ?_ | refine q_q _ rfl rfl rfl (v_fieldAddrE rfl Try.underlying42 inf3 rfl rfl rfl rfl) ?_
   first | refine q_q _ rfl rfl rfl (v_ld1 rfl Try.underlying3 rfl rfl rfl) ?_ | refine q_q _ rfl rfl rfl (v_lf1 rfl Try.underlying3 rfl rfl rfl) ?_ | refine q_q _ rfl rfl rfl (v_loadE1 rfl Try.underlying3 rfl rfl (by omega) rfl rfl) ?_
   refine q_q _ rfl rfl rfl (v_sub rfl rfl rfl (by omega)) ?_
   refine q_q _ rfl rfl rfl (v_add rfl rfl rfl (by omega)) ?_
   refine q_q _ rfl rfl rfl (v_rem rfl rfl rfl (by omega)) ?_
   refine q_q _ rfl rfl rfl (v_add rfl rfl rfl (by have h2 := Int.tmod_nonneg (s.hi - s.lo + 1) (show 0 ≤ (bys.getD ((k + 1) % bys.length) 0) + 79 * ((k + 1 : Nat) : Int) by omega); have h3 := Int.tmod_lt_of_pos ((bys.getD ((k + 1) % bys.length) 0) + 79 * ((k + 1 : Nat) : Int)) (show 0 < s.hi - s.lo + 1 by omega); omega)) ?_
   refine q_q _ rfl rfl rfl (v_assign rfl rfl) ?_
   refine q_nil ?_
   repeat (first | with_reducible refine r_then ?_ | with_reducible refine r_in_normal ?_ | with_reducible refine r_sc_normal ?_)
   refine r_ret ?_
   repeat (first | with_reducible refine r_then_ret ?_ | with_reducible refine r_in_ret ?_ | with_reducible refine r_sc_ret ?_)
   first
   | exact r_rete [bx ab 3 [i64 ((k + 1 : Nat) : Int)]] [] (Rd.tmp rfl rfl) ⟨congrArg Ending.returned (congrArg (Value.int .i64) (drawT_0 (by assumption)).symm), rfl, rfl⟩ SelMC.sel SubRC.sub
   | exact r_rete [bx ab 3 [i64 ((k + 1 : Nat) : Int)]] [] (Rd.tmp rfl rfl) ⟨congrArg Ending.returned (congrArg (Value.int .i64) (drawT_1 (by assumption)).symm), rfl, rfl⟩ SelMC.sel SubRC.sub
variable (B : Bank) (po so lo : Option Addr) (pc sc lc : Nat)
set_option maxHeartbeats 4000000 in
theorem cut04_s (bys : List Int) (ba : Option Addr) (bc : Nat) (hu : U16s bys) (hbl : bys.length ≤ 9223372036854775807) (ab bb k0 : Nat) (hg : GoodS B) (hk0 : k0 ≤ 1000) : FnS Try.prog 8 [valS B po pc so sc lo lc, .func (.func 20) #[] #[pt ab 0, pt bb 0]] [bx ab 3 [i64 ((k0 : Nat) : Int)]] [rowD po 3 encSp B.spits, rowD so 2 encS B.days, rowD lo 3 encLg B.logs, boxF bb 28 [.slice ba bys.length bc], rowD ba 1 encU bys] (fun e M' R' => ∃ x : Option Addr × Nat, e = .returned (.tuple #[valS (bankX (drawT bys) k0 B) po pc so sc x.1 x.2, i64 (sodsOf B (cD (drawT bys) k0 B) (strD (drawT bys) k0 B B.days.length))]) ∧ True ∧ M' = [bx ab 3 [i64 ((k0 + B.spits.length + B.days.length : Nat) : Int)]] ∧ R' = [rowD x.1 3 encLg (bankX (drawT bys) k0 B).logs]) := by
 refine FnS.intro1 Try.call8 Try.func8 rfl Try.ntmps8 rfl ?_
 intro W M Rf
 refine r_seq ?_
 refine r_region ?_
 refine o_boxA rfl rfl rfl rfl rfl (fun b2 => ?_)
 refine o_alloc rfl inf37 rfl rfl rfl rfl rfl (fun b4 => ?_)
 refine o_q _ rfl rfl rfl (v_assign rfl rfl) ?_
 refine o_nil ?_
 repeat (first | with_reducible refine r_then ?_ | with_reducible refine r_in_normal ?_ | with_reducible refine r_sc_normal ?_)
 refine r_seq ?_
 refine r_region ?_
 first | refine o_q _ rfl rfl rfl (v_ldW rfl Try.underlying37 rfl inf37 rfl rfl) ?_ | refine o_q _ rfl rfl rfl (v_lfW rfl Try.underlying37 rfl inf37 rfl rfl) ?_ | refine o_q _ rfl rfl rfl (v_lfN rfl Try.underlying37 rfl inf37 rfl rfl rfl) ?_ | refine o_q _ rfl rfl rfl (v_ldN rfl Try.underlying37 rfl inf37 rfl rfl rfl) ?_ | refine o_q _ rfl rfl rfl (v_loadEN rfl Try.underlying37 rfl inf37 rfl (by omega) rfl rfl rfl) ?_
 refine o_st rfl inf37 rfl rfl rfl rfl rfl rfl rfl rfl ?_
 refine o_nil ?_
 repeat (first | with_reducible refine r_then ?_ | with_reducible refine r_in_normal ?_ | with_reducible refine r_sc_normal ?_)
 refine r_seq ?_
 refine r_region ?_
 first | refine o_q _ rfl rfl rfl (v_fieldAddr rfl Try.underlying37 inf35 rfl rfl rfl rfl) ?_ | refine o_q _ rfl rfl rfl (v_fieldAddrE rfl Try.underlying37 inf35 rfl rfl rfl rfl) ?_
 refine o_st rfl inf35 rfl rfl rfl rfl rfl rfl rfl rfl ?_
 refine o_nil ?_
 repeat (first | with_reducible refine r_then ?_ | with_reducible refine r_in_normal ?_ | with_reducible refine r_sc_normal ?_)
 refine r_seq ?_
 refine Imp.box_to b4 [.slice po B.spits.length pc, .slice so B.days.length sc, .slice none 0 0] rfl ?_
 refine r_region ?_
 refine o_q _ rfl rfl rfl (v_assign rfl rfl) ?_
 refine o_q _ rfl rfl rfl (v_assign rfl rfl) ?_
 refine o_nil ?_
 repeat (first | with_reducible refine r_then ?_ | with_reducible refine r_in_normal ?_ | with_reducible refine r_sc_normal ?_)
 refine r_seq ?_
 refine r_seq ?_
 have hf : InD (drawT bys) := drawT_in hu
 have hq1 := hg.1
 have hq2 := hg.2.1
 have hq3 := hg.2.2.1
 refine Imp.nilL 3 1 Sod2.encI ?_
 refine r_region ?_
 first | refine o_q _ rfl rfl rfl (v_fieldAddr rfl Try.underlying37 inf34 rfl rfl rfl rfl) ?_ | refine o_q _ rfl rfl rfl (v_fieldAddrE rfl Try.underlying37 inf34 rfl rfl rfl rfl) ?_
 first | refine o_q _ rfl rfl rfl (v_ld1 rfl Try.underlying34 rfl rfl rfl) ?_ | refine o_q _ rfl rfl rfl (v_lf1 rfl Try.underlying34 rfl rfl rfl) ?_ | refine o_q _ rfl rfl rfl (v_loadE1 rfl Try.underlying34 rfl rfl (by omega) rfl rfl) ?_
 refine o_q _ rfl rfl rfl (v_len rfl rfl Try.underlying34 rfl) ?_
 refine o_q _ rfl rfl rfl (v_move rfl rfl) ?_
 refine o_nil ?_
 repeat (first | with_reducible refine r_then ?_ | with_reducible refine r_in_normal ?_ | with_reducible refine r_sc_normal ?_)
 refine r_block ?_
 refine r_loop (ι := Nat × Value) (fun gh => gh.1 ≤ B.spits.length) (fun gh => [(1, .func (.func 20) #[] #[pt ab 0, pt bb 0]), (2, pt b2 0), (4, pt b4 0), (5, i64 0), (6, gh.2), (7, .slice none 0 0), (19, .slice po B.spits.length pc), (20, i64 B.spits.length), (21, i64 gh.1)]) (fun gh => ownL gh.2 3 1 Sod2.encI (costTo (drawT bys) k0 B (gh.1)) :: bx ab 3 [i64 ((k0 + gh.1 : Nat) : Int)] :: bx b2 37 (cellsS B po pc so sc lo lc) :: bx b4 37 [.slice po B.spits.length pc, .slice so B.days.length sc, .slice none 0 0] :: M) (fun gh => [rowD po 3 encSp B.spits, rowD so 2 encS B.days, rowD lo 3 encLg B.logs, boxF bb 28 [.slice ba bys.length bc], rowD ba 1 encU bys] ++ Rf) (fun gh => B.spits.length - gh.1) (0, .slice none 0 0) ?_ ?_ ?_
 ·
  refine Imp.own_to (.slice none 0 0) (costTo (drawT bys) k0 B (0)) rfl ?_
  exact r_here (by repeat (first | exact FSub.nil | refine FSub.cons rfl ?_)) SelMC.sel SubRC.sub
 ·
  exact Nat.zero_le _
 ·
  rintro ⟨k, v⟩ hI0
  dsimp only at hI0
  dsimp only
  refine r_seq ?_
  refine r_region ?_
  refine o_q _ rfl rfl rfl (v_lss rfl rfl rfl) ?_
  refine o_nil ?_
  repeat (first | with_reducible refine r_then ?_ | with_reducible refine r_in_normal ?_ | with_reducible refine r_sc_normal ?_)
  refine r_seq ?_
  first | refine r_condd rfl (fun hc22 => ?_) (fun hc22 => ?_) | refine r_cond rfl (fun hc22 => ?_) (fun hc22 => ?_)
  ·
   first
   | (exfalso; revert hc22; decide)
   | (exfalso; omega)
   |
    skip
    refine r_skip ?_
    repeat (first | with_reducible refine r_then ?_ | with_reducible refine r_in_normal ?_ | with_reducible refine r_sc_normal ?_)
    refine r_seq ?_
    refine r_block ?_
    refine r_seq ?_
    refine r_region ?_
    first | refine o_q _ rfl rfl rfl (v_indexAddrSn rfl Try.underlying34 inf67 rfl rfl rfl (by omega) rfl) ?_ | refine o_q _ rfl rfl rfl (v_indexAddrS rfl Try.underlying34 inf67 rfl rfl rfl (by omega) (by omega) rfl) ?_
    first | refine o_q _ rfl rfl rfl (v_ldW rfl Try.underlying67 rfl inf67 rfl rfl) ?_ | refine o_q _ rfl rfl rfl (v_lfW rfl Try.underlying67 rfl inf67 rfl rfl) ?_ | refine o_q _ rfl rfl rfl (v_lfN rfl Try.underlying67 rfl inf67 rfl rfl rfl) ?_ | refine o_q _ rfl rfl rfl (v_ldN rfl Try.underlying67 rfl inf67 rfl rfl rfl) ?_ | refine o_q _ rfl rfl rfl (v_loadEN rfl Try.underlying67 rfl inf67 rfl (by omega) rfl rfl rfl) ?_
    refine o_alloc rfl inf67 rfl rfl rfl rfl rfl (fun b9 => ?_)
    refine o_st rfl inf67 rfl rfl rfl rfl rfl rfl rfl rfl ?_
    refine o_nil ?_
    repeat (first | with_reducible refine r_then ?_ | with_reducible refine r_in_normal ?_ | with_reducible refine r_sc_normal ?_)
    refine Imp.box_to b9 [i64 (B.spits.getD k default).sods, i64 (B.spits.getD k default).lo, i64 (B.spits.getD k default).hi] rfl ?_
    have hsp := hg.2.2.2.1 k (by omega)
    have hs1 : (spD (B.spits.getD k default)).lo = (B.spits.getD k default).lo := rfl
    have hs2 : (spD (B.spits.getD k default)).hi = (B.spits.getD k default).hi := rfl
    have hlen : (costTo (drawT bys) k0 B (k)).length = k := costTo_len
    refine r_region ?_
    refine o_q _ rfl rfl rfl (v_move rfl rfl) ?_
    refine o_q _ rfl rfl rfl (v_move rfl rfl) ?_
    first | refine o_q _ rfl rfl rfl (v_fieldAddr rfl Try.underlying67 inf42 rfl rfl rfl rfl) ?_ | refine o_q _ rfl rfl rfl (v_fieldAddrE rfl Try.underlying67 inf42 rfl rfl rfl rfl) ?_
    first | refine o_q _ rfl rfl rfl (v_ldW rfl Try.underlying42 rfl inf42 rfl rfl) ?_ | refine o_q _ rfl rfl rfl (v_lfW rfl Try.underlying42 rfl inf42 rfl rfl) ?_ | refine o_q _ rfl rfl rfl (v_lfN rfl Try.underlying42 rfl inf42 rfl rfl rfl) ?_ | refine o_q _ rfl rfl rfl (v_ldN rfl Try.underlying42 rfl inf42 rfl rfl rfl) ?_ | refine o_q _ rfl rfl rfl (v_loadEN rfl Try.underlying42 rfl inf42 rfl (by omega) rfl rfl rfl) ?_
    refine o_fnc (draw1_c bys ba bc hu hbl ab bb (k0 + k) (spD (B.spits.getD k default)) (by omega) (by omega) (by omega) (by omega)) rfl [] [pt ab 0, pt bb 0] rfl rfl rfl rfl rfl rfl SubRC.sub ?_
    refine o_lit rfl Try.underlying33 inf3 rfl rfl rfl rfl rfl rfl rfl rfl (by repeat (first | exact trivial | refine ⟨rfl, ?_⟩)) (by rfl) (fun b30 => ?_)
    refine o_app1 (drawT bys (k0 + k + 1) (spD (B.spits.getD k default))) rfl Try.underlying33 inf3 rfl (by rfl) (by rfl) rfl rfl rfl rfl rfl (by rfl) (by rfl) (by rfl) (by first | omega | (constructor <;> first | omega | decide)) (fun v31 => ?_)
    refine o_q _ rfl rfl rfl (v_assign rfl rfl) ?_
    refine o_nil ?_
    repeat (first | with_reducible refine r_then ?_ | with_reducible refine r_in_normal ?_ | with_reducible refine r_sc_normal ?_)
    refine r_region ?_
    refine o_q _ rfl rfl rfl (v_add rfl rfl rfl (by omega)) ?_
    refine o_q _ rfl rfl rfl (v_move rfl rfl) ?_
    refine o_nil ?_
    repeat (first | with_reducible refine r_then ?_ | with_reducible refine r_in_normal ?_ | with_reducible refine r_sc_normal ?_)
    first
    | exact r_next ((k + 1, v31)) (by refine Imp.own_to v31 (costTo (drawT bys) k0 B (k + 1)) costTo_s ?_; exact r_here (by repeat (first | exact FSub.nil | refine FSub.cons rfl ?_)) SelMC.sel SubRC.sub) (by first | omega | (show _ + 1 ≤ _; omega)) (by first | omega | (show _ - (_ + 1) < _ - _; omega))
  ·
   first
   | (exfalso; revert hc22; decide)
   | (exfalso; omega)
   |
    skip
    refine r_exit ?_
    repeat (first | with_reducible refine r_then_exit ?_ | with_reducible refine r_sc_exit ?_ | with_reducible refine r_in_here ?_ | (with_reducible refine r_in_past (by decide) ?_) | with_reducible refine r_then ?_ | with_reducible refine r_in_normal ?_ | with_reducible refine r_sc_normal ?_)
    refine r_seq ?_
    have hk9 : k = B.spits.length := (by omega)
    subst hk9
    refine Imp.settleS v Sod2.encI_len (fun oc cc hc6 => ?_)
    subst hc6
    refine Imp.nilL 3 1 Sod2.encI ?_
    have hcb : ∀ k, k < (costD (drawT bys) k0 B).length → 1 ≤ (costD (drawT bys) k0 B).getD k default ∧ (costD (drawT bys) k0 B).getD k default ≤ 6 := fun k hk => cost_16 hf hg (by rw [costTo_len] at hk; exact hk)
    refine r_region ?_
    refine o_q _ rfl rfl rfl (v_assign rfl rfl) ?_
    refine o_nil ?_
    repeat (first | with_reducible refine r_then ?_ | with_reducible refine r_in_normal ?_ | with_reducible refine r_sc_normal ?_)
    refine r_seq ?_
    refine r_seq ?_
    refine r_region ?_
    first | refine o_q _ rfl rfl rfl (v_fieldAddr rfl Try.underlying37 inf22 rfl rfl rfl rfl) ?_ | refine o_q _ rfl rfl rfl (v_fieldAddrE rfl Try.underlying37 inf22 rfl rfl rfl rfl) ?_
    first | refine o_q _ rfl rfl rfl (v_ld1 rfl Try.underlying22 rfl rfl rfl) ?_ | refine o_q _ rfl rfl rfl (v_lf1 rfl Try.underlying22 rfl rfl rfl) ?_ | refine o_q _ rfl rfl rfl (v_loadE1 rfl Try.underlying22 rfl rfl (by omega) rfl rfl) ?_
    refine o_q _ rfl rfl rfl (v_len rfl rfl Try.underlying22 rfl) ?_
    refine o_q _ rfl rfl rfl (v_move rfl rfl) ?_
    refine o_nil ?_
    repeat (first | with_reducible refine r_then ?_ | with_reducible refine r_in_normal ?_ | with_reducible refine r_sc_normal ?_)
    refine r_block ?_
    refine r_loop (ι := Nat × Value) (fun gh => gh.1 ≤ B.days.length) (fun gh => [(1, .func (.func 20) #[] #[pt ab 0, pt bb 0]), (2, pt b2 0), (4, pt b4 0), (5, i64 0), (6, .slice oc (costD (drawT bys) k0 B).length cc), (7, gh.2), (10, i64 (strD (drawT bys) k0 B gh.1)), (34, .slice so B.days.length sc), (35, i64 B.days.length), (36, i64 gh.1)]) (fun gh => ownL gh.2 3 1 Sod2.encI (daysTo (drawT bys) k0 B (gh.1)) :: bx ab 3 [i64 ((k0 + B.spits.length + gh.1 : Nat) : Int)] :: bx b2 37 (cellsS B po pc so sc lo lc) :: bx b4 37 [.slice po B.spits.length pc, .slice so B.days.length sc, .slice none 0 0] :: M) (fun gh => rowD oc 1 Sod2.encI (costD (drawT bys) k0 B) :: [rowD po 3 encSp B.spits, rowD so 2 encS B.days, rowD lo 3 encLg B.logs, boxF bb 28 [.slice ba bys.length bc], rowD ba 1 encU bys] ++ Rf) (fun gh => B.days.length - gh.1) (0, .slice none 0 0) ?_ ?_ ?_
    ·
     refine Imp.own_to (.slice none 0 0) (daysTo (drawT bys) k0 B (0)) rfl ?_
     exact r_here (by repeat (first | exact FSub.nil | refine FSub.cons rfl ?_)) SelMC.sel SubRC.sub
    ·
     exact Nat.zero_le _
    ·
     rintro ⟨k, v⟩ hI1
     dsimp only at hI1
     dsimp only
     refine r_seq ?_
     refine r_region ?_
     refine o_q _ rfl rfl rfl (v_lss rfl rfl rfl) ?_
     refine o_nil ?_
     repeat (first | with_reducible refine r_then ?_ | with_reducible refine r_in_normal ?_ | with_reducible refine r_sc_normal ?_)
     refine r_seq ?_
     first | refine r_condd rfl (fun hc37 => ?_) (fun hc37 => ?_) | refine r_cond rfl (fun hc37 => ?_) (fun hc37 => ?_)
     ·
      first
      | (exfalso; revert hc37; decide)
      | (exfalso; omega)
      |
       skip
       refine r_skip ?_
       repeat (first | with_reducible refine r_then ?_ | with_reducible refine r_in_normal ?_ | with_reducible refine r_sc_normal ?_)
       refine r_seq ?_
       refine r_block ?_
       refine r_seq ?_
       refine r_region ?_
       first | refine o_q _ rfl rfl rfl (v_indexAddrSn rfl Try.underlying22 inf42 rfl rfl rfl (by omega) rfl) ?_ | refine o_q _ rfl rfl rfl (v_indexAddrS rfl Try.underlying22 inf42 rfl rfl rfl (by omega) (by omega) rfl) ?_
       first | refine o_q _ rfl rfl rfl (v_ldW rfl Try.underlying42 rfl inf42 rfl rfl) ?_ | refine o_q _ rfl rfl rfl (v_lfW rfl Try.underlying42 rfl inf42 rfl rfl) ?_ | refine o_q _ rfl rfl rfl (v_lfN rfl Try.underlying42 rfl inf42 rfl rfl rfl) ?_ | refine o_q _ rfl rfl rfl (v_ldN rfl Try.underlying42 rfl inf42 rfl rfl rfl) ?_ | refine o_q _ rfl rfl rfl (v_loadEN rfl Try.underlying42 rfl inf42 rfl (by omega) rfl rfl rfl) ?_
       refine o_alloc rfl inf42 rfl rfl rfl rfl rfl (fun b12 => ?_)
       refine o_st rfl inf42 rfl rfl rfl rfl rfl rfl rfl rfl ?_
       refine o_nil ?_
       repeat (first | with_reducible refine r_then ?_ | with_reducible refine r_in_normal ?_ | with_reducible refine r_sc_normal ?_)
       refine r_seq ?_
       refine Imp.box_to b12 [i64 (B.days.getD k default).lo, i64 (B.days.getD k default).hi] rfl ?_
       have hsd := hg.2.2.2.2.1 k (by omega)
       have hdr := str_day (k0 := k0) hf hg (d := k) (by omega)
       have hst := str_bd (k0 := k0) hf hg k (by omega)
       have hst1 := str_bd (k0 := k0) hf hg (k + 1) (by omega)
       have hlen : (daysTo (drawT bys) k0 B (k)).length = k := daysTo_len
       have hse : strD (drawT bys) k0 B (k + 1) = strD (drawT bys) k0 B k + drawT bys (k0 + B.spits.length + k + 1) (B.days.getD k default) := rfl
       refine r_region ?_
       refine o_q _ rfl rfl rfl (v_move rfl rfl) ?_
       refine o_q _ rfl rfl rfl (v_move rfl rfl) ?_
       first | refine o_q _ rfl rfl rfl (v_ldW rfl Try.underlying42 rfl inf42 rfl rfl) ?_ | refine o_q _ rfl rfl rfl (v_lfW rfl Try.underlying42 rfl inf42 rfl rfl) ?_ | refine o_q _ rfl rfl rfl (v_lfN rfl Try.underlying42 rfl inf42 rfl rfl rfl) ?_ | refine o_q _ rfl rfl rfl (v_ldN rfl Try.underlying42 rfl inf42 rfl rfl rfl) ?_ | refine o_q _ rfl rfl rfl (v_loadEN rfl Try.underlying42 rfl inf42 rfl (by omega) rfl rfl rfl) ?_
       refine o_fnc (draw1_c bys ba bc hu hbl ab bb (k0 + B.spits.length + k) (B.days.getD k default) (by omega) (by omega) (by omega) (by omega)) rfl [] [pt ab 0, pt bb 0] rfl rfl rfl rfl rfl rfl SubRC.sub ?_
       refine o_q _ rfl rfl rfl (v_cast (v := i64 (strD (drawT bys) k0 B (k + 1))) (v_add rfl rfl rfl (by omega)) rfl) ?_
       refine o_q _ rfl rfl rfl (v_assign rfl rfl) ?_
       refine o_nil ?_
       repeat (first | with_reducible refine r_then ?_ | with_reducible refine r_in_normal ?_ | with_reducible refine r_sc_normal ?_)
       refine r_region ?_
       refine o_q _ rfl rfl rfl (v_move rfl rfl) ?_
       refine o_q _ rfl rfl rfl (v_move rfl rfl) ?_
       refine o_lit rfl Try.underlying33 inf3 rfl rfl rfl rfl rfl rfl rfl rfl (by repeat (first | exact trivial | refine ⟨rfl, ?_⟩)) (by rfl) (fun b47 => ?_)
       refine o_app1 (strD (drawT bys) k0 B (k + 1)) rfl Try.underlying33 inf3 rfl (by rfl) (by rfl) rfl rfl rfl rfl rfl (by rfl) (by rfl) (by rfl) (by first | omega | (constructor <;> first | omega | decide)) (fun v48 => ?_)
       refine o_q _ rfl rfl rfl (v_assign rfl rfl) ?_
       refine o_nil ?_
       repeat (first | with_reducible refine r_then ?_ | with_reducible refine r_in_normal ?_ | with_reducible refine r_sc_normal ?_)
       refine r_region ?_
       refine o_q _ rfl rfl rfl (v_add rfl rfl rfl (by omega)) ?_
       refine o_q _ rfl rfl rfl (v_move rfl rfl) ?_
       refine o_nil ?_
       repeat (first | with_reducible refine r_then ?_ | with_reducible refine r_in_normal ?_ | with_reducible refine r_sc_normal ?_)
       first
       | exact r_next ((k + 1, v48)) (by refine Imp.own_to v48 (daysTo (drawT bys) k0 B (k + 1)) daysTo_s ?_; exact r_here (by repeat (first | exact FSub.nil | refine FSub.cons rfl ?_)) SelMC.sel SubRC.sub) (by first | omega | (show _ + 1 ≤ _; omega)) (by first | omega | (show _ - (_ + 1) < _ - _; omega))
     ·
      first
      | (exfalso; revert hc37; decide)
      | (exfalso; omega)
      |
       skip
       refine r_exit ?_
       repeat (first | with_reducible refine r_then_exit ?_ | with_reducible refine r_sc_exit ?_ | with_reducible refine r_in_here ?_ | (with_reducible refine r_in_past (by decide) ?_) | with_reducible refine r_then ?_ | with_reducible refine r_in_normal ?_ | with_reducible refine r_sc_normal ?_)
       refine r_seq ?_
       refine r_seq ?_
       have hk9 : k = B.days.length := (by omega)
       subst hk9
       refine Imp.settleS v Sod2.encI_len (fun od cd hd7 => ?_)
       subst hd7
       refine Imp.nilL 70 3 encLg ?_
       refine r_region ?_
       first | refine o_q _ rfl rfl rfl (v_fieldAddr rfl Try.underlying37 inf35 rfl rfl rfl rfl) ?_ | refine o_q _ rfl rfl rfl (v_fieldAddrE rfl Try.underlying37 inf35 rfl rfl rfl rfl) ?_
       first | refine o_q _ rfl rfl rfl (v_ld1 rfl Try.underlying35 rfl rfl rfl) ?_ | refine o_q _ rfl rfl rfl (v_lf1 rfl Try.underlying35 rfl rfl rfl) ?_ | refine o_q _ rfl rfl rfl (v_loadE1 rfl Try.underlying35 rfl rfl (by omega) rfl rfl) ?_
       refine o_q _ rfl rfl rfl (v_len rfl rfl Try.underlying35 rfl) ?_
       refine o_q _ rfl rfl rfl (v_move rfl rfl) ?_
       refine o_nil ?_
       repeat (first | with_reducible refine r_then ?_ | with_reducible refine r_in_normal ?_ | with_reducible refine r_sc_normal ?_)
       refine r_block ?_
       refine r_loop (ι := Nat × Value) (fun gh => gh.1 ≤ B.logs.length) (fun gh => [(1, .func (.func 20) #[] #[pt ab 0, pt bb 0]), (2, pt b2 0), (4, pt b4 0), (5, i64 0), (6, .slice oc (costD (drawT bys) k0 B).length cc), (7, .slice od (daysTo (drawT bys) k0 B (B.days.length)).length cd), (10, i64 (strD (drawT bys) k0 B B.days.length)), (51, .slice lo B.logs.length lc), (52, i64 B.logs.length), (53, i64 gh.1)]) (fun gh => ownL gh.2 70 3 encLg (logsTo (drawT bys) k0 B (gh.1)) :: bx ab 3 [i64 ((k0 + B.spits.length + B.days.length : Nat) : Int)] :: bx b2 37 (cellsS B po pc so sc lo lc) :: bx b4 37 [.slice po B.spits.length pc, .slice so B.days.length sc, gh.2] :: M) (fun gh => rowD od 1 Sod2.encI (daysTo (drawT bys) k0 B (B.days.length)) :: rowD oc 1 Sod2.encI (costD (drawT bys) k0 B) :: [rowD po 3 encSp B.spits, rowD so 2 encS B.days, rowD lo 3 encLg B.logs, boxF bb 28 [.slice ba bys.length bc], rowD ba 1 encU bys] ++ Rf) (fun gh => B.logs.length - gh.1) (0, .slice none 0 0) ?_ ?_ ?_
       ·
        refine Imp.own_to (.slice none 0 0) (logsTo (drawT bys) k0 B (0)) rfl ?_
        exact r_here (by repeat (first | exact FSub.nil | refine FSub.cons rfl ?_)) SelMC.sel SubRC.sub
       ·
        exact Nat.zero_le _
       ·
        rintro ⟨k, v⟩ hI2
        dsimp only at hI2
        dsimp only
        refine r_seq ?_
        refine r_region ?_
        refine o_q _ rfl rfl rfl (v_lss rfl rfl rfl) ?_
        refine o_nil ?_
        repeat (first | with_reducible refine r_then ?_ | with_reducible refine r_in_normal ?_ | with_reducible refine r_sc_normal ?_)
        refine r_seq ?_
        first | refine r_condd rfl (fun hc54 => ?_) (fun hc54 => ?_) | refine r_cond rfl (fun hc54 => ?_) (fun hc54 => ?_)
        ·
         first
         | (exfalso; revert hc54; decide)
         | (exfalso; omega)
         |
          skip
          refine r_skip ?_
          repeat (first | with_reducible refine r_then ?_ | with_reducible refine r_in_normal ?_ | with_reducible refine r_sc_normal ?_)
          refine r_seq ?_
          refine r_block ?_
          refine r_seq ?_
          refine r_region ?_
          first | refine o_q _ rfl rfl rfl (v_indexAddrSn rfl Try.underlying35 inf70 rfl rfl rfl (by omega) rfl) ?_ | refine o_q _ rfl rfl rfl (v_indexAddrS rfl Try.underlying35 inf70 rfl rfl rfl (by omega) (by omega) rfl) ?_
          first | refine o_q _ rfl rfl rfl (v_ldW rfl Try.underlying70 rfl inf70 rfl rfl) ?_ | refine o_q _ rfl rfl rfl (v_lfW rfl Try.underlying70 rfl inf70 rfl rfl) ?_ | refine o_q _ rfl rfl rfl (v_lfN rfl Try.underlying70 rfl inf70 rfl rfl rfl) ?_ | refine o_q _ rfl rfl rfl (v_ldN rfl Try.underlying70 rfl inf70 rfl rfl rfl) ?_ | refine o_q _ rfl rfl rfl (v_loadEN rfl Try.underlying70 rfl inf70 rfl (by omega) rfl rfl rfl) ?_
          refine o_alloc rfl inf70 rfl rfl rfl rfl rfl (fun b14 => ?_)
          refine o_st rfl inf70 rfl rfl rfl rfl rfl rfl rfl rfl ?_
          refine o_nil ?_
          repeat (first | with_reducible refine r_then ?_ | with_reducible refine r_in_normal ?_ | with_reducible refine r_sc_normal ?_)
          refine r_seq ?_
          refine Imp.box_to b14 [i64 (B.logs.getD k default).day, i64 (B.logs.getD k default).lo, i64 (B.logs.getD k default).hi] rfl ?_
          have hlg := hg.2.2.2.2.2 k (by omega)
          have hlen : (logsTo (drawT bys) k0 B (k)).length = k := logsTo_len
          have hdl : (daysTo (drawT bys) k0 B (B.days.length)).length = B.days.length := daysTo_len
          have hcl : (costD (drawT bys) k0 B).length = B.spits.length := costTo_len
          have hst := str_bd (k0 := k0) hf hg ((B.logs.getD k default).day.toNat + 1) (by omega)
          have hln := logN_bd (k0 := k0) hf hg (k := k) (by omega)
          refine r_region_q mixed (by kernel_rfl) ?_
          first | refine q_q _ rfl rfl rfl (v_ldW rfl Try.underlying37 rfl inf37 rfl rfl) ?_ | refine q_q _ rfl rfl rfl (v_lfW rfl Try.underlying37 rfl inf37 rfl rfl) ?_ | refine q_q _ rfl rfl rfl (v_lfN rfl Try.underlying37 rfl inf37 rfl rfl rfl) ?_ | refine q_q _ rfl rfl rfl (v_ldN rfl Try.underlying37 rfl inf37 rfl rfl rfl) ?_ | refine q_q _ rfl rfl rfl (v_loadEN rfl Try.underlying37 rfl inf37 rfl (by omega) rfl rfl rfl) ?_
          refine q_q _ rfl rfl rfl (v_move rfl rfl) ?_
          refine q_q _ rfl rfl rfl (v_move rfl rfl) ?_
          first | refine q_q _ rfl rfl rfl (v_fieldAddr rfl Try.underlying70 inf3 rfl rfl rfl rfl) ?_ | refine q_q _ rfl rfl rfl (v_fieldAddrE rfl Try.underlying70 inf3 rfl rfl rfl rfl) ?_
          first | refine q_q _ rfl rfl rfl (v_ld1 rfl Try.underlying3 rfl rfl rfl) ?_ | refine q_q _ rfl rfl rfl (v_lf1 rfl Try.underlying3 rfl rfl rfl) ?_ | refine q_q _ rfl rfl rfl (v_loadE1 rfl Try.underlying3 rfl rfl (by omega) rfl rfl) ?_
          first | refine q_q _ rfl rfl rfl (v_indexAddrSn rfl Try.underlying33 inf3 rfl rfl rfl (by omega) rfl) ?_ | refine q_q _ rfl rfl rfl (v_indexAddrS rfl Try.underlying33 inf3 rfl rfl rfl (by omega) (by omega) rfl) ?_
          refine q_q _ rfl rfl rfl (v_cast (v := i64 (strD (drawT bys) k0 B ((B.logs.getD k default).day.toNat + 1))) (v_loadE1 rfl Try.underlying3 rfl rfl (by omega) rfl rfl) (by rw [daysTo_at (by omega)])) ?_
          refine q_q _ rfl rfl rfl (v_cast (v := i64 (logN (drawT bys) k0 B (B.logs.getD k default))) (OpQ.fn (SodW.Sods_v B po so lo pc sc lc (costD (drawT bys) k0 B) oc cc (strD (drawT bys) k0 B ((B.logs.getD k default).day.toNat + 1)) hg costTo_len hcb (by omega)) rfl rfl SubRC.sub) rfl) ?_
          refine q_q _ rfl rfl rfl (v_assign rfl rfl) ?_
          refine q_nil ?_
          repeat (first | with_reducible refine r_then ?_ | with_reducible refine r_in_normal ?_ | with_reducible refine r_sc_normal ?_)
          refine r_par' 12 mixed (by kernel_rfl) (by rfl) ?_
          first | refine p_q _ rfl rfl rfl (fun _ _ => v_fieldAddr rfl Try.underlying37 inf35 rfl rfl rfl rfl) ?_ | refine p_q _ rfl rfl rfl (fun _ _ => v_fieldAddrE rfl Try.underlying37 inf35 rfl rfl rfl rfl) ?_
          first | refine p_q _ rfl rfl rfl (fun _ _ => v_ld1 rfl Try.underlying35 rfl rfl rfl) ?_ | refine p_q _ rfl rfl rfl (fun _ _ => v_lf1 rfl Try.underlying35 rfl rfl rfl) ?_ | refine p_q _ rfl rfl rfl (fun _ _ => v_loadE1 rfl Try.underlying35 rfl rfl (by omega) rfl rfl) ?_
          first | refine p_q _ rfl rfl rfl (fun _ _ => v_fieldAddr rfl Try.underlying70 inf3 rfl rfl rfl rfl) ?_ | refine p_q _ rfl rfl rfl (fun _ _ => v_fieldAddrE rfl Try.underlying70 inf3 rfl rfl rfl rfl) ?_
          first | refine p_q _ rfl rfl rfl (fun _ _ => v_ld1 rfl Try.underlying3 rfl rfl rfl) ?_ | refine p_q _ rfl rfl rfl (fun _ _ => v_lf1 rfl Try.underlying3 rfl rfl rfl) ?_ | refine p_q _ rfl rfl rfl (fun _ _ => v_loadE1 rfl Try.underlying3 rfl rfl (by omega) rfl rfl) ?_
          refine p_q _ rfl rfl rfl (fun _ _ => v_move rfl rfl) ?_
          refine p_q _ rfl rfl rfl (fun _ _ => v_sub rfl rfl rfl (by omega)) ?_
          first | refine p_q _ rfl rfl rfl (fun _ _ => v_max2 rfl rfl rfl) ?_ | refine p_q _ rfl rfl rfl (fun _ _ => v_max3 rfl rfl rfl rfl) ?_
          refine p_q _ rfl rfl rfl (fun _ _ => v_move rfl rfl) ?_
          refine p_q _ rfl rfl rfl (fun _ _ => v_add rfl rfl rfl (by omega)) ?_
          refine p_q _ rfl rfl rfl (fun _ _ => OpQ.fn (span04_v _ _) rfl rfl SubRC.sub) ?_
          refine p_q _ rfl rfl rfl (fun _ _ => v_bS rfl Try.underlying70 inf70 plt70 rfl rfl rfl (by repeat (first | exact trivial | refine ⟨rfl, ?_⟩)) (by rfl)) ?_
          refine p_lit rfl Try.underlying35 inf70 rfl rfl rfl rfl rfl rfl rfl rfl (by repeat (first | exact trivial | refine ⟨rfl, ?_⟩)) (by rfl) ?_
          refine p_nil2 (by simp only [List.nil_append, List.cons_append]; rfl) rfl ?_
          refine f_q rfl ?_
          refine f_q rfl ?_
          refine f_q rfl ?_
          refine f_q rfl ?_
          refine f_q rfl ?_
          refine f_q rfl ?_
          refine f_q rfl ?_
          refine f_q rfl ?_
          refine f_q rfl ?_
          refine f_q rfl ?_
          refine f_q rfl ?_
          refine f_lit rfl (fun b76 => ?_)
          refine f_nil ?_
          refine o_app1F (logX (drawT bys) k0 B (B.logs.getD k default)) rfl Try.underlying35 inf70 rfl (by rfl) (by rfl) rfl rfl rfl rfl rfl (by rfl) (by rfl) (by rfl) (by first | omega | (constructor <;> first | omega | decide)) (fun v77 => ?_)
          refine Imp.own_is v77 (fun hs77 => ?_)
          obtain ⟨oa77, cp77, rfl⟩ := hs77
          first | refine o_q _ rfl rfl rfl (v_fieldAddr rfl Try.underlying37 inf35 rfl rfl rfl rfl) ?_ | refine o_q _ rfl rfl rfl (v_fieldAddrE rfl Try.underlying37 inf35 rfl rfl rfl rfl) ?_
          refine o_st rfl inf35 rfl rfl rfl rfl rfl rfl rfl rfl ?_
          refine o_nil ?_
          repeat (first | with_reducible refine r_then ?_ | with_reducible refine r_in_normal ?_ | with_reducible refine r_sc_normal ?_)
          refine r_region ?_
          refine o_q _ rfl rfl rfl (v_add rfl rfl rfl (by omega)) ?_
          refine o_q _ rfl rfl rfl (v_move rfl rfl) ?_
          refine o_nil ?_
          repeat (first | with_reducible refine r_then ?_ | with_reducible refine r_in_normal ?_ | with_reducible refine r_sc_normal ?_)
          first
          | exact r_next ((k + 1, .slice oa77 ((logsTo (drawT bys) k0 B (k)) ++ [logX (drawT bys) k0 B (B.logs.getD k default)]).length cp77)) (by refine Imp.own_to (.slice oa77 ((logsTo (drawT bys) k0 B (k)) ++ [logX (drawT bys) k0 B (B.logs.getD k default)]).length cp77) (logsTo (drawT bys) k0 B (k + 1)) logsTo_s ?_; refine Imp.box_to b4 [.slice po B.spits.length pc, .slice so B.days.length sc, .slice oa77 ((logsTo (drawT bys) k0 B (k)) ++ [logX (drawT bys) k0 B (B.logs.getD k default)]).length cp77] rfl ?_; exact r_here (by repeat (first | exact FSub.nil | refine FSub.cons rfl ?_)) SelMC.sel SubRC.sub) (by first | omega | (show _ + 1 ≤ _; omega)) (by first | omega | (show _ - (_ + 1) < _ - _; omega))
        ·
         first
         | (exfalso; revert hc54; decide)
         | (exfalso; omega)
         |
          skip
          refine r_exit ?_
          repeat (first | with_reducible refine r_then_exit ?_ | with_reducible refine r_sc_exit ?_ | with_reducible refine r_in_here ?_ | (with_reducible refine r_in_past (by decide) ?_) | with_reducible refine r_then ?_ | with_reducible refine r_in_normal ?_ | with_reducible refine r_sc_normal ?_)
          refine r_seq ?_
          have hk9 : k = B.logs.length := (by omega)
          subst hk9
          refine Imp.own_is v (fun hsv => ?_)
          obtain ⟨oav, cpv, rfl⟩ := hsv
          have hst := str_bd (k0 := k0) hf hg B.days.length (Nat.le_refl _)
          refine r_par' 5 mixed (by kernel_rfl) (by rfl) ?_
          first | refine p_q _ rfl rfl rfl (fun _ _ => v_ldW rfl Try.underlying37 rfl inf37 rfl rfl) ?_ | refine p_q _ rfl rfl rfl (fun _ _ => v_lfW rfl Try.underlying37 rfl inf37 rfl rfl) ?_ | refine p_q _ rfl rfl rfl (fun _ _ => v_lfN rfl Try.underlying37 rfl inf37 rfl rfl rfl) ?_ | refine p_q _ rfl rfl rfl (fun _ _ => v_ldN rfl Try.underlying37 rfl inf37 rfl rfl rfl) ?_ | refine p_q _ rfl rfl rfl (fun _ _ => v_loadEN rfl Try.underlying37 rfl inf37 rfl (by omega) rfl rfl rfl) ?_
          first | refine p_q _ rfl rfl rfl (fun _ _ => v_ldW rfl Try.underlying37 rfl inf37 rfl rfl) ?_ | refine p_q _ rfl rfl rfl (fun _ _ => v_lfW rfl Try.underlying37 rfl inf37 rfl rfl) ?_ | refine p_q _ rfl rfl rfl (fun _ _ => v_lfN rfl Try.underlying37 rfl inf37 rfl rfl rfl) ?_ | refine p_q _ rfl rfl rfl (fun _ _ => v_ldN rfl Try.underlying37 rfl inf37 rfl rfl rfl) ?_ | refine p_q _ rfl rfl rfl (fun _ _ => v_loadEN rfl Try.underlying37 rfl inf37 rfl (by omega) rfl rfl rfl) ?_
          refine p_q _ rfl rfl rfl (fun _ _ => v_move rfl rfl) ?_
          refine p_q _ rfl rfl rfl (fun _ _ => v_move rfl rfl) ?_
          refine p_q _ rfl rfl rfl (fun _ _ => OpQ.fn (SodW.Sods_v B po so lo pc sc lc (costD (drawT bys) k0 B) oc cc (strD (drawT bys) k0 B B.days.length) hg costTo_len hcb (by omega)) rfl rfl SubRC.sub) ?_
          refine p_nil2 (by simp only [List.nil_append, List.cons_append]; rfl) rfl ?_
          refine f_q rfl ?_
          refine f_q rfl ?_
          refine f_q rfl ?_
          refine f_q rfl ?_
          refine f_q rfl ?_
          refine f_nil ?_
          refine o_st rfl inf37 rfl rfl rfl rfl rfl rfl rfl rfl ?_
          refine o_q _ rfl rfl rfl (v_assign rfl rfl) ?_
          refine o_nil ?_
          repeat (first | with_reducible refine r_then ?_ | with_reducible refine r_in_normal ?_ | with_reducible refine r_sc_normal ?_)
          refine r_ret ?_
          repeat (first | with_reducible refine r_then_ret ?_ | with_reducible refine r_in_ret ?_ | with_reducible refine r_sc_ret ?_)
          refine Imp.settleS (.slice oav (logsTo (drawT bys) k0 B (B.logs.length)).length cpv) encLg_len (fun ox cx hx7 => ?_)
          cases hx7
          exact r_rete [bx ab 3 [i64 ((k0 + B.spits.length + B.days.length : Nat) : Int)]] [rowD oav 3 encLg (bankX (drawT bys) k0 B).logs] (Rd.two rfl (RdI.cellW Try.underlying37 rfl inf37 rfl rfl) (RdI.tmp rfl)) ⟨(oav, cpv), rfl, trivial, rfl, rfl⟩ SelMC.sel SubRC.sub
end Go.Proofs.Ytpndeonmmcaikaa


namespace Sod2
open Go Go.G Foot4
def ownHp (F : Work) (g : Nat → Int) (k i : Nat) : Heap := ⟨(F.heaps.getD i default).lo, (F.heaps.getD i default).hi, if i < k then g i else (F.heaps.getD i default).sods⟩
def ownH (F : Work) (g : Nat → Int) (k : Nat) : List Heap := (List.range F.heaps.length).map (ownHp F g k)
@[reducible] def ownF (F : Work) (g : Nat → Int) : Work := ⟨F.rain, F.men, F.lim, F.dr, ownH F g F.heaps.length⟩
theorem ownH_len {F : Work} {g : Nat → Int} {k : Nat} : (ownH F g k).length = F.heaps.length := by simp [ownH]
theorem ownH_at {F : Work} {g : Nat → Int} {k i : Nat} (h : i < F.heaps.length) : (ownH F g k).getD i default = ownHp F g k i := by simp [ownH, List.getD_eq_getElem?_getD, h]
theorem ownH_out {F : Work} {g : Nat → Int} {k i : Nat} (h : ¬ i < F.heaps.length) : (ownH F g k).getD i default = default := by
  rw [List.getD_eq_getElem?_getD, List.getElem?_eq_none (by rw [ownH_len]; omega)]; rfl
theorem heaps_out {F : Work} {i : Nat} (h : ¬ i < F.heaps.length) : F.heaps.getD i default = default := by
  rw [List.getD_eq_getElem?_getD, List.getElem?_eq_none (by omega)]; rfl
theorem ownH_0 {F : Work} {g : Nat → Int} : F.heaps = ownH F g 0 := by
  refine List.ext_getElem (by rw [ownH_len]) fun i h1 h2 => ?_
  have h3 := ownH_at (F := F) (g := g) (k := 0) h1
  rw [List.getD_eq_getElem?_getD, List.getElem?_eq_getElem h2] at h3
  rw [show (ownH F g 0)[i] = ownHp F g 0 i from h3]
  unfold ownHp
  rw [if_neg (by omega), List.getD_eq_getElem?_getD, List.getElem?_eq_getElem h1]
  rfl
theorem ownH_s {F : Work} {g : Nat → Int} {k : Nat} (h : k < F.heaps.length) : (ownH F g k).set k ⟨(F.heaps.getD k default).lo, (F.heaps.getD k default).hi, g k⟩ = ownH F g (k + 1) := by
  refine List.ext_getElem (by rw [List.length_set, ownH_len, ownH_len]) fun i h1 h2 => ?_
  have hi : i < F.heaps.length := by rw [ownH_len] at h2; exact h2
  have h3 := ownH_at (F := F) (g := g) (k := k + 1) hi
  have h4 := ownH_at (F := F) (g := g) (k := k) hi
  rw [List.getD_eq_getElem?_getD, List.getElem?_eq_getElem h2] at h3
  rw [List.getD_eq_getElem?_getD, List.getElem?_eq_getElem (show i < (ownH F g k).length by rw [ownH_len]; exact hi)] at h4
  rw [show (ownH F g (k + 1))[i] = ownHp F g (k + 1) i from h3, List.getElem_set]
  by_cases e : k = i
  · subst e; rw [if_pos rfl]; unfold ownHp; rw [if_pos (by omega)]
  · rw [if_neg e, show (ownH F g k)[i]'(by rw [ownH_len]; exact hi) = ownHp F g k i from h4]
    unfold ownHp
    by_cases h5 : i < k
    · rw [if_pos h5, if_pos (by omega)]
    · rw [if_neg h5, if_neg (by omega)]
theorem ownH_lo {F : Work} {g : Nat → Int} {k i : Nat} : ((ownH F g k).getD i default).lo = (F.heaps.getD i default).lo ∧ ((ownH F g k).getD i default).hi = (F.heaps.getD i default).hi := by
  by_cases h : i < F.heaps.length
  · rw [ownH_at h]; exact ⟨rfl, rfl⟩
  · rw [ownH_out h, heaps_out h]; exact ⟨rfl, rfl⟩
theorem ownF_sods {F : Work} {g : Nat → Int} {i : Nat} (h : i < F.heaps.length) : ((ownF F g).heaps.getD i default).sods = g i := by
  show ((ownH F g F.heaps.length).getD i default).sods = _
  rw [ownH_at h]; unfold ownHp; rw [if_pos h]
theorem good_own {F : Work} {g : Nat → Int} (hg : GoodF F) (hb : ∀ i, i < F.heaps.length → 0 ≤ g i ∧ g i ≤ 500) : GoodF (ownF F g) := by
  obtain ⟨g1, g2, g3, g4, g5, g6⟩ := hg
  refine ⟨g1, g2, ?_, g4, g5, fun k hk => ?_⟩
  · show ((ownH F g F.heaps.length).length : Int) ≤ 3
    rw [ownH_len]; exact g3
  · have hk2 : k < F.heaps.length := by
      have hk3 : k < (ownH F g F.heaps.length).length := hk
      rw [ownH_len] at hk3; exact hk3
    have h1 := ownH_lo (F := F) (g := g) (k := F.heaps.length) (i := k)
    have h2 := ownF_sods (g := g) hk2
    have h3 := g6 k hk2
    have h4 := hb k hk2
    exact ⟨by rw [h1.1, h1.2]; exact h3.1, by rw [h2]; exact h4⟩
theorem wet_own {F : Work} {g : Nat → Int} {sel : Int → Int → Int} {h : Nat} {p : T3} : ∀ d, wetS sel (ownF F g) h p d = wetS sel F h p d
  | 0 => by
    have h1 := ownH_lo (F := F) (g := g) (k := F.heaps.length) (i := h)
    show (sel ((ownH F g F.heaps.length).getD h default).lo ((ownH F g F.heaps.length).getD h default).hi, 0) = _
    rw [h1.1, h1.2]; rfl
  | d + 1 => by simp only [wetS, wet_own d]
theorem can_own {F : Work} {g : Nat → Int} {sel : Int → Int → Int} {h i : Nat} {p : T3} : canF sel (ownF F g) h p i ↔ canF sel F h p i := by
  unfold canF wetF
  simp only [wet_own]
theorem rule_own {F : Work} {g : Nat → Int} {l : List T3} {h i : Nat} : ruleP (ownF F g) l h i = ruleP F l h i := by
  unfold ruleP
  simp only [can_own]
theorem list_own {F : Work} {g : Nat → Int} {l : List T3} : ListOk (ownF F g) l ↔ ListOk F l := by
  unfold ListOk
  show ((l.length : Int) = ((ownH F g F.heaps.length).length : Int) ∧ _) ↔ _
  rw [ownH_len]
theorem sods_own {F : Work} {g g' : Nat → Int} {l : List T3} (hgg : ∀ i, i < F.heaps.length → g i ≤ g' i) : ∀ k, k ≤ F.heaps.length → sodsTo (ownF F g) l k ≤ sodsTo (ownF F g') l k
  | 0, _ => Int.le_refl _
  | k + 1, h => by
    have h1 := sods_own (l := l) hgg k (by omega)
    have h2 := ownF_sods (g := g) (show k < F.heaps.length by omega)
    have h3 := ownF_sods (g := g') (show k < F.heaps.length by omega)
    have h4 := hgg k (by omega)
    simp only [sodsTo]
    rw [h2, h3]
    split <;> omega
theorem best_own {F : Work} {g g' : Nat → Int} (hg : GoodF F) (hb : ∀ i, i < F.heaps.length → 0 ≤ g i ∧ g i ≤ 500) (hb' : ∀ i, i < F.heaps.length → 0 ≤ g' i ∧ g' i ≤ 500) (hgg : ∀ i, i < F.heaps.length → g i ≤ g' i) : bestS (ownF F g) F.men ≤ bestS (ownF F g') F.men := by
  have h1 := good_own hg hb
  have h2 := good_own hg hb'
  obtain ⟨b1, b2, b3, b4⟩ := bestL_right h1
  have hlen : (bestL (ownF F g)).length = F.heaps.length := by rw [bestL_len]; exact ownH_len
  have hl : (ownF F g').heaps.length = F.heaps.length := ownH_len
  have hl0 : (ownF F g).heaps.length = F.heaps.length := ownH_len
  have h3 := best_beats h2 (l := bestL (ownF F g)) (list_own.2 (list_own.1 b1)) (fun h hh i hi => by
    rw [rule_own, ← rule_own (g := g)]; exact b2 h (by rw [hl] at hh; rw [hl0]; exact hh) i hi)
  have h4 := sods_own (l := bestL (ownF F g)) hgg F.heaps.length (Nat.le_refl _)
  have e1 : sodsR (ownF F g) (bestL (ownF F g)) = sodsTo (ownF F g) (bestL (ownF F g)) F.heaps.length := by unfold sodsR; rw [hlen]
  have e2 : sodsR (ownF F g') (bestL (ownF F g)) = sodsTo (ownF F g') (bestL (ownF F g)) F.heaps.length := by unfold sodsR; rw [hlen]
  have h5 := h3.1
  have e3 : sodsR (ownF F g) (bestL (ownF F g)) = bestS (ownF F g) F.men := b3
  have e4 : bestS (ownF F g') (ownF F g').men = bestS (ownF F g') F.men := rfl
  rw [e4] at h5
  omega
/-- Sods that are truly dry. -/
def dryTo (t : Nat → Int) (l : List T3) : Nat → Int
  | 0 => 0
  | k + 1 => dryTo t l k + (if Whole (l.getD k default) then t k else 0)
theorem dryTo_y {t : Nat → Int} {l : List T3} {k : Nat} (h : Whole (l.getD k default)) : dryTo t l (k + 1) = dryTo t l k + t k := by rw [dryTo, if_pos h]
theorem dryTo_n {t : Nat → Int} {l : List T3} {k : Nat} (h : ¬ Whole (l.getD k default)) : dryTo t l (k + 1) = dryTo t l k := by rw [dryTo, if_neg h, Int.add_zero]
theorem dryTo_bd {t : Nat → Int} {l : List T3} {n : Nat} (ht : ∀ i, i < n → 0 ≤ t i ∧ t i ≤ 90) : ∀ k, k ≤ n → 0 ≤ dryTo t l k ∧ dryTo t l k ≤ 90 * k
  | 0, _ => ⟨Int.le_refl _, by simp [dryTo]⟩
  | k + 1, h => by
    have h1 := dryTo_bd (l := l) ht k (by omega)
    have h2 := ht k (by omega)
    rw [dryTo]; push_cast
    split <;> omega
theorem dry_own {F : Work} {g t : Nat → Int} {l : List T3} (hgt : ∀ i, i < F.heaps.length → g i ≤ t i) : ∀ k, k ≤ F.heaps.length → sodsTo (ownF F g) l k ≤ dryTo t l k
  | 0, _ => Int.le_refl _
  | k + 1, h => by
    have h1 := dry_own (l := l) hgt k (by omega)
    have h2 := ownF_sods (g := g) (show k < F.heaps.length by omega)
    have h3 := hgt k (by omega)
    simp only [sodsTo, dryTo]
    rw [h2]
    split <;> omega
theorem dry_best {F : Work} {g t : Nat → Int} (hg : GoodF F) (hb : ∀ i, i < F.heaps.length → 0 ≤ g i ∧ g i ≤ 500) (hgt : ∀ i, i < F.heaps.length → g i ≤ t i) : bestS (ownF F g) F.men ≤ dryTo t (bestL (ownF F g)) F.heaps.length := by
  have h1 := good_own hg hb
  have hlen : (bestL (ownF F g)).length = F.heaps.length := by rw [bestL_len]; exact ownH_len
  have b3 := (bestL_right h1).2.2.1
  have e1 : sodsR (ownF F g) (bestL (ownF F g)) = sodsTo (ownF F g) (bestL (ownF F g)) F.heaps.length := by unfold sodsR; rw [hlen]
  have e3 : sodsR (ownF F g) (bestL (ownF F g)) = bestS (ownF F g) F.men := b3
  have h4 := dry_own (l := bestL (ownF F g)) hgt F.heaps.length (Nat.le_refl _)
  omega
/-! ### the banks, one by one -/
def bkA (bs : List Bank) (i : Nat) : Bank := bs.getD i ⟨[], [], []⟩
def cntB (bs : List Bank) : Nat → Nat
  | 0 => 0
  | i + 1 => cntB bs i + (bkA bs i).spits.length + (bkA bs i).days.length
def kS (f : Nat → Span → Int) (bs : List Bank) (i : Nat) : Span := cutP (bankX f (cntB bs i) (bkA bs i)) ((bkA bs i).days.length - 1)
def trS (f : Nat → Span → Int) (bs : List Bank) (i : Nat) : Int := sodsOf (bkA bs i) (cD f (cntB bs i) (bkA bs i)) (strD f (cntB bs i) (bkA bs i) (bkA bs i).days.length)
theorem cntB_le {bs : List Bank} : ∀ k, (∀ i, i < k → GoodS (bkA bs i)) → cntB bs k ≤ 9 * k
  | 0, _ => Nat.le_refl _
  | k + 1, h => by
    have h1 := cntB_le k (fun i hi => h i (by omega))
    have h2 := h k (by omega)
    have h3 := h2.1
    have h4 := h2.2.1
    rw [cntB]; omega
theorem kS_ok {f : Nat → Span → Int} {bs : List Bank} {i : Nat} (hf : InD f) (hg : GoodS (bkA bs i)) : (0 ≤ (kS f bs i).lo ∧ (kS f bs i).hi ≤ 90) ∧ (kS f bs i).lo ≤ trS f bs i ∧ trS f bs i ≤ (kS f bs i).hi := by
  have h1 := sods_X (k0 := cntB bs i) hf hg
  have h2 := hg.2.1
  have h3 := cutP_bd (good_X (k0 := cntB bs i) hf hg) h1.1 (d := (bkA bs i).days.length - 1) (by show _ < (bkA bs i).days.length; omega)
  exact ⟨⟨h3.1, h3.2.2⟩, h1.2⟩
def truTo (f : Nat → Span → Int) (bs : List Bank) (k : Nat) : List Int := (List.range k).map (trS f bs)
theorem truTo_s {f : Nat → Span → Int} {bs : List Bank} {k : Nat} : truTo f bs k ++ [trS f bs k] = truTo f bs (k + 1) := by simp [truTo, List.range_succ]
theorem truTo_len {f : Nat → Span → Int} {bs : List Bank} {k : Nat} : (truTo f bs k).length = k := by simp [truTo]
theorem truTo_at {f : Nat → Span → Int} {bs : List Bank} {k i : Nat} (h : i < k) : (truTo f bs k).getD i default = trS f bs i := by simp [truTo, List.getD_eq_getElem?_getD, h]
end Sod2


namespace Sod2
open Go Go.G Foot4
structure BankA where
  B : Bank
  po : Option Addr
  so : Option Addr
  lo : Option Addr
  pc : Nat
  sc : Nat
  lc : Nat
instance : Inhabited BankA := ⟨⟨⟨[], [], []⟩, none, none, none, 0, 0, 0⟩⟩
def encA (x : BankA) : List Value := cellsS x.B x.po x.pc x.so x.sc x.lo x.lc
/-- What the banks' own slices hold. -/
def rowsA (l : List BankA) : Fact := fun V => ∀ x ∈ l, rowD x.po 3 encSp x.B.spits V ∧ rowD x.so 2 encS x.B.days V ∧ rowD x.lo 3 encLg x.B.logs V
def bsA (l : List BankA) : List Bank := l.map BankA.B
theorem bkA_of {l : List BankA} {i : Nat} : bkA (bsA l) i = (l.getD i default).B := by
  unfold bkA bsA
  rw [List.getD_eq_getElem?_getD, List.getD_eq_getElem?_getD, List.getElem?_map]
  cases l[i]? <;> rfl
theorem Imp.rowsA {W : World} {n : Nat} {D : List Deferred} {L : Tm} {M : List Res} {R : List Fact} {X : Act → World → Prop} {l : List BankA} (i : Nat) (hi : i < l.length) [hm : InR (rowsA l) R]
    (h : Imp W n D L M (rowD (l.getD i default).po 3 encSp (l.getD i default).B.spits :: rowD (l.getD i default).so 2 encS (l.getD i default).B.days :: rowD (l.getD i default).lo 3 encLg (l.getD i default).B.logs :: R) X) : Imp W n D L M R X := by
  have hx : l.getD i default ∈ l := by
    rw [List.getD_eq_getElem?_getD, List.getElem?_eq_getElem hi]
    exact List.getElem_mem hi
  refine Imp.derive (ψ := rowD (l.getD i default).lo 3 encLg (l.getD i default).B.logs) ?_ (fun V hR => (hR _ hm.mem _ hx).2.2)
  refine Imp.derive (ψ := rowD (l.getD i default).so 2 encS (l.getD i default).B.days) ?_ (fun V hR => (hR _ (List.mem_cons_of_mem _ hm.mem) _ hx).2.1)
  exact Imp.derive (ψ := rowD (l.getD i default).po 3 encSp (l.getD i default).B.spits) h (fun V hR => (hR _ (List.mem_cons_of_mem _ (List.mem_cons_of_mem _ hm.mem)) _ hx).1)
end Sod2


namespace Go.G
class HasOwnZ' {α : outParam Type} (v : Value) (M : List Res) (T : outParam TypeId) (sz : outParam Nat) (enc : outParam (α → List Value)) (xs : outParam (List α)) (M' : outParam (List Res)) : Prop where
  del : Del M (ownZ v T sz enc xs) M'
instance HasOwnZ'.head {α : Type} {v : Value} {M : List Res} {T : TypeId} {sz : Nat} {enc : α → List Value} {xs : List α} : HasOwnZ' v (ownZ v T sz enc xs :: M) T sz enc xs M := ⟨Del.here⟩
instance HasOwnZ'.tail {α : Type} {v : Value} {r : Res} {M M' : List Res} {T : TypeId} {sz : Nat} {enc : α → List Value} {xs : List α} [h : HasOwnZ' v M T sz enc xs M'] : HasOwnZ' v (r :: M) T sz enc xs (r :: M') := ⟨Del.there h.del⟩
section
variable {P : Program} {W : World} {n : Nat} {D : List Deferred} {L : Tm} {M : List Res} {R : List Fact} {Q : Exit → Act → World → Prop} {o : Oper}
theorem Imp.zToL {α : Type} {enc : α → List Value} {sz : Nat} {T : TypeId} {xs : List α} {M' : List Res} {X : Act → World → Prop} (v : Value) [hd : HasOwnZ' v M T sz enc xs M'] (hne : 0 < xs.length) (h : Imp W n D L (ownL v T sz enc xs :: M') R X) : Imp W n D L M R X := by
  intro a w g1 g2 g3
  have g4 : St W (ownZ v T sz enc xs :: M') R w := g3.perm hd.del.perm
  obtain ⟨s, ⟨s1, s2, rfl, hz, hS⟩, hO, hR⟩ := g4.mem
  rcases hz with ⟨_, hx, _⟩ | hz
  · subst hx; simp at hne
  · exact h a w g1 g2 ⟨g4.os, g4.tape, g4.output, s1 ++ s2, ⟨s1, s2, rfl, hz, hS⟩, hO, hR⟩
theorem Imp.zTo {α : Type} {enc : α → List Value} {sz : Nat} {T : TypeId} {xs : List α} {M' : List Res} {X : Act → World → Prop} (v : Value) [hd : HasOwnZ' v M T sz enc xs M'] (ys : List α) (e : xs = ys) (h : Imp W n D L (ownZ v T sz enc ys :: M') R X) : Imp W n D L M R X := by
  subst e
  exact fun a w g1 g2 g3 => h a w g1 g2 (g3.perm hd.del.perm)
theorem Imp.lToZ {α : Type} {enc : α → List Value} {sz : Nat} {T : TypeId} {xs : List α} {M' : List Res} {X : Act → World → Prop} (v : Value) [hd : HasOwn v M T sz enc xs M'] (ys : List α) (e : xs = ys) (h : Imp W n D L (ownZ v T sz enc ys :: M') R X) : Imp W n D L M R X := by
  subst e
  intro a w g1 g2 g3
  have g4 : St W (ownL v T sz enc xs :: M') R w := g3.perm hd.del.perm
  obtain ⟨s, ⟨s1, s2, rfl, hz, hS⟩, hO, hR⟩ := g4.mem
  exact h a w g1 g2 ⟨g4.os, g4.tape, g4.output, s1 ++ s2, ⟨s1, s2, rfl, .inr hz, hS⟩, hO, hR⟩
theorem Imp.isZ' {α : Type} {enc : α → List Value} {sz : Nat} {T : TypeId} {xs : List α} {M' : List Res} {X : Act → World → Prop} (v : Value) [hd : HasOwnZ' v M T sz enc xs M'] (h : isSl xs.length v → Imp W n D L M R X) : Imp W n D L M R X := by
  intro a w g1 g2 g3
  have g4 : St W (ownZ v T sz enc xs :: M') R w := g3.perm hd.del.perm
  obtain ⟨s, ⟨s1, s2, rfl, hz, hS⟩, hO, hR⟩ := g4.mem
  rcases hz with ⟨⟨oa, hv⟩, hx, _⟩ | ⟨_, ⟨hv, hx, _⟩ | ⟨b, cap, C, hv, _⟩⟩
  · exact h ⟨oa, 0, by rw [hv, hx]; rfl⟩ a w g1 g2 g3
  · exact h ⟨none, 0, by rw [hv, hx]⟩ a w g1 g2 g3
  · exact h ⟨_, cap, hv⟩ a w g1 g2 g3
theorem Imp.settleZ' {α : Type} {enc : α → List Value} {sz : Nat} {T : TypeId} {xs : List α} {M' : List Res} {X : Act → World → Prop} (v : Value) [hd : HasOwnZ' v M T sz enc xs M'] (henc : ∀ x, (enc x).length = sz) (h : ∀ oa cap, v = .slice oa xs.length cap → Imp W n D L M' (rowD oa sz enc xs :: R) X) : Imp W n D L M R X := by
  haveI : DelC M (ownZ v T sz enc xs) M' := ⟨hd.del⟩
  exact Imp.settleZ (enc := enc) (sz := sz) (T := T) (xs := xs) (M' := M') v henc h
/-- A store of one cell into an element. -/
theorem o_stO {α : Type} [Inhabited α] {enc : α → List Value} {ops : Array Oper} {rest : List Oper} {T B : TypeId} {sz l cap k j : Nat} {oa : Option Addr} {xs : List α} {x y : Operand} {v u : Value} {i : TypeInfo} {M' : List Res} [hM : HasOwn (.slice oa l cap) M T sz enc xs M'] (z : α) (henc : ∀ x, (enc x).length = sz)
    (ho : o.op = .store B x y) (hi : P.info? B = some i) (hg : o.guard = none) (hdst : o.dst = none) (hx : ev L x = some (pe oa k sz j)) (hy : ev L y = some v) (hc : v.cells.toList = [u]) (hsz : 1 = i.size) (h1 : oneCells [u] = true) (hk : k < xs.length) (hj : j < sz)
    (hz : enc z = (enc (xs.getD k default)).set j u) (h : Imp W n D L (ownL (.slice oa l cap) T sz enc (xs.set k z) :: M') R (wpList P ops Q rest)) : Imp W n D L M R (wpList P ops Q (o :: rest)) := by
  intro a w g1 g2 g3
  have g4 : St W (ownL (.slice oa l cap) T sz enc xs :: M') R w := g3.perm hM.del.perm
  obtain ⟨s, ⟨s1, s2, rfl, hs1, hS⟩, hO, hR⟩ := g4.mem
  obtain ⟨hl, ⟨_, e, _⟩ | ⟨b, cap', C, e, hmc, hcm, hC, ht, rfl⟩⟩ := hs1
  · omega
  cases e
  have hCl : C.toList = xs.flatMap enc ++ C.toList.drop (xs.length * sz) := by rw [← ht, List.take_append_drop]
  have g5 : St W (bx b T C.toList :: M') R w := ⟨g4.os, g4.tape, g4.output, [(b, .cells C T (0, 0))] ++ s2, ⟨[(b, .cells C T (0, 0))], s2, rfl, (by show [(b, Obj.cells C T (0, 0))] = [(b, Obj.cells C.toList.toArray T (0, 0))]; simp), hS⟩, hO, hR⟩
  have hlt : k * sz + j < xs.length * sz := by
    have : (k + 1) * sz ≤ xs.length * sz := Nat.mul_le_mul_right _ hk
    rw [Nat.add_mul] at this; omega
  have hlen : k * sz + j + 1 ≤ C.toList.length := by
    have h5 : xs.length * sz ≤ cap * sz := Nat.mul_le_mul_right _ hmc
    rw [Array.length_toList, hC]; omega
  have hx' : ev L x = some (pt b (k * sz + j)) := by rw [hx]; simp [pe, pt]
  refine o_store (M' := bx b T (splice C.toList (k * sz + j) [u]) :: M') (us := [u]) ho hi hg hdst hx' hy hc hsz h1 Upd.here hlen ?_ a w g1 g2 g5
  intro a2 w2 f1 f2 f3
  refine h a2 w2 f1 f2 ?_
  obtain ⟨s, ⟨s1, s3, rfl, hs1, hS3⟩, hO3, hR3⟩ := f3.mem
  have hs1' : s1 = [(b, .cells (splice C.toList (k * sz + j) [u]).toArray T (0, 0))] := hs1
  subst hs1'
  have hset : splice C.toList (k * sz + j) [u] = (xs.set k z).flatMap enc ++ C.toList.drop (xs.length * sz) := by
    show C.toList.set (k * sz + j) u = _
    rw [hCl, flat_set henc xs k j hk hj hz, ← hCl]
  refine ⟨f3.os, f3.tape, f3.output, _, ⟨_, s3, rfl, ⟨by rw [flat_len henc], .inr ⟨b, cap, _, ?_, ?_, hcm, ?_, ?_, rfl⟩⟩, hS3⟩, hO3, hR3⟩
  · rw [List.length_set]
  · rw [List.length_set]; exact hmc
  · rw [List.size_toArray, splice_len, Array.length_toList, hC]
  · rw [hset, List.length_set]
    have : (List.flatMap enc (xs.set k z)).length = xs.length * sz := by rw [flat_len henc, List.length_set]
    show List.take (xs.length * sz) (_ ++ _) = _
    rw [← this]; exact List.take_left
end
end Go.G


namespace Go.G
variable {P : Program} {W : World} {n : Nat} {D : List Deferred} {L : Tm} {M : List Res} {R : List Fact} {Q : Exit → Act → World → Prop} {o : Oper}
def Spc.ozB {α : Type} (e : TypeId) (sz : Nat) (enc : α → List Value) (ys : List α) (kT b : Nat) (B : TypeId) (cs : List Value) (off : Nat) : Spc :=
  ⟨none, fun _ => True, fun v => [ownZ v e sz enc ys, bx b B cs], fun _ => [], [bx b B cs], some (kT, fun v => [ownZ v e sz enc ys, bx b B (cs.set off v)]), none, none⟩
theorem p_appNB {α : Type} {enc : α → List Value} {ops : Array Oper} {K : List Spc → Prop} {rest : List Oper} {acc : List Spc} {d x : Nat} {y : Operand} {t e : TypeId} {i : TypeInfo} {z : Value} {sz c : Nat} {oa : Option Addr} {ys : List α} (kT b : Nat) (B : TypeId) (cs : List Value) (off j : Nat) {oj : Oper} [hrow : HasRow oa R sz enc ys] (hoj : ops[j]? = some oj) (hx : oj.dst.getD 1000000 = x) (hsj : acc[j]? = some Spc.l0) (hdep : depD ops o j = true)
    (hg : o.guard = none) (hdst : o.dst = some d) (hd : Nat.blt d n = true) (ho : o.op = .call { callee := .builtin .append, args := #[.tmp x, y], argTypes := #[t, t] }) (ht : P.underlying t = some (.slice e)) (hi : P.info? e = some i) (hz : i.zero = some z) (hsz : i.size = sz) (hzs : z.cells.size = sz) (henc : ∀ x, (enc x).length = sz)
    (hy : ∀ u, ev ((x, u) :: L) y = some (.slice oa ys.length c)) (hbd : ys.length ≤ 1000000 ∧ i.bytes ≤ 1000000) (h : ParO P W n M R ops K rest (acc ++ [Spc.ozB e sz enc ys kT b B cs off]) L) : ParO P W n M R ops K (o :: rest) acc L := by
  refine ⟨Spc.ozB e sz enc ys kT b B cs off, by simp [hdst, hd], .inl ⟨rfl, .inr (.inr (.inl ⟨hg, j, oj, Spc.l0, hoj, hsj, rfl, hdep, ?_⟩))⟩, by simpa [addL, Spc.ozB] using h⟩
  rintro u ⟨b0, rfl⟩
  rw [hx]
  intro Mx Rx a w g1 g3
  have g3 : St W (Mx ++ (bx b B cs :: M)) (Rx ++ R) w := g3
  obtain ⟨v', w', hr, hw'⟩ := run_appN (P := P) (ty := o.type) (c := c) (b := b0) g3 (List.mem_append_right _ hrow.mem) henc ht hi hz hsz hzs hbd
  have hxe : ev ((x, Value.slice (some ⟨b0, 0, none⟩) 0 0) :: L) (.tmp x) = some (.slice (some ⟨b0, 0, none⟩) 0 0) := by simp [ev, look_cons_eq]
  have hrun : (execOp a.eval o).run P w = .ok (.value v') w' := by
    unfold execOp
    simp only [ho, resolve, invoke, builtin, Sem.run_bind, Sem.run_pure, Result.andThen_ok, List.map_toArray, List.map_cons, List.map_nil, g1.ev hxe, g1.ev (hy _), hr]
  rw [hrun]
  refine ⟨trivial, hw'.perm ?_⟩
  show (ownZ v' e sz enc ys :: (Mx ++ (bx b B cs :: M))).Perm (ownZ v' e sz enc ys :: bx b B cs :: (Mx ++ M))
  exact List.Perm.cons _ List.perm_middle
theorem p_stB {α : Type} {enc : α → List Value} {ops : Array Oper} {K : List Spc → Prop} {rest : List Oper} {acc : List Spc} {T B : TypeId} {x : Operand} {xj : Nat} {cs : List Value} {i : TypeInfo} {e : TypeId} {sz b off : Nat} {ys : List α} (j : Nat) {oj : Oper} (hg : o.guard = none) (hdst : o.dst = none) (ho : o.op = .store T x (.tmp xj)) (hi : P.info? T = some i)
    (hoj : ops[j]? = some oj) (hx : oj.dst.getD 1000000 = xj) (hsj : acc[j]? = some (Spc.ozB e sz enc ys acc.length b B cs off)) (hdep : depD ops o j = true) (hxe : ∀ u, ev ((xj, u) :: L) x = some (pt b off)) (hsz : 1 = i.size) (hl : off < cs.length)
    (h : ParO P W n M R ops K rest (acc ++ [Spc.s j]) L) : ParO P W n M R ops K (o :: rest) acc L := by
  refine p_upd5 (r := fun v => [ownZ v e sz enc ys, bx b B (cs.set off v)]) hg hdst hoj hsj rfl rfl hdep (fun u _ => ?_) h
  rw [hx]
  intro Mx Rx a w g1 g3
  have g3 : St W (Mx ++ ([ownZ u e sz enc ys, bx b B cs] ++ M)) (Rx ++ R) w := g3
  have hsl : ∃ oa l c, u = .slice oa l c := by
    have g4 : St W (ownZ u e sz enc ys :: (Mx ++ (bx b B cs :: M))) (Rx ++ R) w := g3.perm List.perm_middle
    obtain ⟨s, ⟨s1, s2, rfl, hz, _⟩, _, _⟩ := g4.mem
    rcases hz with ⟨⟨oa, hv⟩, _⟩ | ⟨_, ⟨hv, _⟩ | ⟨b, cap, C, hv, _⟩⟩
    · exact ⟨_, _, _, hv⟩
    · exact ⟨_, _, _, hv⟩
    · exact ⟨_, _, _, hv⟩
  obtain ⟨oa, l, c, rfl⟩ := hsl
  have hc : (Value.slice oa l c).cells.toList = [.slice oa l c] := rfl
  have h1 : oneCells [Value.slice oa l c] = true := rfl
  obtain ⟨w', hr, hw'⟩ := run_storeCells' (P := P) [Value.slice oa l c] off 0 (b := b) (T := B) (vs := cs) (M' := Mx ++ ([ownZ (.slice oa l c) e sz enc ys, bx b B (cs.set off (.slice oa l c))] ++ M)) g3 (by
      refine ⟨Mx ++ [ownZ (.slice oa l c) e sz enc ys], M, by simp, ?_⟩
      rw [Nat.add_zero]; simp [splice]) (oneCells_mem h1) (by show off + 0 + 1 ≤ cs.length; omega)
  have hcs : (Value.slice oa l c).cells.size = i.size := by rw [← hsz]; rfl
  have hye : ev ((xj, Value.slice oa l c) :: L) (.tmp xj) = some (.slice oa l c) := by simp [ev, look_cons_eq]
  have hrun : (execOp a.eval o).run P w = .ok .skip w' := by
    simp [execOp, ho, g1.ev (hxe _), g1.ev hye, Instr.storeAt, pt, Instr.sureAddr, storeVar, run_sizeOf' hi, hcs, hc, hr]
  rw [hrun]
  refine ⟨rfl, hw'.perm ?_⟩
  show (Mx ++ ([ownZ (.slice oa l c) e sz enc ys, bx b B (cs.set off (.slice oa l c))] ++ M)).Perm ([ownZ (.slice oa l c) e sz enc ys, bx b B (cs.set off (.slice oa l c))] ++ (Mx ++ M))
  rw [← List.append_assoc, ← List.append_assoc]
  exact List.perm_append_comm.append_right M
theorem f_ozB {α : Type} {X : Act → World → Prop} {os : List Oper} {ss : List Spc} {e : TypeId} {sz : Nat} {enc : α → List Value} {ys : List α} {kT b off d : Nat} {B : TypeId} {cs : List Value} (hdst : o.dst = some d) (h : ∀ v, Fin W n D X os ss ((d, v) :: L) (ownZ v e sz enc ys :: bx b B (cs.set off v) :: M) R) : Fin W n D X (o :: os) (Spc.ozB e sz enc ys kT b B cs off :: ss) L M R := by
  show ∀ u, True → Fin W n D X os ss (putL o.dst u L) ([ownZ u e sz enc ys, bx b B (cs.set off u)] ++ M) ([] ++ R)
  rw [hdst]
  intro u _
  exact h u
end Go.G


namespace Go.Proofs.Ytpndeonmmcaikaa
open Go.G Foot4 Sod2
set_option maxRecDepth 1000000
attribute [local irreducible] G.ParO G.Fin
attribute [local irreducible] cutP trS kS bestS sodsOf strD
variable (F : Work) (ro ho : Option Addr) (rc hc : Nat)
set_option maxHeartbeats 4000000 in
theorem turf_v (bl : List BankA) (ka : Option Addr) (kc : Nat) (bys : List Int) (ba : Option Addr) (bc : Nat) (hu : U16s bys) (hbl : bys.length ≤ 9223372036854775807) (hkl : bl.length ≤ 9223372036854775807) : FnV Try.prog 3 [valF F ro rc ho hc, .slice ka bl.length kc, .slice ba bys.length bc] [rowD ro 2 encS F.rain, rowD ho 3 encH F.heaps, rowD ka 3 encA bl, rowsA bl, rowD ba 1 encU bys] (.bool true) := by
 refine FnV.intro Try.call3 Try.func3 rfl Try.ntmps3 rfl ?_
 intro W M Rf
 refine r_seq ?_
 refine r_region ?_
 refine o_boxA rfl rfl rfl rfl rfl (fun b3 => ?_)
 refine o_q _ rfl rfl rfl (v_assign rfl rfl) ?_
 refine o_nil ?_
 repeat (first | with_reducible refine r_then ?_ | with_reducible refine r_in_normal ?_ | with_reducible refine r_sc_normal ?_)
 refine r_seq ?_
 refine r_seq ?_
 refine r_region ?_
 first | refine o_q _ rfl rfl rfl (v_fieldAddr rfl Try.underlying26 inf22 rfl rfl rfl rfl) ?_ | refine o_q _ rfl rfl rfl (v_fieldAddrE rfl Try.underlying26 inf22 rfl rfl rfl rfl) ?_
 first | refine o_q _ rfl rfl rfl (v_ld1 rfl Try.underlying22 rfl rfl rfl) ?_ | refine o_q _ rfl rfl rfl (v_lf1 rfl Try.underlying22 rfl rfl rfl) ?_ | refine o_q _ rfl rfl rfl (v_loadE1 rfl Try.underlying22 rfl rfl (by omega) rfl rfl) ?_
 refine o_q _ rfl rfl rfl (v_len rfl rfl Try.underlying22 rfl) ?_
 first | refine o_q _ rfl rfl rfl (v_fieldAddr rfl Try.underlying26 inf24 rfl rfl rfl rfl) ?_ | refine o_q _ rfl rfl rfl (v_fieldAddrE rfl Try.underlying26 inf24 rfl rfl rfl rfl) ?_
 first | refine o_q _ rfl rfl rfl (v_ld1 rfl Try.underlying24 rfl rfl rfl) ?_ | refine o_q _ rfl rfl rfl (v_lf1 rfl Try.underlying24 rfl rfl rfl) ?_ | refine o_q _ rfl rfl rfl (v_loadE1 rfl Try.underlying24 rfl rfl (by omega) rfl rfl) ?_
 refine o_q _ rfl rfl rfl (v_len rfl rfl Try.underlying24 rfl) ?_
 refine o_q _ rfl rfl rfl (v_move rfl rfl) ?_
 refine o_q _ rfl rfl rfl (v_len rfl rfl Try.underlying27 rfl) ?_
 first | refine o_q _ rfl rfl rfl (v_max2 rfl rfl rfl) ?_ | refine o_q _ rfl rfl rfl (v_max3 rfl rfl rfl rfl) ?_
 first | refine o_q _ rfl rfl rfl (v_true (v_gtr rfl rfl rfl) (by omega)) ?_ | refine o_q _ rfl rfl rfl (v_false (v_gtr rfl rfl rfl) (by omega)) ?_ | refine o_test rfl rfl rfl (v_gtr rfl rfl rfl) (fun h44 => ?_) (fun h44 => ?_)
 all_goals
  refine o_q _ rfl rfl rfl (v_move rfl rfl) ?_
  first | refine o_gn rfl rfl rfl rfl ?_ | refine o_g _ rfl rfl rfl rfl (v_ldW rfl Try.underlying26 rfl inf26 rfl rfl) ?_ | refine o_g _ rfl rfl rfl rfl (v_lfW rfl Try.underlying26 rfl inf26 rfl rfl) ?_ | refine o_g _ rfl rfl rfl rfl (v_lfN rfl Try.underlying26 rfl inf26 rfl rfl rfl) ?_ | refine o_g _ rfl rfl rfl rfl (v_ldN rfl Try.underlying26 rfl inf26 rfl rfl rfl) ?_ | refine o_g _ rfl rfl rfl rfl (v_loadEN rfl Try.underlying26 rfl inf26 rfl (by omega) rfl rfl rfl) ?_
  first | refine o_gn rfl rfl rfl rfl ?_ | refine o_g _ rfl rfl rfl rfl (v_true (OpQ.fn (FootW.Foot_v F ro ho rc hc (by omega) (by omega)) rfl rfl SubRC.sub) (by omega)) ?_ | refine o_g _ rfl rfl rfl rfl (v_false (OpQ.fn (FootW.Foot_v F ro ho rc hc (by omega) (by omega)) rfl rfl SubRC.sub) (by omega)) ?_ | refine o_gtest rfl rfl rfl rfl (OpQ.fn (FootW.Foot_v F ro ho rc hc (by omega) (by omega)) rfl rfl SubRC.sub) (fun h47 => ?_) (fun h47 => ?_)
  all_goals
   first | refine o_gn rfl rfl rfl rfl ?_ | refine o_g _ rfl rfl rfl rfl (v_not rfl rfl) ?_
   first | refine o_q _ rfl rfl rfl (v_pick_t rfl rfl rfl) ?_ | refine o_q _ rfl rfl rfl (v_pick_f rfl rfl rfl) ?_
   refine o_q _ rfl rfl rfl (v_move rfl rfl) ?_
   first | refine o_gn rfl rfl rfl rfl ?_ | refine o_g _ rfl rfl rfl rfl (v_move rfl rfl) ?_
   first | refine o_gn rfl rfl rfl rfl ?_ | refine o_g _ rfl rfl rfl rfl (v_len rfl rfl Try.underlying27 rfl) ?_
   first | refine o_gn rfl rfl rfl rfl ?_ | refine o_g _ rfl rfl rfl rfl (v_fieldAddr rfl Try.underlying26 inf24 rfl rfl rfl rfl) ?_ | refine o_g _ rfl rfl rfl rfl (v_fieldAddrE rfl Try.underlying26 inf24 rfl rfl rfl rfl) ?_
   first | refine o_gn rfl rfl rfl rfl ?_ | refine o_g _ rfl rfl rfl rfl (v_ld1 rfl Try.underlying24 rfl rfl rfl) ?_ | refine o_g _ rfl rfl rfl rfl (v_lf1 rfl Try.underlying24 rfl rfl rfl) ?_ | refine o_g _ rfl rfl rfl rfl (v_loadE1 rfl Try.underlying24 rfl rfl (by omega) rfl rfl) ?_
   first | refine o_gn rfl rfl rfl rfl ?_ | refine o_g _ rfl rfl rfl rfl (v_len rfl rfl Try.underlying24 rfl) ?_
   first | refine o_gn rfl rfl rfl rfl ?_ | refine o_g _ rfl rfl rfl rfl (v_true (v_lss rfl rfl rfl) (by omega)) ?_ | refine o_g _ rfl rfl rfl rfl (v_false (v_lss rfl rfl rfl) (by omega)) ?_ | refine o_gtest rfl rfl rfl rfl (v_lss rfl rfl rfl) (fun h56 => ?_) (fun h56 => ?_)
   all_goals
    first | refine o_q _ rfl rfl rfl (v_pick_t rfl rfl rfl) ?_ | refine o_q _ rfl rfl rfl (v_pick_f rfl rfl rfl) ?_
    refine o_nil ?_
    repeat (first | with_reducible refine r_then ?_ | with_reducible refine r_in_normal ?_ | with_reducible refine r_sc_normal ?_)
    first | refine r_condd rfl (fun hc57 => ?_) (fun hc57 => ?_) | refine r_cond rfl (fun hc57 => ?_) (fun hc57 => ?_)
    ·
     first
     | (exfalso; revert hc57; decide)
     | (exfalso; omega)
     |
      skip
      refine r_seq ?_
      refine r_region ?_
      refine o_q _ rfl rfl rfl (OpQ.fn awake04_v rfl rfl SubRC.sub) ?_
      refine o_q _ rfl rfl rfl (v_assign rfl rfl) ?_
      refine o_nil ?_
      repeat (first | with_reducible refine r_then ?_ | with_reducible refine r_in_normal ?_ | with_reducible refine r_sc_normal ?_)
      refine r_ret ?_
      repeat (first | with_reducible refine r_then_ret ?_ | with_reducible refine r_in_ret ?_ | with_reducible refine r_sc_ret ?_)
      exact r_retv2 (Rd.tmp rfl rfl) rfl SelMC.sel SubRC.sub
    ·
     first
     | (exfalso; revert hc57; decide)
     | (exfalso; omega)
     |
      skip
      refine r_skip ?_
      repeat (first | with_reducible refine r_then ?_ | with_reducible refine r_in_normal ?_ | with_reducible refine r_sc_normal ?_)
      refine r_seq ?_
      have hg : GoodF F := by assumption
      have h8 := hg.1
      have h3 := hg.2.2.1
      have hf : InD (drawT bys) := drawT_in hu
      refine r_region ?_
      refine o_q _ rfl rfl rfl (v_move rfl rfl) ?_
      refine SodW.o_fnN (draws_s bys ba bc) rfl rfl rfl rfl rfl SubRC.sub (fun x60 _ => ?_)
      all_goals
       refine o_q _ rfl rfl rfl (v_assign rfl rfl) ?_
       refine o_nil ?_
       repeat (first | with_reducible refine r_then ?_ | with_reducible refine r_in_normal ?_ | with_reducible refine r_sc_normal ?_)
       refine r_seq ?_
       refine Imp.sealB b3 ?_
       refine r_parZ (fun w => w.heap[b3]? = some (.cells (cellsF F ro rc ho hc).toArray 26 (0, 0))) (fun Y G w h => h.fact (φ := boxF b3 26 (cellsF F ro rc ho hc)) (List.mem_append_right _ InR.mem)) [1] 4 (by kernel_rfl) (by kernel_rfl) (by kernel_rfl) (by kernel_rfl) (by kernel_rfl) mixed (by kernel_rfl) (by rfl) ?_
       first | refine p_q _ rfl rfl rfl (fun _ _ => v_ldW rfl Try.underlying26 rfl inf26 rfl rfl) ?_ | refine p_q _ rfl rfl rfl (fun _ _ => v_lfW rfl Try.underlying26 rfl inf26 rfl rfl) ?_ | refine p_q _ rfl rfl rfl (fun _ _ => v_lfN rfl Try.underlying26 rfl inf26 rfl rfl rfl) ?_ | refine p_q _ rfl rfl rfl (fun _ _ => v_ldN rfl Try.underlying26 rfl inf26 rfl rfl rfl) ?_ | refine p_q _ rfl rfl rfl (fun _ _ => v_loadEN rfl Try.underlying26 rfl inf26 rfl (by omega) rfl rfl rfl) ?_
       first | refine p_q _ rfl rfl rfl (fun _ _ => v_ldW rfl Try.underlying26 rfl inf26 rfl rfl) ?_ | refine p_q _ rfl rfl rfl (fun _ _ => v_lfW rfl Try.underlying26 rfl inf26 rfl rfl) ?_ | refine p_q _ rfl rfl rfl (fun _ _ => v_lfN rfl Try.underlying26 rfl inf26 rfl rfl rfl) ?_ | refine p_q _ rfl rfl rfl (fun _ _ => v_ldN rfl Try.underlying26 rfl inf26 rfl rfl rfl) ?_ | refine p_q _ rfl rfl rfl (fun _ _ => v_loadEN rfl Try.underlying26 rfl inf26 rfl (by omega) rfl rfl rfl) ?_
       refine p_alloc rfl inf26 rfl rfl rfl rfl rfl ?_
       refine p_alloc rfl inf26 rfl rfl rfl rfl rfl ?_
       refine p_nilF (by simp only [List.nil_append, List.cons_append]; rfl) rfl ⟨⟨_, _, _, rfl, rfl, rfl, rfl, rfl, float_load (vs := cellsF F ro rc ho hc) (B := 26) rfl Try.underlying26 rfl inf26 rfl rfl (fun _ h => h)⟩, trivial⟩ ?_
       refine f_q rfl ?_
       refine f_q rfl ?_
       refine f_alloc rfl (fun b8 => ?_)
       refine f_alloc rfl (fun b9 => ?_)
       refine f_nil ?_
       refine oz_lift (fun w h => h.fact (φ := boxF b3 26 (cellsF F ro rc ho hc)) InR.mem) ?_
       refine o_st rfl inf26 rfl rfl rfl rfl rfl rfl rfl rfl ?_
       refine o_nil ?_
       refine r_then ?_
       refine oz_lift (fun w h => h.fact (φ := boxF b3 26 (cellsF F ro rc ho hc)) InR.mem) ?_
       refine o_st rfl inf26 rfl rfl rfl rfl rfl rfl rfl rfl ?_
       refine o_nil ?_
       refine r_then ?_
       refine oz_nil (fun w h => h.fact (φ := boxF b3 26 (cellsF F ro rc ho hc)) InR.mem) ?_
       refine r_nop ?_
       repeat (first | with_reducible refine r_then ?_ | with_reducible refine r_in_normal ?_ | with_reducible refine r_sc_normal ?_)
       refine r_seq ?_
       refine Imp.box_to b8 (cellsF F ro rc ho hc) rfl ?_
       refine Imp.box_to b9 (cellsF F ro rc ho hc) rfl ?_
       refine r_parC1 (bx b8 26 (cellsF F ro rc ho hc)) 10 mixed (by kernel_rfl) (by rfl) ?_
       refine p_lit0 rfl Try.underlying24 inf47 rfl rfl rfl ?_
       first | refine p_q _ rfl rfl rfl (fun _ _ => v_fieldAddr rfl Try.underlying26 inf24 rfl rfl rfl rfl) ?_ | refine p_q _ rfl rfl rfl (fun _ _ => v_fieldAddrE rfl Try.underlying26 inf24 rfl rfl rfl rfl) ?_
       first | refine p_q _ rfl rfl rfl (fun _ _ => v_ld1 rfl Try.underlying24 rfl rfl rfl) ?_ | refine p_q _ rfl rfl rfl (fun _ _ => v_lf1 rfl Try.underlying24 rfl rfl rfl) ?_ | refine p_q _ rfl rfl rfl (fun _ _ => v_loadE1 rfl Try.underlying24 rfl rfl (by omega) rfl rfl) ?_
       refine p_acc (by simp only [List.nil_append, List.cons_append]; rfl) ?_
       refine p_appNB (sz := 3) 9 b8 26 (cellsF F ro rc ho hc) 8 0 rfl rfl rfl (by kernel_rfl) rfl rfl rfl rfl Try.underlying24 inf47 rfl rfl rfl encH_len (fun _ => rfl) ⟨by omega, by decide⟩ ?_
       refine p_lit0 rfl Try.underlying24 inf47 rfl rfl rfl ?_
       first | refine p_q _ rfl rfl rfl (fun _ _ => v_fieldAddr rfl Try.underlying26 inf24 rfl rfl rfl rfl) ?_ | refine p_q _ rfl rfl rfl (fun _ _ => v_fieldAddrE rfl Try.underlying26 inf24 rfl rfl rfl rfl) ?_
       first | refine p_q _ rfl rfl rfl (fun _ _ => v_ld1 rfl Try.underlying24 rfl rfl rfl) ?_ | refine p_q _ rfl rfl rfl (fun _ _ => v_lf1 rfl Try.underlying24 rfl rfl rfl) ?_ | refine p_q _ rfl rfl rfl (fun _ _ => v_loadE1 rfl Try.underlying24 rfl rfl (by omega) rfl rfl) ?_
       refine p_acc (by simp only [List.nil_append, List.cons_append]; rfl) ?_
       refine p_appN (sz := 3) 4 rfl rfl rfl (by kernel_rfl) rfl rfl rfl rfl Try.underlying24 inf47 rfl rfl rfl encH_len (fun _ => rfl) ⟨by omega, by decide⟩ ?_
       first | refine p_q _ rfl rfl rfl (fun _ _ => v_fieldAddr rfl Try.underlying26 inf24 rfl rfl rfl rfl) ?_ | refine p_q _ rfl rfl rfl (fun _ _ => v_fieldAddrE rfl Try.underlying26 inf24 rfl rfl rfl rfl) ?_
       refine p_acc (by simp only [List.nil_append, List.cons_append]; rfl) ?_
       refine p_stB 3 rfl rfl rfl inf24 rfl rfl rfl (by kernel_rfl) (fun _ => rfl) rfl (by show 8 < 9; decide) ?_
       refine p_nil2 (by simp only [List.nil_append, List.cons_append]; rfl) rfl ?_ (by kernel_rfl)
       refine f_l0 rfl (fun b63 => ?_)
       refine f_q rfl ?_
       refine f_q rfl ?_
       refine f_ozB rfl (fun v66 => ?_)
       refine f_l0 rfl (fun b67 => ?_)
       refine f_q rfl ?_
       refine f_q rfl ?_
       refine f_oz rfl (fun v70 => ?_)
       refine f_q rfl ?_
       refine f_s rfl ?_
       refine f_nil ?_
       refine Imp.isZ' v66 (fun h66 => ?_)
       obtain ⟨oa66, cp66, rfl⟩ := h66
       refine Imp.isZ' v70 (fun h70 => ?_)
       obtain ⟨oa70, cp70, rfl⟩ := h70
       first | refine o_q _ rfl rfl rfl (v_fieldAddr rfl Try.underlying26 inf24 rfl rfl rfl rfl) ?_ | refine o_q _ rfl rfl rfl (v_fieldAddrE rfl Try.underlying26 inf24 rfl rfl rfl rfl) ?_
       refine o_st rfl inf24 rfl rfl rfl rfl rfl rfl rfl rfl ?_
       refine o_nil ?_
       repeat (first | with_reducible refine r_then ?_ | with_reducible refine r_in_normal ?_ | with_reducible refine r_sc_normal ?_)
       refine r_seq ?_
       refine Imp.nilL 3 1 Sod2.encI ?_
       refine r_region ?_
       refine o_q _ rfl rfl rfl (v_assign rfl rfl) ?_
       refine o_nil ?_
       repeat (first | with_reducible refine r_then ?_ | with_reducible refine r_in_normal ?_ | with_reducible refine r_sc_normal ?_)
       refine r_seq ?_
       refine r_seq ?_
       refine r_region ?_
       first | refine o_q _ rfl rfl rfl (v_fieldAddr rfl Try.underlying26 inf24 rfl rfl rfl rfl) ?_ | refine o_q _ rfl rfl rfl (v_fieldAddrE rfl Try.underlying26 inf24 rfl rfl rfl rfl) ?_
       first | refine o_q _ rfl rfl rfl (v_ld1 rfl Try.underlying24 rfl rfl rfl) ?_ | refine o_q _ rfl rfl rfl (v_lf1 rfl Try.underlying24 rfl rfl rfl) ?_ | refine o_q _ rfl rfl rfl (v_loadE1 rfl Try.underlying24 rfl rfl (by omega) rfl rfl) ?_
       refine o_q _ rfl rfl rfl (v_len rfl rfl Try.underlying24 rfl) ?_
       refine o_q _ rfl rfl rfl (v_move rfl rfl) ?_
       refine o_nil ?_
       repeat (first | with_reducible refine r_then ?_ | with_reducible refine r_in_normal ?_ | with_reducible refine r_sc_normal ?_)
       refine r_block ?_
       refine r_loop (ι := Nat × Value) (fun gh => gh.1 ≤ F.heaps.length ∧ ∀ j, j < gh.1 → GoodS (bkA (bsA bl) j)) (fun gh => [(1, .slice ka bl.length kc), (3, pt b3 0), (7, .func (.func 20) #[] #[pt x60.1 0, pt x60.2 0]), (8, pt b8 0), (9, pt b9 0), (10, gh.2), (74, .slice ho F.heaps.length hc), (75, i64 F.heaps.length), (76, i64 gh.1)]) (fun gh => ownL gh.2 3 1 Sod2.encI (truTo (drawT bys) (bsA bl) (gh.1)) :: ownZ (.slice oa66 F.heaps.length cp66) 47 3 encH (ownH F (fun z => (kS (drawT bys) (bsA bl) z).lo) (gh.1)) :: ownZ (.slice oa70 F.heaps.length cp70) 47 3 encH (ownH F (fun z => (kS (drawT bys) (bsA bl) z).hi) (gh.1)) :: bx b8 26 [.slice ro F.rain.length rc, i64 F.men, i64 F.lim.a, i64 F.lim.b, i64 F.lim.c, i64 F.dr.a, i64 F.dr.b, i64 F.dr.c, .slice oa66 F.heaps.length cp66] :: bx b9 26 [.slice ro F.rain.length rc, i64 F.men, i64 F.lim.a, i64 F.lim.b, i64 F.lim.c, i64 F.dr.a, i64 F.dr.b, i64 F.dr.c, .slice oa70 F.heaps.length cp70] :: bx x60.1 3 [i64 ((cntB (bsA bl) gh.1 : Nat) : Int)] :: M) (fun gh => boxF x60.2 28 [.slice ba bys.length bc] :: boxF b3 26 (cellsF F ro rc ho hc) :: [rowD ro 2 encS F.rain, rowD ho 3 encH F.heaps, rowD ka 3 encA bl, rowsA bl, rowD ba 1 encU bys] ++ Rf) (fun gh => F.heaps.length - gh.1) (0, .slice none 0 0) ?_ ?_ ?_
       ·
        refine Imp.own_to (.slice none 0 0) (truTo (drawT bys) (bsA bl) (0)) rfl ?_
        refine Imp.zTo (.slice oa66 F.heaps.length cp66) (ownH F (fun z => (kS (drawT bys) (bsA bl) z).lo) (0)) ownH_0 ?_; refine Imp.zTo (.slice oa70 F.heaps.length cp70) (ownH F (fun z => (kS (drawT bys) (bsA bl) z).hi) (0)) ownH_0 ?_; refine Imp.box_to b8 (cellsF F ro rc oa66 cp66) rfl ?_; refine Imp.box_to b9 (cellsF F ro rc oa70 cp70) rfl ?_; refine Imp.box_to x60.1 [i64 ((cntB (bsA bl) 0 : Nat) : Int)] rfl ?_
        exact r_here (by repeat (first | exact FSub.nil | refine FSub.cons rfl ?_)) SelMC.sel SubRC.sub
       ·
        exact ⟨Nat.zero_le _, fun j hj => absurd hj (by omega)⟩
       ·
        rintro ⟨i, v⟩ hI0
        dsimp only at hI0
        dsimp only
        refine r_seq ?_
        refine r_region ?_
        refine o_q _ rfl rfl rfl (v_lss rfl rfl rfl) ?_
        refine o_nil ?_
        repeat (first | with_reducible refine r_then ?_ | with_reducible refine r_in_normal ?_ | with_reducible refine r_sc_normal ?_)
        refine r_seq ?_
        first | refine r_condd rfl (fun hc77 => ?_) (fun hc77 => ?_) | refine r_cond rfl (fun hc77 => ?_) (fun hc77 => ?_)
        ·
         first
         | (exfalso; revert hc77; decide)
         | (exfalso; omega)
         |
          skip
          refine r_skip ?_
          repeat (first | with_reducible refine r_then ?_ | with_reducible refine r_in_normal ?_ | with_reducible refine r_sc_normal ?_)
          refine r_seq ?_
          refine r_block ?_
          refine r_seq ?_
          refine r_region ?_
          refine o_q _ rfl rfl rfl (v_move rfl rfl) ?_
          refine o_q _ rfl rfl rfl (v_assign rfl rfl) ?_
          refine o_nil ?_
          repeat (first | with_reducible refine r_then ?_ | with_reducible refine r_in_normal ?_ | with_reducible refine r_sc_normal ?_)
          refine r_seq ?_
          refine r_region ?_
          refine o_q _ rfl rfl rfl (v_move rfl rfl) ?_
          refine o_q _ rfl rfl rfl (v_move rfl rfl) ?_
          refine o_q _ rfl rfl rfl (v_indexAddrSn rfl Try.underlying27 inf37 rfl rfl rfl (by omega) rfl) ?_
          refine o_q _ rfl rfl rfl (v_loadEN rfl Try.underlying37 rfl inf37 rfl (by omega) rfl rfl rfl) ?_
          refine o_alloc rfl inf37 rfl rfl rfl rfl rfl (fun b12 => ?_)
          refine o_st rfl inf37 rfl rfl rfl rfl rfl rfl rfl rfl ?_
          refine o_nil ?_
          repeat (first | with_reducible refine r_then ?_ | with_reducible refine r_in_normal ?_ | with_reducible refine r_sc_normal ?_)
          refine r_seq ?_
          refine r_seq ?_
          refine Imp.box_to b12 (cellsS (bl.getD i default).B (bl.getD i default).po (bl.getD i default).pc (bl.getD i default).so (bl.getD i default).sc (bl.getD i default).lo (bl.getD i default).lc) rfl ?_
          refine Imp.rowsA (l := bl) i (by omega) ?_
          refine r_region ?_
          first | refine o_q _ rfl rfl rfl (v_fieldAddr rfl Try.underlying37 inf34 rfl rfl rfl rfl) ?_ | refine o_q _ rfl rfl rfl (v_fieldAddrE rfl Try.underlying37 inf34 rfl rfl rfl rfl) ?_
          first | refine o_q _ rfl rfl rfl (v_ld1 rfl Try.underlying34 rfl rfl rfl) ?_ | refine o_q _ rfl rfl rfl (v_lf1 rfl Try.underlying34 rfl rfl rfl) ?_ | refine o_q _ rfl rfl rfl (v_loadE1 rfl Try.underlying34 rfl rfl (by omega) rfl rfl) ?_
          refine o_q _ rfl rfl rfl (v_len rfl rfl Try.underlying34 rfl) ?_
          first | refine o_q _ rfl rfl rfl (v_fieldAddr rfl Try.underlying37 inf22 rfl rfl rfl rfl) ?_ | refine o_q _ rfl rfl rfl (v_fieldAddrE rfl Try.underlying37 inf22 rfl rfl rfl rfl) ?_
          first | refine o_q _ rfl rfl rfl (v_ld1 rfl Try.underlying22 rfl rfl rfl) ?_ | refine o_q _ rfl rfl rfl (v_lf1 rfl Try.underlying22 rfl rfl rfl) ?_ | refine o_q _ rfl rfl rfl (v_loadE1 rfl Try.underlying22 rfl rfl (by omega) rfl rfl) ?_
          refine o_q _ rfl rfl rfl (v_len rfl rfl Try.underlying22 rfl) ?_
          first | refine o_q _ rfl rfl rfl (v_fieldAddr rfl Try.underlying37 inf35 rfl rfl rfl rfl) ?_ | refine o_q _ rfl rfl rfl (v_fieldAddrE rfl Try.underlying37 inf35 rfl rfl rfl rfl) ?_
          first | refine o_q _ rfl rfl rfl (v_ld1 rfl Try.underlying35 rfl rfl rfl) ?_ | refine o_q _ rfl rfl rfl (v_lf1 rfl Try.underlying35 rfl rfl rfl) ?_ | refine o_q _ rfl rfl rfl (v_loadE1 rfl Try.underlying35 rfl rfl (by omega) rfl rfl) ?_
          refine o_q _ rfl rfl rfl (v_len rfl rfl Try.underlying35 rfl) ?_
          first | refine o_q _ rfl rfl rfl (v_max2 rfl rfl rfl) ?_ | refine o_q _ rfl rfl rfl (v_max3 rfl rfl rfl rfl) ?_
          first | refine o_q _ rfl rfl rfl (v_true (v_gtr rfl rfl rfl) (by omega)) ?_ | refine o_q _ rfl rfl rfl (v_false (v_gtr rfl rfl rfl) (by omega)) ?_ | refine o_test rfl rfl rfl (v_gtr rfl rfl rfl) (fun h93 => ?_) (fun h93 => ?_)
          all_goals
           refine o_q _ rfl rfl rfl (v_move rfl rfl) ?_
           first | refine o_gn rfl rfl rfl rfl ?_ | refine o_g _ rfl rfl rfl rfl (v_ldW rfl Try.underlying37 rfl inf37 rfl rfl) ?_ | refine o_g _ rfl rfl rfl rfl (v_lfW rfl Try.underlying37 rfl inf37 rfl rfl) ?_ | refine o_g _ rfl rfl rfl rfl (v_lfN rfl Try.underlying37 rfl inf37 rfl rfl rfl) ?_ | refine o_g _ rfl rfl rfl rfl (v_ldN rfl Try.underlying37 rfl inf37 rfl rfl rfl) ?_ | refine o_g _ rfl rfl rfl rfl (v_loadEN rfl Try.underlying37 rfl inf37 rfl (by omega) rfl rfl rfl) ?_
           first | refine o_gn rfl rfl rfl rfl ?_ | refine o_g _ rfl rfl rfl rfl (v_true (OpQ.fn (SodW.Sod_v (bl.getD i default).B (bl.getD i default).po (bl.getD i default).so (bl.getD i default).lo (bl.getD i default).pc (bl.getD i default).sc (bl.getD i default).lc (by omega) (by omega) (by omega)) rfl rfl SubRC.sub) (by omega)) ?_ | refine o_g _ rfl rfl rfl rfl (v_false (OpQ.fn (SodW.Sod_v (bl.getD i default).B (bl.getD i default).po (bl.getD i default).so (bl.getD i default).lo (bl.getD i default).pc (bl.getD i default).sc (bl.getD i default).lc (by omega) (by omega) (by omega)) rfl rfl SubRC.sub) (by omega)) ?_ | refine o_gtest rfl rfl rfl rfl (OpQ.fn (SodW.Sod_v (bl.getD i default).B (bl.getD i default).po (bl.getD i default).so (bl.getD i default).lo (bl.getD i default).pc (bl.getD i default).sc (bl.getD i default).lc (by omega) (by omega) (by omega)) rfl rfl SubRC.sub) (fun h96 => ?_) (fun h96 => ?_)
           all_goals
            first | refine o_gn rfl rfl rfl rfl ?_ | refine o_g _ rfl rfl rfl rfl (v_not rfl rfl) ?_
            first | refine o_q _ rfl rfl rfl (v_pick_t rfl rfl rfl) ?_ | refine o_q _ rfl rfl rfl (v_pick_f rfl rfl rfl) ?_
            refine o_nil ?_
            repeat (first | with_reducible refine r_then ?_ | with_reducible refine r_in_normal ?_ | with_reducible refine r_sc_normal ?_)
            first | refine r_condd rfl (fun hc98 => ?_) (fun hc98 => ?_) | refine r_cond rfl (fun hc98 => ?_) (fun hc98 => ?_)
            ·
             first
             | (exfalso; revert hc98; decide)
             | (exfalso; omega)
             |
              skip
              refine r_seq ?_
              refine r_region ?_
              refine o_q _ rfl rfl rfl (OpQ.fn awake04_v rfl rfl SubRC.sub) ?_
              refine o_q _ rfl rfl rfl (v_assign rfl rfl) ?_
              refine o_nil ?_
              repeat (first | with_reducible refine r_then ?_ | with_reducible refine r_in_normal ?_ | with_reducible refine r_sc_normal ?_)
              refine r_ret ?_
              repeat (first | with_reducible refine r_then_ret ?_ | with_reducible refine r_in_ret ?_ | with_reducible refine r_sc_ret ?_)
              exact r_retv2 (Rd.tmp rfl rfl) rfl SelMC.sel SubRC.sub
            ·
             first
             | (exfalso; revert hc98; decide)
             | (exfalso; omega)
             |
              skip
              refine r_skip ?_
              repeat (first | with_reducible refine r_then ?_ | with_reducible refine r_in_normal ?_ | with_reducible refine r_sc_normal ?_)
              refine r_seq ?_
              have hgs : GoodS (bl.getD i default).B := by assumption
              have hgk : GoodS (bkA (bsA bl) i) := by rw [bkA_of]; exact hgs
              have hq2 := hgs.2.1
              have hcl := cntB_le (bs := (bsA bl)) i hI0.2
              refine r_region ?_
              first | refine o_q _ rfl rfl rfl (v_ldW rfl Try.underlying37 rfl inf37 rfl rfl) ?_ | refine o_q _ rfl rfl rfl (v_lfW rfl Try.underlying37 rfl inf37 rfl rfl) ?_ | refine o_q _ rfl rfl rfl (v_lfN rfl Try.underlying37 rfl inf37 rfl rfl rfl) ?_ | refine o_q _ rfl rfl rfl (v_ldN rfl Try.underlying37 rfl inf37 rfl rfl rfl) ?_ | refine o_q _ rfl rfl rfl (v_loadEN rfl Try.underlying37 rfl inf37 rfl (by omega) rfl rfl rfl) ?_
              refine o_q _ rfl rfl rfl (v_move rfl rfl) ?_
              refine o_fnX (cut04_s (bl.getD i default).B (bl.getD i default).po (bl.getD i default).so (bl.getD i default).lo (bl.getD i default).pc (bl.getD i default).sc (bl.getD i default).lc bys ba bc hu hbl x60.1 x60.2 (cntB (bsA bl) i) hgs (by omega)) rfl rfl rfl rfl rfl SubRC.sub (fun x103 _ => ?_)
              refine o_q _ rfl rfl rfl (v_move rfl rfl) ?_
              refine o_q _ rfl rfl rfl (v_extract rfl rfl rfl) ?_
              refine o_q _ rfl rfl rfl (v_extract rfl rfl rfl) ?_
              refine o_alloc rfl inf37 rfl rfl rfl rfl rfl (fun b13 => ?_)
              refine o_st rfl inf37 rfl rfl rfl rfl rfl rfl rfl rfl ?_
              refine o_q _ rfl rfl rfl (v_assign rfl rfl) ?_
              refine o_nil ?_
              repeat (first | with_reducible refine r_then ?_ | with_reducible refine r_in_normal ?_ | with_reducible refine r_sc_normal ?_)
              refine r_seq ?_
              refine Imp.box_to b13 (cellsS (bankX (drawT bys) (cntB (bsA bl) i) (bl.getD i default).B) (bl.getD i default).po (bl.getD i default).pc (bl.getD i default).so (bl.getD i default).sc x103.1 x103.2) rfl ?_
              have hsx := sods_X (k0 := (cntB (bsA bl) i)) hf hgs
              have hgx := good_X (k0 := (cntB (bsA bl) i)) hf hgs
              have hks := kS_ok (f := (drawT bys)) (bs := (bsA bl)) (i := i) hf hgk
              have hkt : trS (drawT bys) (bsA bl) i = sodsOf (bl.getD i default).B (cD (drawT bys) (cntB (bsA bl) i) (bl.getD i default).B) (strD (drawT bys) (cntB (bsA bl) i) (bl.getD i default).B (bl.getD i default).B.days.length) := by unfold trS; rw [bkA_of]
              have hkc : kS (drawT bys) (bsA bl) i = cutP (bankX (drawT bys) (cntB (bsA bl) i) (bl.getD i default).B) ((bl.getD i default).B.days.length - 1) := by unfold kS; rw [bkA_of]
              rw [← hkt]
              refine r_region ?_
              first | refine o_q _ rfl rfl rfl (v_ldW rfl Try.underlying37 rfl inf37 rfl rfl) ?_ | refine o_q _ rfl rfl rfl (v_lfW rfl Try.underlying37 rfl inf37 rfl rfl) ?_ | refine o_q _ rfl rfl rfl (v_lfN rfl Try.underlying37 rfl inf37 rfl rfl rfl) ?_ | refine o_q _ rfl rfl rfl (v_ldN rfl Try.underlying37 rfl inf37 rfl rfl rfl) ?_ | refine o_q _ rfl rfl rfl (v_loadEN rfl Try.underlying37 rfl inf37 rfl (by omega) rfl rfl rfl) ?_
              first | refine o_q _ rfl rfl rfl (v_fieldAddr rfl Try.underlying37 inf22 rfl rfl rfl rfl) ?_ | refine o_q _ rfl rfl rfl (v_fieldAddrE rfl Try.underlying37 inf22 rfl rfl rfl rfl) ?_
              first | refine o_q _ rfl rfl rfl (v_ld1 rfl Try.underlying22 rfl rfl rfl) ?_ | refine o_q _ rfl rfl rfl (v_lf1 rfl Try.underlying22 rfl rfl rfl) ?_ | refine o_q _ rfl rfl rfl (v_loadE1 rfl Try.underlying22 rfl rfl (by omega) rfl rfl) ?_
              refine o_q _ rfl rfl rfl (v_len rfl rfl Try.underlying22 rfl) ?_
              refine o_q _ rfl rfl rfl (v_cast (v := i64 (((bl.getD i default).B.days.length - 1 : Nat) : Int)) (v_sub rfl rfl rfl (by omega)) (congrArg (Value.int .i64) (by omega))) ?_
              refine o_q _ rfl rfl rfl (v_cast (v := .tuple #[vS (kS (drawT bys) (bsA bl) i), i64 0]) (OpQ.fn (SodW.Cut_v (bankX (drawT bys) (cntB (bsA bl) i) (bl.getD i default).B) (bl.getD i default).po (bl.getD i default).so x103.1 (bl.getD i default).pc (bl.getD i default).sc x103.2 ((bl.getD i default).B.days.length - 1) hgx hsx.1 (by show _ < (bl.getD i default).B.days.length; omega)) rfl rfl SubRC.sub) (by rw [hkc])) ?_
              refine o_q _ rfl rfl rfl (v_move rfl rfl) ?_
              refine o_q _ rfl rfl rfl (v_extract rfl rfl rfl) ?_
              refine o_q _ rfl rfl rfl (v_extract rfl rfl rfl) ?_
              refine o_alloc rfl inf42 rfl rfl rfl rfl rfl (fun b15 => ?_)
              refine o_st rfl inf42 rfl rfl rfl rfl rfl rfl rfl rfl ?_
              refine o_q _ rfl rfl rfl (v_assign rfl rfl) ?_
              refine o_nil ?_
              repeat (first | with_reducible refine r_then ?_ | with_reducible refine r_in_normal ?_ | with_reducible refine r_sc_normal ?_)
              refine r_seq ?_
              refine r_seq ?_
              refine Imp.box_to b15 [i64 (kS (drawT bys) (bsA bl) i).lo, i64 (kS (drawT bys) (bsA bl) i).hi] rfl ?_
              refine r_region ?_
              refine o_q _ rfl rfl rfl (v_move rfl rfl) ?_
              first | refine o_q _ rfl rfl rfl (v_true (v_neq rfl rfl rfl) (by omega)) ?_ | refine o_q _ rfl rfl rfl (v_false (v_neq rfl rfl rfl) (by omega)) ?_ | refine o_test rfl rfl rfl (v_neq rfl rfl rfl) (fun h116 => ?_) (fun h116 => ?_)
              all_goals
               refine o_q _ rfl rfl rfl (v_move rfl rfl) ?_
               first | refine o_gn rfl rfl rfl rfl ?_ | refine o_g _ rfl rfl rfl rfl (v_move rfl rfl) ?_
               first | refine o_gn rfl rfl rfl rfl ?_ | refine o_g _ rfl rfl rfl rfl (v_fieldAddr rfl Try.underlying42 inf3 rfl rfl rfl rfl) ?_ | refine o_g _ rfl rfl rfl rfl (v_fieldAddrE rfl Try.underlying42 inf3 rfl rfl rfl rfl) ?_
               first | refine o_gn rfl rfl rfl rfl ?_ | refine o_g _ rfl rfl rfl rfl (v_ld1 rfl Try.underlying3 rfl rfl rfl) ?_ | refine o_g _ rfl rfl rfl rfl (v_lf1 rfl Try.underlying3 rfl rfl rfl) ?_ | refine o_g _ rfl rfl rfl rfl (v_loadE1 rfl Try.underlying3 rfl rfl (by omega) rfl rfl) ?_
               first | refine o_gn rfl rfl rfl rfl ?_ | refine o_g _ rfl rfl rfl rfl (v_true (v_lss rfl rfl rfl) (by omega)) ?_ | refine o_g _ rfl rfl rfl rfl (v_false (v_lss rfl rfl rfl) (by omega)) ?_ | refine o_gtest rfl rfl rfl rfl (v_lss rfl rfl rfl) (fun h121 => ?_) (fun h121 => ?_)
               all_goals
                first | refine o_q _ rfl rfl rfl (v_pick_t rfl rfl rfl) ?_ | refine o_q _ rfl rfl rfl (v_pick_f rfl rfl rfl) ?_
                refine o_q _ rfl rfl rfl (v_move rfl rfl) ?_
                first | refine o_gn rfl rfl rfl rfl ?_ | refine o_g _ rfl rfl rfl rfl (v_move rfl rfl) ?_
                first | refine o_gn rfl rfl rfl rfl ?_ | refine o_g _ rfl rfl rfl rfl (v_fieldAddr rfl Try.underlying42 inf3 rfl rfl rfl rfl) ?_ | refine o_g _ rfl rfl rfl rfl (v_fieldAddrE rfl Try.underlying42 inf3 rfl rfl rfl rfl) ?_
                first | refine o_gn rfl rfl rfl rfl ?_ | refine o_g _ rfl rfl rfl rfl (v_ld1 rfl Try.underlying3 rfl rfl rfl) ?_ | refine o_g _ rfl rfl rfl rfl (v_lf1 rfl Try.underlying3 rfl rfl rfl) ?_ | refine o_g _ rfl rfl rfl rfl (v_loadE1 rfl Try.underlying3 rfl rfl (by omega) rfl rfl) ?_
                first | refine o_gn rfl rfl rfl rfl ?_ | refine o_g _ rfl rfl rfl rfl (v_true (v_gtr rfl rfl rfl) (by omega)) ?_ | refine o_g _ rfl rfl rfl rfl (v_false (v_gtr rfl rfl rfl) (by omega)) ?_ | refine o_gtest rfl rfl rfl rfl (v_gtr rfl rfl rfl) (fun h127 => ?_) (fun h127 => ?_)
                all_goals
                 first | refine o_q _ rfl rfl rfl (v_pick_t rfl rfl rfl) ?_ | refine o_q _ rfl rfl rfl (v_pick_f rfl rfl rfl) ?_
                 refine o_nil ?_
                 repeat (first | with_reducible refine r_then ?_ | with_reducible refine r_in_normal ?_ | with_reducible refine r_sc_normal ?_)
                 first | refine r_condd rfl (fun hc128 => ?_) (fun hc128 => ?_) | refine r_cond rfl (fun hc128 => ?_) (fun hc128 => ?_)
                 ·
                  first
                  | (exfalso; revert hc128; decide)
                  | (exfalso; omega)
                  |
                   skip
                   refine r_seq ?_
                   refine r_region ?_
                   refine o_q _ rfl rfl rfl (v_assign rfl rfl) ?_
                   refine o_nil ?_
                   repeat (first | with_reducible refine r_then ?_ | with_reducible refine r_in_normal ?_ | with_reducible refine r_sc_normal ?_)
                   refine r_ret ?_
                   repeat (first | with_reducible refine r_then_ret ?_ | with_reducible refine r_in_ret ?_ | with_reducible refine r_sc_ret ?_)
                   exact r_retv2 (Rd.tmp rfl rfl) rfl SelMC.sel SubRC.sub
                 ·
                  first
                  | (exfalso; revert hc128; decide)
                  | (exfalso; omega)
                  |
                   skip
                   refine r_skip ?_
                   repeat (first | with_reducible refine r_then ?_ | with_reducible refine r_in_normal ?_ | with_reducible refine r_sc_normal ?_)
                   refine r_seq ?_
                   refine Imp.zToL (.slice oa66 F.heaps.length cp66) (by rw [ownH_len]; omega) ?_
                   refine Imp.zToL (.slice oa70 F.heaps.length cp70) (by rw [ownH_len]; omega) ?_
                   refine r_parZ (fun w => w.heap[b9]? = some (.cells ([.slice ro F.rain.length rc, i64 F.men, i64 F.lim.a, i64 F.lim.b, i64 F.lim.c, i64 F.dr.a, i64 F.dr.b, i64 F.dr.c, .slice oa70 F.heaps.length cp70] : List Value).toArray 26 (0, 0)) ∧ w.heap[b15]? = some (.cells ([i64 (kS (drawT bys) (bsA bl) i).lo, i64 (kS (drawT bys) (bsA bl) i).hi] : List Value).toArray 42 (0, 0))) (fun Y G w h => ⟨h.bl (List.mem_append_right _ (HasBox.mem (b := b9))), h.bl (List.mem_append_right _ (HasBox.mem (b := b15)))⟩) [3, 4, 5, 8, 9] 10 (by kernel_rfl) (by kernel_rfl) (by kernel_rfl) (by kernel_rfl) (by kernel_rfl) mixed (by kernel_rfl) (by rfl) ?_
                   first | refine p_q _ rfl rfl rfl (fun _ _ => v_fieldAddr rfl Try.underlying26 inf24 rfl rfl rfl rfl) ?_ | refine p_q _ rfl rfl rfl (fun _ _ => v_fieldAddrE rfl Try.underlying26 inf24 rfl rfl rfl rfl) ?_
                   first | refine p_q _ rfl rfl rfl (fun _ _ => v_ld1 rfl Try.underlying24 rfl rfl rfl) ?_ | refine p_q _ rfl rfl rfl (fun _ _ => v_lf1 rfl Try.underlying24 rfl rfl rfl) ?_ | refine p_q _ rfl rfl rfl (fun _ _ => v_loadE1 rfl Try.underlying24 rfl rfl (by omega) rfl rfl) ?_
                   refine p_q _ rfl rfl rfl (fun _ _ => v_move rfl rfl) ?_
                   first | refine p_q _ rfl rfl rfl (fun _ _ => v_fieldAddr rfl Try.underlying26 inf24 rfl rfl rfl rfl) ?_ | refine p_q _ rfl rfl rfl (fun _ _ => v_fieldAddrE rfl Try.underlying26 inf24 rfl rfl rfl rfl) ?_
                   first | refine p_q _ rfl rfl rfl (fun _ _ => v_ld1 rfl Try.underlying24 rfl rfl rfl) ?_ | refine p_q _ rfl rfl rfl (fun _ _ => v_lf1 rfl Try.underlying24 rfl rfl rfl) ?_ | refine p_q _ rfl rfl rfl (fun _ _ => v_loadE1 rfl Try.underlying24 rfl rfl (by omega) rfl rfl) ?_
                   refine p_q _ rfl rfl rfl (fun _ _ => v_move rfl rfl) ?_
                   first | refine p_q _ rfl rfl rfl (fun _ _ => v_fieldAddr rfl Try.underlying42 inf3 rfl rfl rfl rfl) ?_ | refine p_q _ rfl rfl rfl (fun _ _ => v_fieldAddrE rfl Try.underlying42 inf3 rfl rfl rfl rfl) ?_
                   first | refine p_q _ rfl rfl rfl (fun _ _ => v_ld1 rfl Try.underlying3 rfl rfl rfl) ?_ | refine p_q _ rfl rfl rfl (fun _ _ => v_lf1 rfl Try.underlying3 rfl rfl rfl) ?_ | refine p_q _ rfl rfl rfl (fun _ _ => v_loadE1 rfl Try.underlying3 rfl rfl (by omega) rfl rfl) ?_
                   first | refine p_q _ rfl rfl rfl (fun _ _ => v_fieldAddr rfl Try.underlying42 inf3 rfl rfl rfl rfl) ?_ | refine p_q _ rfl rfl rfl (fun _ _ => v_fieldAddrE rfl Try.underlying42 inf3 rfl rfl rfl rfl) ?_
                   first | refine p_q _ rfl rfl rfl (fun _ _ => v_ld1 rfl Try.underlying3 rfl rfl rfl) ?_ | refine p_q _ rfl rfl rfl (fun _ _ => v_lf1 rfl Try.underlying3 rfl rfl rfl) ?_ | refine p_q _ rfl rfl rfl (fun _ _ => v_loadE1 rfl Try.underlying3 rfl rfl (by omega) rfl rfl) ?_
                   refine p_nilF (by simp only [List.nil_append, List.cons_append]; rfl) rfl ⟨⟨_, _, _, rfl, rfl, rfl, rfl, rfl, float_field rfl Try.underlying26 inf24 rfl rfl rfl rfl⟩, ⟨_, _, _, rfl, rfl, rfl, rfl, rfl, float_cell (vs := ([.slice ro F.rain.length rc, i64 F.men, i64 F.lim.a, i64 F.lim.b, i64 F.lim.c, i64 F.dr.a, i64 F.dr.b, i64 F.dr.c, .slice oa70 F.heaps.length cp70] : List Value)) (B := 26) rfl Try.underlying24 rfl rfl rfl (fun _ h => h.1)⟩, ⟨_, _, _, rfl, rfl, rfl, rfl, rfl, float_mv rfl rfl⟩, ⟨_, _, _, rfl, rfl, rfl, rfl, rfl, float_field rfl Try.underlying42 inf3 rfl rfl rfl rfl⟩, ⟨_, _, _, rfl, rfl, rfl, rfl, rfl, float_cell (vs := [i64 (kS (drawT bys) (bsA bl) i).lo, i64 (kS (drawT bys) (bsA bl) i).hi]) (B := 42) rfl Try.underlying3 rfl rfl rfl (fun _ h => h.2)⟩, trivial⟩ ?_
                   refine f_q rfl ?_
                   refine f_q rfl ?_
                   refine f_q rfl ?_
                   refine f_q rfl ?_
                   refine f_q rfl ?_
                   refine f_q rfl ?_
                   refine f_q rfl ?_
                   refine f_q rfl ?_
                   refine f_q rfl ?_
                   refine f_q rfl ?_
                   refine f_nil ?_
                   refine oz_lift (fun w h => ⟨h.bl (HasBox.mem (b := b9)), h.bl (HasBox.mem (b := b15))⟩) ?_
                   refine o_q _ rfl rfl rfl (v_indexAddrO (l := F.heaps.length) (enc := encH) encH_len rfl Try.underlying24 inf47 rfl rfl rfl (by omega) (ownH_len (F := F)).symm) ?_
                   refine o_nil ?_
                   refine r_then ?_
                   refine oz_lift (fun w h => ⟨h.bl (HasBox.mem (b := b9)), h.bl (HasBox.mem (b := b15))⟩) ?_
                   first | refine o_q _ rfl rfl rfl (v_fieldAddr rfl Try.underlying47 inf3 rfl rfl rfl rfl) ?_ | refine o_q _ rfl rfl rfl (v_fieldAddrE rfl Try.underlying47 inf3 rfl rfl rfl rfl) ?_
                   refine o_nil ?_
                   refine r_then ?_
                   refine oz_lift (fun w h => ⟨h.bl (HasBox.mem (b := b9)), h.bl (HasBox.mem (b := b15))⟩) ?_
                   refine o_stO (l := F.heaps.length) (cap := cp66) (enc := encH) (v := i64 (kS (drawT bys) (bsA bl) i).lo) (u := i64 (kS (drawT bys) (bsA bl) i).lo) (xs := (ownH F (fun z => (kS (drawT bys) (bsA bl) z).lo) (i))) (k := i) (j := 2) (⟨(F.heaps.getD i default).lo, (F.heaps.getD i default).hi, (kS (drawT bys) (bsA bl) i).lo⟩ : Heap) encH_len rfl inf3 rfl rfl rfl rfl rfl rfl rfl (by rw [ownH_len]; omega) (by decide) (by rw [ownH_at (by omega)]; rfl) ?_
                   refine o_nil ?_
                   refine r_then ?_
                   refine oz_lift (fun w h => ⟨h.bl (HasBox.mem (b := b9)), h.bl (HasBox.mem (b := b15))⟩) ?_
                   refine o_q _ rfl rfl rfl (v_indexAddrO (l := F.heaps.length) (enc := encH) encH_len rfl Try.underlying24 inf47 rfl rfl rfl (by omega) (ownH_len (F := F)).symm) ?_
                   refine o_nil ?_
                   refine r_then ?_
                   refine oz_lift (fun w h => ⟨h.bl (HasBox.mem (b := b9)), h.bl (HasBox.mem (b := b15))⟩) ?_
                   first | refine o_q _ rfl rfl rfl (v_fieldAddr rfl Try.underlying47 inf3 rfl rfl rfl rfl) ?_ | refine o_q _ rfl rfl rfl (v_fieldAddrE rfl Try.underlying47 inf3 rfl rfl rfl rfl) ?_
                   refine o_nil ?_
                   refine r_then ?_
                   refine oz_lift (fun w h => ⟨h.bl (HasBox.mem (b := b9)), h.bl (HasBox.mem (b := b15))⟩) ?_
                   refine o_stO (l := F.heaps.length) (cap := cp70) (enc := encH) (v := i64 (kS (drawT bys) (bsA bl) i).hi) (u := i64 (kS (drawT bys) (bsA bl) i).hi) (xs := (ownH F (fun z => (kS (drawT bys) (bsA bl) z).hi) (i))) (k := i) (j := 2) (⟨(F.heaps.getD i default).lo, (F.heaps.getD i default).hi, (kS (drawT bys) (bsA bl) i).hi⟩ : Heap) encH_len rfl inf3 rfl rfl rfl rfl rfl rfl rfl (by rw [ownH_len]; omega) (by decide) (by rw [ownH_at (by omega)]; rfl) ?_
                   refine o_nil ?_
                   refine r_then ?_
                   refine oz_nil (fun w h => ⟨h.bl (HasBox.mem (b := b9)), h.bl (HasBox.mem (b := b15))⟩) ?_
                   refine r_nop ?_
                   repeat (first | with_reducible refine r_then ?_ | with_reducible refine r_in_normal ?_ | with_reducible refine r_sc_normal ?_)
                   have htl0 : (truTo (drawT bys) (bsA bl) (i)).length = i := truTo_len
                   refine r_region ?_
                   refine o_q _ rfl rfl rfl (v_move rfl rfl) ?_
                   refine o_q _ rfl rfl rfl (v_move rfl rfl) ?_
                   refine o_lit rfl Try.underlying33 inf3 rfl rfl rfl rfl rfl rfl rfl rfl (by repeat (first | exact trivial | refine ⟨rfl, ?_⟩)) (by rfl) (fun b145 => ?_)
                   refine o_app1 (trS (drawT bys) (bsA bl) i) rfl Try.underlying33 inf3 rfl (by rfl) (by rfl) rfl rfl rfl rfl rfl (by rfl) (by rfl) (by rfl) (by first | omega | (constructor <;> first | omega | decide)) (fun v146 => ?_)
                   refine o_q _ rfl rfl rfl (v_assign rfl rfl) ?_
                   refine o_nil ?_
                   repeat (first | with_reducible refine r_then ?_ | with_reducible refine r_in_normal ?_ | with_reducible refine r_sc_normal ?_)
                   refine r_region ?_
                   refine o_q _ rfl rfl rfl (v_add rfl rfl rfl (by omega)) ?_
                   refine o_q _ rfl rfl rfl (v_move rfl rfl) ?_
                   refine o_nil ?_
                   repeat (first | with_reducible refine r_then ?_ | with_reducible refine r_in_normal ?_ | with_reducible refine r_sc_normal ?_)
                   first
                   | exact r_next ((i + 1, v146)) (by rw [ownH_s (by omega), ownH_s (by omega)]; refine Imp.lToZ (.slice oa66 F.heaps.length cp66) (ownH F (fun z => (kS (drawT bys) (bsA bl) z).lo) (i + 1)) rfl ?_; refine Imp.lToZ (.slice oa70 F.heaps.length cp70) (ownH F (fun z => (kS (drawT bys) (bsA bl) z).hi) (i + 1)) rfl ?_; refine Imp.own_to v146 (truTo (drawT bys) (bsA bl) (i + 1)) truTo_s ?_; refine Imp.box_to x60.1 [i64 ((cntB (bsA bl) (i + 1) : Nat) : Int)] (by rw [cntB, bkA_of]) ?_; exact r_here (by repeat (first | exact FSub.nil | refine FSub.cons rfl ?_)) SelMC.sel SubRC.sub) (by exact ⟨by omega, Foot4.all_step hI0.2 hgk⟩) (by show _ - (_ + 1) < _ - _; omega)
        ·
         first
         | (exfalso; revert hc77; decide)
         | (exfalso; omega)
         |
          skip
          refine r_exit ?_
          repeat (first | with_reducible refine r_then_exit ?_ | with_reducible refine r_sc_exit ?_ | with_reducible refine r_in_here ?_ | (with_reducible refine r_in_past (by decide) ?_) | with_reducible refine r_then ?_ | with_reducible refine r_in_normal ?_ | with_reducible refine r_sc_normal ?_)
          refine r_seq ?_
          have hi9 : i = F.heaps.length := (by omega)
          subst hi9
          have hgs : ∀ j, j < F.heaps.length → GoodS (bkA (bsA bl) j) := hI0.2
          have hkb : ∀ j, j < F.heaps.length → (0 ≤ (kS (drawT bys) (bsA bl) j).lo ∧ (kS (drawT bys) (bsA bl) j).hi ≤ 90) ∧ (kS (drawT bys) (bsA bl) j).lo ≤ trS (drawT bys) (bsA bl) j ∧ trS (drawT bys) (bsA bl) j ≤ (kS (drawT bys) (bsA bl) j).hi := fun j hj => kS_ok hf (hgs j hj)
          have hb1 : ∀ j, j < F.heaps.length → 0 ≤ (kS (drawT bys) (bsA bl) j).lo ∧ (kS (drawT bys) (bsA bl) j).lo ≤ 500 := fun j hj => by have := hkb j hj; omega
          have hb2 : ∀ j, j < F.heaps.length → 0 ≤ (kS (drawT bys) (bsA bl) j).hi ∧ (kS (drawT bys) (bsA bl) j).hi ≤ 500 := fun j hj => by have := hkb j hj; omega
          have hgo : GoodF (ownF F (fun z => (kS (drawT bys) (bsA bl) z).lo)) := good_own hg hb1
          have hgm : GoodF (ownF F (fun z => (kS (drawT bys) (bsA bl) z).hi)) := good_own hg hb2
          have hbo : bestS (ownF F (fun z => (kS (drawT bys) (bsA bl) z).lo)) (ownF F (fun z => (kS (drawT bys) (bsA bl) z).lo)).men ≤ bestS (ownF F (fun z => (kS (drawT bys) (bsA bl) z).hi)) (ownF F (fun z => (kS (drawT bys) (bsA bl) z).hi)).men := best_own hg hb1 hb2 (fun j hj => by have := hkb j hj; show (kS (drawT bys) (bsA bl) j).lo ≤ (kS (drawT bys) (bsA bl) j).hi; omega)
          have hdb : bestS (ownF F (fun z => (kS (drawT bys) (bsA bl) z).lo)) (ownF F (fun z => (kS (drawT bys) (bsA bl) z).lo)).men ≤ dryTo (trS (drawT bys) (bsA bl)) (bestL (ownF F (fun z => (kS (drawT bys) (bsA bl) z).lo))) F.heaps.length := dry_best hg hb1 (fun j hj => (hkb j hj).2.1)
          have hln : (bestL (ownF F (fun z => (kS (drawT bys) (bsA bl) z).lo))).length = F.heaps.length := by rw [bestL_len]; exact ownH_len
          have hrt := bestL_right hgo
          have hoh : (ownF F (fun z => (kS (drawT bys) (bsA bl) z).lo)).heaps.length = F.heaps.length := ownH_len
          have hmh : (ownF F (fun z => (kS (drawT bys) (bsA bl) z).hi)).heaps.length = F.heaps.length := ownH_len
          have hdt : ∀ j, j < F.heaps.length → 0 ≤ trS (drawT bys) (bsA bl) j ∧ trS (drawT bys) (bsA bl) j ≤ 90 := fun j hj => by have := hkb j hj; omega
          refine Imp.settleZ' (.slice oa66 F.heaps.length cp66) encH_len (fun oz cz hz => ?_)
          obtain ⟨rfl, -, rfl⟩ := Value.slice.inj hz
          refine Imp.settleZ' (.slice oa70 F.heaps.length cp70) encH_len (fun oy cy hy => ?_)
          obtain ⟨rfl, -, rfl⟩ := Value.slice.inj hy
          refine Imp.box_to b8 (cellsF (ownF F (fun z => (kS (drawT bys) (bsA bl) z).lo)) ro rc oa66 cp66) (by rw [← hoh]) ?_
          refine Imp.box_to b9 (cellsF (ownF F (fun z => (kS (drawT bys) (bsA bl) z).hi)) ro rc oa70 cp70) (by rw [← hmh]) ?_
          refine Imp.settleS v Sod2.encI_len (fun ot ct ht => ?_)
          subst ht
          refine r_region ?_
          first | refine o_q _ rfl rfl rfl (v_ldW rfl Try.underlying26 rfl inf26 rfl rfl) ?_ | refine o_q _ rfl rfl rfl (v_lfW rfl Try.underlying26 rfl inf26 rfl rfl) ?_ | refine o_q _ rfl rfl rfl (v_lfN rfl Try.underlying26 rfl inf26 rfl rfl rfl) ?_ | refine o_q _ rfl rfl rfl (v_ldN rfl Try.underlying26 rfl inf26 rfl rfl rfl) ?_ | refine o_q _ rfl rfl rfl (v_loadEN rfl Try.underlying26 rfl inf26 rfl (by omega) rfl rfl rfl) ?_
          refine o_fnown (FootW.EBest_s (ownF F (fun z => (kS (drawT bys) (bsA bl) z).lo)) ro oa66 rc cp66 hgo) rfl rfl rfl rfl rfl SubRC.sub (fun v150 => ?_)
          all_goals
           refine Imp.settleS v150 encT_len (fun ol lc hl9 => ?_)
           subst hl9
           refine o_q _ rfl rfl rfl (v_move rfl rfl) ?_
           refine o_q _ rfl rfl rfl (v_extract rfl rfl rfl) ?_
           refine o_q _ rfl rfl rfl (v_extract rfl rfl rfl) ?_
           refine o_q _ rfl rfl rfl (v_extract rfl rfl rfl) ?_
           refine o_q _ rfl rfl rfl (v_assign rfl rfl) ?_
           refine o_q _ rfl rfl rfl (v_assign rfl rfl) ?_
           refine o_q _ rfl rfl rfl (v_assign rfl rfl) ?_
           refine o_nil ?_
           repeat (first | with_reducible refine r_then ?_ | with_reducible refine r_in_normal ?_ | with_reducible refine r_sc_normal ?_)
           refine r_seq ?_
           refine r_region ?_
           first | refine o_q _ rfl rfl rfl (v_ldW rfl Try.underlying26 rfl inf26 rfl rfl) ?_ | refine o_q _ rfl rfl rfl (v_lfW rfl Try.underlying26 rfl inf26 rfl rfl) ?_ | refine o_q _ rfl rfl rfl (v_lfN rfl Try.underlying26 rfl inf26 rfl rfl rfl) ?_ | refine o_q _ rfl rfl rfl (v_ldN rfl Try.underlying26 rfl inf26 rfl rfl rfl) ?_ | refine o_q _ rfl rfl rfl (v_loadEN rfl Try.underlying26 rfl inf26 rfl (by omega) rfl rfl rfl) ?_
           refine o_fnown (FootW.EBest_s (ownF F (fun z => (kS (drawT bys) (bsA bl) z).hi)) ro oa70 rc cp70 hgm) rfl rfl rfl rfl rfl SubRC.sub (fun v156 => ?_)
           all_goals
            refine o_q _ rfl rfl rfl (v_move rfl rfl) ?_
            refine o_q _ rfl rfl rfl (v_extract rfl rfl rfl) ?_
            refine o_q _ rfl rfl rfl (v_extract rfl rfl rfl) ?_
            refine o_q _ rfl rfl rfl (v_extract rfl rfl rfl) ?_
            refine o_q _ rfl rfl rfl (v_assign rfl rfl) ?_
            refine o_q _ rfl rfl rfl (v_assign rfl rfl) ?_
            refine o_q _ rfl rfl rfl (v_assign rfl rfl) ?_
            refine o_nil ?_
            repeat (first | with_reducible refine r_then ?_ | with_reducible refine r_in_normal ?_ | with_reducible refine r_sc_normal ?_)
            refine r_seq ?_
            refine r_region ?_
            first | refine o_q _ rfl rfl rfl (v_ldW rfl Try.underlying26 rfl inf26 rfl rfl) ?_ | refine o_q _ rfl rfl rfl (v_lfW rfl Try.underlying26 rfl inf26 rfl rfl) ?_ | refine o_q _ rfl rfl rfl (v_lfN rfl Try.underlying26 rfl inf26 rfl rfl rfl) ?_ | refine o_q _ rfl rfl rfl (v_ldN rfl Try.underlying26 rfl inf26 rfl rfl rfl) ?_ | refine o_q _ rfl rfl rfl (v_loadEN rfl Try.underlying26 rfl inf26 rfl (by omega) rfl rfl rfl) ?_
            refine o_q _ rfl rfl rfl (OpQ.fn (FootW.EClamp_v (ownF F (fun z => (kS (drawT bys) (bsA bl) z).lo)) ro oa66 rc cp66 hgo) rfl rfl SubRC.sub) ?_
            refine o_q _ rfl rfl rfl (v_move rfl rfl) ?_
            refine o_q _ rfl rfl rfl (v_extract rfl rfl rfl) ?_
            refine o_q _ rfl rfl rfl (v_extract rfl rfl rfl) ?_
            refine o_q _ rfl rfl rfl (v_extract rfl rfl rfl) ?_
            refine o_q _ rfl rfl rfl (v_assign rfl rfl) ?_
            refine o_q _ rfl rfl rfl (v_assign rfl rfl) ?_
            refine o_q _ rfl rfl rfl (v_assign rfl rfl) ?_
            refine o_nil ?_
            repeat (first | with_reducible refine r_then ?_ | with_reducible refine r_in_normal ?_ | with_reducible refine r_sc_normal ?_)
            refine r_seq ?_
            refine r_seq ?_
            refine r_region ?_
            refine o_q _ rfl rfl rfl (v_move rfl rfl) ?_
            first | refine o_q _ rfl rfl rfl (v_true (v_neq rfl rfl rfl) (by omega)) ?_ | refine o_q _ rfl rfl rfl (v_false (v_neq rfl rfl rfl) (by omega)) ?_ | refine o_test rfl rfl rfl (v_neq rfl rfl rfl) (fun h167 => ?_) (fun h167 => ?_)
            all_goals
             refine o_q _ rfl rfl rfl (v_move rfl rfl) ?_
             first | refine o_gn rfl rfl rfl rfl ?_ | refine o_g _ rfl rfl rfl rfl (v_move rfl rfl) ?_
             first | refine o_gn rfl rfl rfl rfl ?_ | refine o_g _ rfl rfl rfl rfl (v_true (v_neq rfl rfl rfl) (by omega)) ?_ | refine o_g _ rfl rfl rfl rfl (v_false (v_neq rfl rfl rfl) (by omega)) ?_ | refine o_gtest rfl rfl rfl rfl (v_neq rfl rfl rfl) (fun h170 => ?_) (fun h170 => ?_)
             all_goals
              first | refine o_q _ rfl rfl rfl (v_pick_t rfl rfl rfl) ?_ | refine o_q _ rfl rfl rfl (v_pick_f rfl rfl rfl) ?_
              refine o_q _ rfl rfl rfl (v_move rfl rfl) ?_
              first | refine o_gn rfl rfl rfl rfl ?_ | refine o_g _ rfl rfl rfl rfl (v_move rfl rfl) ?_
              first | refine o_gn rfl rfl rfl rfl ?_ | refine o_g _ rfl rfl rfl rfl (v_true (v_neq rfl rfl rfl) (by omega)) ?_ | refine o_g _ rfl rfl rfl rfl (v_false (v_neq rfl rfl rfl) (by omega)) ?_ | refine o_gtest rfl rfl rfl rfl (v_neq rfl rfl rfl) (fun h174 => ?_) (fun h174 => ?_)
              all_goals
               first | refine o_q _ rfl rfl rfl (v_pick_t rfl rfl rfl) ?_ | refine o_q _ rfl rfl rfl (v_pick_f rfl rfl rfl) ?_
               refine o_q _ rfl rfl rfl (v_move rfl rfl) ?_
               first | refine o_gn rfl rfl rfl rfl ?_ | refine o_g _ rfl rfl rfl rfl (v_move rfl rfl) ?_
               first | refine o_gn rfl rfl rfl rfl ?_ | refine o_g _ rfl rfl rfl rfl (v_len rfl rfl Try.underlying48 rfl) ?_
               first | refine o_gn rfl rfl rfl rfl ?_ | refine o_g _ rfl rfl rfl rfl (v_fieldAddr rfl Try.underlying26 inf24 rfl rfl rfl rfl) ?_ | refine o_g _ rfl rfl rfl rfl (v_fieldAddrE rfl Try.underlying26 inf24 rfl rfl rfl rfl) ?_
               first | refine o_gn rfl rfl rfl rfl ?_ | refine o_g _ rfl rfl rfl rfl (v_ld1 rfl Try.underlying24 rfl rfl rfl) ?_ | refine o_g _ rfl rfl rfl rfl (v_lf1 rfl Try.underlying24 rfl rfl rfl) ?_ | refine o_g _ rfl rfl rfl rfl (v_loadE1 rfl Try.underlying24 rfl rfl (by omega) rfl rfl) ?_
               first | refine o_gn rfl rfl rfl rfl ?_ | refine o_g _ rfl rfl rfl rfl (v_len rfl rfl Try.underlying24 rfl) ?_
               first | refine o_gn rfl rfl rfl rfl ?_ | refine o_g _ rfl rfl rfl rfl (v_true (v_neq rfl rfl rfl) (by omega)) ?_ | refine o_g _ rfl rfl rfl rfl (v_false (v_neq rfl rfl rfl) (by omega)) ?_ | refine o_gtest rfl rfl rfl rfl (v_neq rfl rfl rfl) (fun h182 => ?_) (fun h182 => ?_)
               all_goals
                first | refine o_q _ rfl rfl rfl (v_pick_t rfl rfl rfl) ?_ | refine o_q _ rfl rfl rfl (v_pick_f rfl rfl rfl) ?_
                refine o_q _ rfl rfl rfl (v_move rfl rfl) ?_
                first | refine o_gn rfl rfl rfl rfl ?_ | refine o_g _ rfl rfl rfl rfl (v_move rfl rfl) ?_
                first | refine o_gn rfl rfl rfl rfl ?_ | refine o_g _ rfl rfl rfl rfl (v_move rfl rfl) ?_
                first | refine o_gn rfl rfl rfl rfl ?_ | refine o_g _ rfl rfl rfl rfl (v_true (v_lss rfl rfl rfl) (by omega)) ?_ | refine o_g _ rfl rfl rfl rfl (v_false (v_lss rfl rfl rfl) (by omega)) ?_ | refine o_gtest rfl rfl rfl rfl (v_lss rfl rfl rfl) (fun h187 => ?_) (fun h187 => ?_)
                all_goals
                 first | refine o_q _ rfl rfl rfl (v_pick_t rfl rfl rfl) ?_ | refine o_q _ rfl rfl rfl (v_pick_f rfl rfl rfl) ?_
                 refine o_nil ?_
                 repeat (first | with_reducible refine r_then ?_ | with_reducible refine r_in_normal ?_ | with_reducible refine r_sc_normal ?_)
                 first | refine r_condd rfl (fun hc188 => ?_) (fun hc188 => ?_) | refine r_cond rfl (fun hc188 => ?_) (fun hc188 => ?_)
                 ·
                  first
                  | (exfalso; revert hc188; decide)
                  | (exfalso; omega)
                  |
                   skip
                   refine r_seq ?_
                   refine r_region ?_
                   refine o_q _ rfl rfl rfl (v_assign rfl rfl) ?_
                   refine o_nil ?_
                   repeat (first | with_reducible refine r_then ?_ | with_reducible refine r_in_normal ?_ | with_reducible refine r_sc_normal ?_)
                   refine r_ret ?_
                   repeat (first | with_reducible refine r_then_ret ?_ | with_reducible refine r_in_ret ?_ | with_reducible refine r_sc_ret ?_)
                   exact r_retv2 (Rd.tmp rfl rfl) rfl SelMC.sel SubRC.sub
                 ·
                  first
                  | (exfalso; revert hc188; decide)
                  | (exfalso; omega)
                  |
                   skip
                   refine r_skip ?_
                   repeat (first | with_reducible refine r_then ?_ | with_reducible refine r_in_normal ?_ | with_reducible refine r_sc_normal ?_)
                   refine r_seq ?_
                   refine r_seq ?_
                   refine r_region ?_
                   first | refine o_q _ rfl rfl rfl (v_ldW rfl Try.underlying26 rfl inf26 rfl rfl) ?_ | refine o_q _ rfl rfl rfl (v_lfW rfl Try.underlying26 rfl inf26 rfl rfl) ?_ | refine o_q _ rfl rfl rfl (v_lfN rfl Try.underlying26 rfl inf26 rfl rfl rfl) ?_ | refine o_q _ rfl rfl rfl (v_ldN rfl Try.underlying26 rfl inf26 rfl rfl rfl) ?_ | refine o_q _ rfl rfl rfl (v_loadEN rfl Try.underlying26 rfl inf26 rfl (by omega) rfl rfl rfl) ?_
                   refine o_q _ rfl rfl rfl (v_move rfl rfl) ?_
                   refine o_fn (FootW.BrokenP_r (ownF F (fun z => (kS (drawT bys) (bsA bl) z).lo)) ro oa66 rc cp66 (by show (F.rain.length : Nat) ≤ 40; omega) (by omega) (bestL (ownF F (fun z => (kS (drawT bys) (bsA bl) z).lo))) ol lc (by omega)) rfl rfl rfl rfl rfl SubRC.sub (fun v192 hv192 => ?_)
                   all_goals
                    obtain ⟨x192, rfl, hb192⟩ := hv192
                    obtain rfl := bestL_ok hgo hb192
                    dsimp only
                    refine o_q _ rfl rfl rfl (v_move rfl rfl) ?_
                    refine o_q _ rfl rfl rfl (v_extract rfl rfl rfl) ?_
                    refine o_q _ rfl rfl rfl (v_extract rfl rfl rfl) ?_
                    refine o_q _ rfl rfl rfl (v_extract rfl rfl rfl) ?_
                    refine o_q _ rfl rfl rfl (v_extract rfl rfl rfl) ?_
                    refine o_q _ rfl rfl rfl (v_assign rfl rfl) ?_
                    refine o_q _ rfl rfl rfl (v_assign rfl rfl) ?_
                    refine o_q _ rfl rfl rfl (v_assign rfl rfl) ?_
                    refine o_q _ rfl rfl rfl (v_assign rfl rfl) ?_
                    refine o_nil ?_
                    repeat (first | with_reducible refine r_then ?_ | with_reducible refine r_in_normal ?_ | with_reducible refine r_sc_normal ?_)
                    refine r_seq ?_
                    refine r_region ?_
                    refine o_q _ rfl rfl rfl (v_move rfl rfl) ?_
                    refine o_q _ rfl rfl rfl (v_neq rfl rfl rfl) ?_
                    refine o_nil ?_
                    repeat (first | with_reducible refine r_then ?_ | with_reducible refine r_in_normal ?_ | with_reducible refine r_sc_normal ?_)
                    first | refine r_condd rfl (fun hc198 => ?_) (fun hc198 => ?_) | refine r_cond rfl (fun hc198 => ?_) (fun hc198 => ?_)
                    ·
                     first
                     | (exfalso; revert hc198; decide)
                     | (exfalso; omega)
                     |
                      skip
                      refine r_seq ?_
                      refine r_region ?_
                      refine o_q _ rfl rfl rfl (v_assign rfl rfl) ?_
                      refine o_nil ?_
                      repeat (first | with_reducible refine r_then ?_ | with_reducible refine r_in_normal ?_ | with_reducible refine r_sc_normal ?_)
                      refine r_ret ?_
                      repeat (first | with_reducible refine r_then_ret ?_ | with_reducible refine r_in_ret ?_ | with_reducible refine r_sc_ret ?_)
                      exact r_retv2 (Rd.tmp rfl rfl) rfl SelMC.sel SubRC.sub
                    ·
                     first
                     | (exfalso; revert hc198; decide)
                     | (exfalso; omega)
                     |
                      skip
                      refine r_skip ?_
                      repeat (first | with_reducible refine r_then ?_ | with_reducible refine r_in_normal ?_ | with_reducible refine r_sc_normal ?_)
                      refine r_seq ?_
                      refine r_region ?_
                      refine o_q _ rfl rfl rfl (v_assign rfl rfl) ?_
                      refine o_nil ?_
                      repeat (first | with_reducible refine r_then ?_ | with_reducible refine r_in_normal ?_ | with_reducible refine r_sc_normal ?_)
                      refine r_seq ?_
                      refine r_seq ?_
                      refine r_region ?_
                      refine o_q _ rfl rfl rfl (v_move rfl rfl) ?_
                      refine o_q _ rfl rfl rfl (v_len rfl rfl Try.underlying48 rfl) ?_
                      refine o_q _ rfl rfl rfl (v_move rfl rfl) ?_
                      refine o_nil ?_
                      repeat (first | with_reducible refine r_then ?_ | with_reducible refine r_in_normal ?_ | with_reducible refine r_sc_normal ?_)
                      refine r_block ?_
                      refine r_loop (ι := Nat) (fun i => i ≤ F.heaps.length) (fun i => [(8, pt b8 0), (10, .slice ot (truTo (drawT bys) (bsA bl) (F.heaps.length)).length ct), (17, i64 (bestS (ownF F (fun z => (kS (drawT bys) (bsA bl) z).lo)) (ownF F (fun z => (kS (drawT bys) (bsA bl) z).lo)).men)), (18, .slice ol (bestL (ownF F (fun z => (kS (drawT bys) (bsA bl) z).lo))).length lc), (23, i64 (clampB (sureQ selW (ownF F (fun z => (kS (drawT bys) (bsA bl) z).lo))) (ownF F (fun z => (kS (drawT bys) (bsA bl) z).lo)).heaps.length : Nat)), (30, i64 (dryTo (trS (drawT bys) (bsA bl)) (bestL (ownF F (fun z => (kS (drawT bys) (bsA bl) z).lo))) i)), (199, .slice ol (bestL (ownF F (fun z => (kS (drawT bys) (bsA bl) z).lo))).length lc), (200, i64 (bestL (ownF F (fun z => (kS (drawT bys) (bsA bl) z).lo))).length), (201, i64 i)]) (fun i => bx b8 26 (cellsF (ownF F (fun z => (kS (drawT bys) (bsA bl) z).lo)) ro rc oa66 cp66) :: M) (fun i => rowD ot 1 Sod2.encI (truTo (drawT bys) (bsA bl) (F.heaps.length)) :: rowD ol 3 encT (bestL (ownF F (fun z => (kS (drawT bys) (bsA bl) z).lo))) :: rowD oa66 3 encH (ownF F (fun z => (kS (drawT bys) (bsA bl) z).lo)).heaps :: [rowD ro 2 encS F.rain, rowD ho 3 encH F.heaps, rowD ka 3 encA bl, rowsA bl, rowD ba 1 encU bys] ++ Rf) (fun i => F.heaps.length - i) 0 ?_ ?_ ?_
                      ·
                       exact r_here (by repeat (first | exact FSub.nil | refine FSub.cons rfl ?_)) SelMC.sel SubRC.sub
                      ·
                       omega
                      ·
                       rintro i hI1
                       refine r_seq ?_
                       refine r_region ?_
                       refine o_q _ rfl rfl rfl (v_lss rfl rfl rfl) ?_
                       refine o_nil ?_
                       repeat (first | with_reducible refine r_then ?_ | with_reducible refine r_in_normal ?_ | with_reducible refine r_sc_normal ?_)
                       refine r_seq ?_
                       first | refine r_condd rfl (fun hc202 => ?_) (fun hc202 => ?_) | refine r_cond rfl (fun hc202 => ?_) (fun hc202 => ?_)
                       ·
                        first
                        | (exfalso; revert hc202; decide)
                        | (exfalso; omega)
                        |
                         skip
                         refine r_skip ?_
                         repeat (first | with_reducible refine r_then ?_ | with_reducible refine r_in_normal ?_ | with_reducible refine r_sc_normal ?_)
                         refine r_seq ?_
                         refine r_block ?_
                         refine r_seq ?_
                         refine r_region ?_
                         refine o_q _ rfl rfl rfl (v_move rfl rfl) ?_
                         first | refine o_q _ rfl rfl rfl (v_indexAddrSn rfl Try.underlying48 inf55 rfl rfl rfl (by omega) rfl) ?_ | refine o_q _ rfl rfl rfl (v_indexAddrS rfl Try.underlying48 inf55 rfl rfl rfl (by omega) (by omega) rfl) ?_
                         first | refine o_q _ rfl rfl rfl (v_ldW rfl Try.underlying55 rfl inf55 rfl rfl) ?_ | refine o_q _ rfl rfl rfl (v_lfW rfl Try.underlying55 rfl inf55 rfl rfl) ?_ | refine o_q _ rfl rfl rfl (v_lfN rfl Try.underlying55 rfl inf55 rfl rfl rfl) ?_ | refine o_q _ rfl rfl rfl (v_ldN rfl Try.underlying55 rfl inf55 rfl rfl rfl) ?_ | refine o_q _ rfl rfl rfl (v_loadEN rfl Try.underlying55 rfl inf55 rfl (by omega) rfl rfl rfl) ?_
                         refine o_alloc rfl inf55 rfl rfl rfl rfl rfl (fun b32 => ?_)
                         refine o_q _ rfl rfl rfl (v_assign rfl rfl) ?_
                         refine o_st rfl inf55 rfl rfl rfl rfl rfl rfl rfl rfl ?_
                         refine o_nil ?_
                         repeat (first | with_reducible refine r_then ?_ | with_reducible refine r_in_normal ?_ | with_reducible refine r_sc_normal ?_)
                         refine r_seq ?_
                         refine r_seq ?_
                         refine Imp.box_to b32 [i64 ((bestL (ownF F (fun z => (kS (drawT bys) (bsA bl) z).lo))).getD i default).a, i64 ((bestL (ownF F (fun z => (kS (drawT bys) (bsA bl) z).lo))).getD i default).b, i64 ((bestL (ownF F (fun z => (kS (drawT bys) (bsA bl) z).lo))).getD i default).c] rfl ?_
                         have hbr := hrt.2.2.2 i (by omega)
                         have hdy := dryTo_bd (l := bestL (ownF F (fun z => (kS (drawT bys) (bsA bl) z).lo))) hdt i (by omega)
                         have hti := hdt i (by omega)
                         have htl : (truTo (drawT bys) (bsA bl) (F.heaps.length)).length = F.heaps.length := truTo_len
                         refine r_region ?_
                         first | refine o_q _ rfl rfl rfl (v_ldW rfl Try.underlying26 rfl inf26 rfl rfl) ?_ | refine o_q _ rfl rfl rfl (v_lfW rfl Try.underlying26 rfl inf26 rfl rfl) ?_ | refine o_q _ rfl rfl rfl (v_lfN rfl Try.underlying26 rfl inf26 rfl rfl rfl) ?_ | refine o_q _ rfl rfl rfl (v_ldN rfl Try.underlying26 rfl inf26 rfl rfl rfl) ?_ | refine o_q _ rfl rfl rfl (v_loadEN rfl Try.underlying26 rfl inf26 rfl (by omega) rfl rfl rfl) ?_
                         refine o_q _ rfl rfl rfl (v_move rfl rfl) ?_
                         first | refine o_q _ rfl rfl rfl (v_ldW rfl Try.underlying55 rfl inf55 rfl rfl) ?_ | refine o_q _ rfl rfl rfl (v_lfW rfl Try.underlying55 rfl inf55 rfl rfl) ?_ | refine o_q _ rfl rfl rfl (v_lfN rfl Try.underlying55 rfl inf55 rfl rfl rfl) ?_ | refine o_q _ rfl rfl rfl (v_ldN rfl Try.underlying55 rfl inf55 rfl rfl rfl) ?_ | refine o_q _ rfl rfl rfl (v_loadEN rfl Try.underlying55 rfl inf55 rfl (by omega) rfl rfl rfl) ?_
                         refine o_q _ rfl rfl rfl (OpQ.fn (FootW.ECan_v (ownF F (fun z => (kS (drawT bys) (bsA bl) z).lo)) ro oa66 rc cp66 hgo i ((bestL (ownF F (fun z => (kS (drawT bys) (bsA bl) z).lo))).getD i default) hbr.1 (by omega) (k := 2) (by unfold keptP; rw [if_pos hbr.2])) rfl rfl SubRC.sub) ?_
                         refine o_q _ rfl rfl rfl (v_move rfl rfl) ?_
                         refine o_q _ rfl rfl rfl (v_extract rfl rfl rfl) ?_
                         refine o_q _ rfl rfl rfl (v_extract rfl rfl rfl) ?_
                         refine o_q _ rfl rfl rfl (v_assign rfl rfl) ?_
                         refine o_q _ rfl rfl rfl (v_assign rfl rfl) ?_
                         refine o_nil ?_
                         repeat (first | with_reducible refine r_then ?_ | with_reducible refine r_in_normal ?_ | with_reducible refine r_sc_normal ?_)
                         refine r_seq ?_
                         refine r_region ?_
                         refine o_q _ rfl rfl rfl (v_move rfl rfl) ?_
                         first | refine o_q _ rfl rfl rfl (v_true (v_neq rfl rfl rfl) (by omega)) ?_ | refine o_q _ rfl rfl rfl (v_false (v_neq rfl rfl rfl) (by omega)) ?_ | refine o_test rfl rfl rfl (v_neq rfl rfl rfl) (fun h214 => ?_) (fun h214 => ?_)
                         all_goals
                          refine o_q _ rfl rfl rfl (v_move rfl rfl) ?_
                          first | refine o_gn rfl rfl rfl rfl ?_ | refine o_g _ rfl rfl rfl rfl (v_move rfl rfl) ?_
                          first | refine o_gn rfl rfl rfl rfl ?_ | refine o_g _ rfl rfl rfl rfl (v_true (v_neq rfl rfl rfl) (by omega)) ?_ | refine o_g _ rfl rfl rfl rfl (v_false (v_neq rfl rfl rfl) (by omega)) ?_ | refine o_gtest rfl rfl rfl rfl (v_neq rfl rfl rfl) (fun h217 => ?_) (fun h217 => ?_)
                          all_goals
                           first | refine o_q _ rfl rfl rfl (v_pick_t rfl rfl rfl) ?_ | refine o_q _ rfl rfl rfl (v_pick_f rfl rfl rfl) ?_
                           refine o_nil ?_
                           repeat (first | with_reducible refine r_then ?_ | with_reducible refine r_in_normal ?_ | with_reducible refine r_sc_normal ?_)
                           first | refine r_condd rfl (fun hc218 => ?_) (fun hc218 => ?_) | refine r_cond rfl (fun hc218 => ?_) (fun hc218 => ?_)
                           ·
                            first
                            | (exfalso; revert hc218; decide)
                            | (exfalso; omega)
                            |
                             skip
                             refine r_seq ?_
                             refine r_region ?_
                             refine o_q _ rfl rfl rfl (v_assign rfl rfl) ?_
                             refine o_nil ?_
                             repeat (first | with_reducible refine r_then ?_ | with_reducible refine r_in_normal ?_ | with_reducible refine r_sc_normal ?_)
                             refine r_ret ?_
                             repeat (first | with_reducible refine r_then_ret ?_ | with_reducible refine r_in_ret ?_ | with_reducible refine r_sc_ret ?_)
                             exact r_retv2 (Rd.tmp rfl rfl) rfl SelMC.sel SubRC.sub
                           ·
                            first
                            | (exfalso; revert hc218; decide)
                            | (exfalso; omega)
                            |
                             skip
                             refine r_skip ?_
                             repeat (first | with_reducible refine r_then ?_ | with_reducible refine r_in_normal ?_ | with_reducible refine r_sc_normal ?_)
                             refine r_seq ?_
                             refine r_region ?_
                             first | refine o_q _ rfl rfl rfl (v_ldW rfl Try.underlying55 rfl inf55 rfl rfl) ?_ | refine o_q _ rfl rfl rfl (v_lfW rfl Try.underlying55 rfl inf55 rfl rfl) ?_ | refine o_q _ rfl rfl rfl (v_lfN rfl Try.underlying55 rfl inf55 rfl rfl rfl) ?_ | refine o_q _ rfl rfl rfl (v_ldN rfl Try.underlying55 rfl inf55 rfl rfl rfl) ?_ | refine o_q _ rfl rfl rfl (v_loadEN rfl Try.underlying55 rfl inf55 rfl (by omega) rfl rfl rfl) ?_
                             refine o_q _ rfl rfl rfl (v_cast (v := .bool (decide (Whole ((bestL (ownF F (fun z => (kS (drawT bys) (bsA bl) z).lo))).getD i default)))) (OpQ.fn (FootW.Whole_v _ _ _) rfl rfl SubRC.sub) rfl) ?_
                             refine o_nil ?_
                             repeat (first | with_reducible refine r_then ?_ | with_reducible refine r_in_normal ?_ | with_reducible refine r_sc_normal ?_)
                             first | refine r_condd rfl (fun hc220 => ?_) (fun hc220 => ?_) | refine r_cond rfl (fun hc220 => ?_) (fun hc220 => ?_)
                             ·
                              first
                              | (exfalso; revert hc220; decide)
                              | (exfalso; omega)
                              |
                               skip
                               refine r_seq ?_
                               refine r_region ?_
                               refine o_q _ rfl rfl rfl (v_move rfl rfl) ?_
                               refine o_q _ rfl rfl rfl (v_move rfl rfl) ?_
                               refine o_q _ rfl rfl rfl (v_move rfl rfl) ?_
                               first | refine o_q _ rfl rfl rfl (v_indexAddrSn rfl Try.underlying33 inf3 rfl rfl rfl (by omega) rfl) ?_ | refine o_q _ rfl rfl rfl (v_indexAddrS rfl Try.underlying33 inf3 rfl rfl rfl (by omega) (by omega) rfl) ?_
                               refine o_q _ rfl rfl rfl (v_cast (v := i64 (trS (drawT bys) (bsA bl) i)) (v_loadE1 rfl Try.underlying3 rfl rfl (by omega) rfl rfl) (by rw [truTo_at (by omega)])) ?_
                               refine o_q _ rfl rfl rfl (v_add rfl rfl rfl (by omega)) ?_
                               refine o_q _ rfl rfl rfl (v_assign rfl rfl) ?_
                               refine o_nil ?_
                               repeat (first | with_reducible refine r_then ?_ | with_reducible refine r_in_normal ?_ | with_reducible refine r_sc_normal ?_)
                               refine r_seq ?_
                               have hwh : Whole ((bestL (ownF F (fun z => (kS (drawT bys) (bsA bl) z).lo))).getD i default) := by assumption
                               have hq : sureQ selW (ownF F (fun z => (kS (drawT bys) (bsA bl) z).lo)) i = true := sureQ_of (sure_of hbr.1 hwh hbr.2)
                               refine r_region ?_
                               refine o_q _ rfl rfl rfl (v_move rfl rfl) ?_
                               refine o_q _ rfl rfl rfl (v_move rfl rfl) ?_
                               refine o_q _ rfl rfl rfl (v_shrn (a := clampB (sureQ selW (ownF F (fun z => (kS (drawT bys) (bsA bl) z).lo))) (ownF F (fun z => (kS (drawT bys) (bsA bl) z).lo)).heaps.length) rfl rfl rfl (FootW.clamp_sm (by omega)) (by omega)) ?_
                               refine o_q _ rfl rfl rfl (v_cast (v := i64 1) (v_andn (a := clampB (sureQ selW (ownF F (fun z => (kS (drawT bys) (bsA bl) z).lo))) (ownF F (fun z => (kS (drawT bys) (bsA bl) z).lo)).heaps.length >>> i) (b := 1) rfl rfl rfl (FootW.clamp_sh (by omega)) (by decide)) (FootW.bit1 (by omega) hq)) ?_
                               refine o_q _ rfl rfl rfl (v_eql rfl rfl rfl) ?_
                               refine o_nil ?_
                               repeat (first | with_reducible refine r_then ?_ | with_reducible refine r_in_normal ?_ | with_reducible refine r_sc_normal ?_)
                               first | refine r_condd rfl (fun hc231 => ?_) (fun hc231 => ?_) | refine r_cond rfl (fun hc231 => ?_) (fun hc231 => ?_)
                               ·
                                first
                                | (exfalso; revert hc231; decide)
                                | (exfalso; omega)
                                |
                                 skip
                                 refine r_seq ?_
                                 refine r_region ?_
                                 refine o_q _ rfl rfl rfl (v_assign rfl rfl) ?_
                                 refine o_nil ?_
                                 repeat (first | with_reducible refine r_then ?_ | with_reducible refine r_in_normal ?_ | with_reducible refine r_sc_normal ?_)
                                 refine r_ret ?_
                                 repeat (first | with_reducible refine r_then_ret ?_ | with_reducible refine r_in_ret ?_ | with_reducible refine r_sc_ret ?_)
                                 exact r_retv2 (Rd.tmp rfl rfl) rfl SelMC.sel SubRC.sub
                               ·
                                first
                                | (exfalso; revert hc231; decide)
                                | (exfalso; omega)
                                |
                                 skip
                                 refine r_skip ?_
                                 repeat (first | with_reducible refine r_then ?_ | with_reducible refine r_in_normal ?_ | with_reducible refine r_sc_normal ?_)
                                 refine r_region ?_
                                 refine o_q _ rfl rfl rfl (v_add rfl rfl rfl (by omega)) ?_
                                 refine o_q _ rfl rfl rfl (v_move rfl rfl) ?_
                                 refine o_nil ?_
                                 repeat (first | with_reducible refine r_then ?_ | with_reducible refine r_in_normal ?_ | with_reducible refine r_sc_normal ?_)
                                 refine r_next (i + 1) ?_ ?_ ?_
                                 ·
                                  first
                                  | (rw [← dryTo_y (by assumption)]; exact r_here (by repeat (first | exact FSub.nil | refine FSub.cons rfl ?_)) SelMC.sel SubRC.sub)
                                  | (rw [← dryTo_n (by assumption)]; exact r_here (by repeat (first | exact FSub.nil | refine FSub.cons rfl ?_)) SelMC.sel SubRC.sub)
                                 ·
                                  omega
                                 ·
                                  omega
                             ·
                              first
                              | (exfalso; revert hc220; decide)
                              | (exfalso; omega)
                              |
                               skip
                               refine r_skip ?_
                               repeat (first | with_reducible refine r_then ?_ | with_reducible refine r_in_normal ?_ | with_reducible refine r_sc_normal ?_)
                               refine r_region ?_
                               refine o_q _ rfl rfl rfl (v_add rfl rfl rfl (by omega)) ?_
                               refine o_q _ rfl rfl rfl (v_move rfl rfl) ?_
                               refine o_nil ?_
                               repeat (first | with_reducible refine r_then ?_ | with_reducible refine r_in_normal ?_ | with_reducible refine r_sc_normal ?_)
                               refine r_next (i + 1) ?_ ?_ ?_
                               ·
                                first
                                | (rw [← dryTo_y (by assumption)]; exact r_here (by repeat (first | exact FSub.nil | refine FSub.cons rfl ?_)) SelMC.sel SubRC.sub)
                                | (rw [← dryTo_n (by assumption)]; exact r_here (by repeat (first | exact FSub.nil | refine FSub.cons rfl ?_)) SelMC.sel SubRC.sub)
                               ·
                                omega
                               ·
                                omega
                       ·
                        first
                        | (exfalso; revert hc202; decide)
                        | (exfalso; omega)
                        |
                         skip
                         refine r_exit ?_
                         repeat (first | with_reducible refine r_then_exit ?_ | with_reducible refine r_sc_exit ?_ | with_reducible refine r_in_here ?_ | (with_reducible refine r_in_past (by decide) ?_) | with_reducible refine r_then ?_ | with_reducible refine r_in_normal ?_ | with_reducible refine r_sc_normal ?_)
                         refine r_seq ?_
                         have hi9 : i = F.heaps.length := (by omega)
                         subst hi9
                         refine r_region ?_
                         refine o_q _ rfl rfl rfl (v_move rfl rfl) ?_
                         refine o_q _ rfl rfl rfl (v_move rfl rfl) ?_
                         first | refine o_q _ rfl rfl rfl (v_true (v_geq rfl rfl rfl) (by omega)) ?_ | refine o_q _ rfl rfl rfl (v_false (v_geq rfl rfl rfl) (by omega)) ?_ | refine o_test rfl rfl rfl (v_geq rfl rfl rfl) (fun h235 => ?_) (fun h235 => ?_)
                         all_goals
                          refine o_q _ rfl rfl rfl (v_move rfl rfl) ?_
                          first | refine o_gn rfl rfl rfl rfl ?_ | refine o_g _ rfl rfl rfl rfl (OpQ.fn awake04_v rfl rfl SubRC.sub) ?_
                          first | refine o_q _ rfl rfl rfl (v_pick_t rfl rfl rfl) ?_ | refine o_q _ rfl rfl rfl (v_pick_f rfl rfl rfl) ?_
                          refine o_q _ rfl rfl rfl (v_assign rfl rfl) ?_
                          refine o_nil ?_
                          repeat (first | with_reducible refine r_then ?_ | with_reducible refine r_in_normal ?_ | with_reducible refine r_sc_normal ?_)
                          refine r_ret ?_
                          repeat (first | with_reducible refine r_then_ret ?_ | with_reducible refine r_in_ret ?_ | with_reducible refine r_sc_ret ?_)
                          exact r_retv2 (Rd.tmp rfl rfl) rfl SelMC.sel SubRC.sub
end Go.Proofs.Ytpndeonmmcaikaa


namespace Go.Proofs.Ytpndeonmmcaikaa.FootW
open Go.G Foot4
set_option maxRecDepth 1000000
section
variable {H : Type} {en : TypeId × Value → H} {w : World} {base : Nat} {sp : Nat → Bool} {held : Bool} {fuel : Nat} {cs : List Value} {x : DataW H × List MemPlace}
theorem cells22 : Try.prog.cellsOf 22 = 1 := by kernel_rfl
theorem cells23 : Try.prog.cellsOf 23 = 3 := by kernel_rfl
theorem cells24 : Try.prog.cellsOf 24 = 1 := by kernel_rfl
theorem cells26 : Try.prog.cellsOf 26 = 9 := by kernel_rfl
theorem cells31 : Try.prog.cellsOf 42 = 2 := by kernel_rfl
theorem cells73 : Try.prog.cellsOf 47 = 3 := by kernel_rfl
theorem cellsI : Try.prog.cellsOf 3 = 1 := by kernel_rfl
theorem open3 (h : DataW.trod en Try.prog w base sp held fuel 3 cs = some x) : ∃ n, cs = [i64 n] := by
  obtain ⟨n, h1, _⟩ := open_i Try.underlying3 h
  exact ⟨n, h1⟩
theorem list2 {cs : List Value} (h : cs.length = 2) : ∃ a b, cs = [a, b] := by
  match cs, h with
  | [a, b], _ => exact ⟨a, b, rfl⟩
theorem list3 {cs : List Value} (h : cs.length = 3) : ∃ a b c, cs = [a, b, c] := by
  match cs, h with
  | [a, b, c], _ => exact ⟨a, b, c, rfl⟩
theorem list9 {cs : List Value} (h : cs.length = 9) : ∃ a b c d e f g i j, cs = [a, b, c, d, e, f, g, i, j] := by
  match cs, h with
  | [a, b, c, d, e, f, g, i, j], _ => exact ⟨a, b, c, d, e, f, g, i, j, rfl⟩
theorem open31 (h : DataW.trod en Try.prog w base sp held fuel 42 cs = some x) : ∃ s : Span, cs = encS s ∧ True := by
  obtain ⟨a, b, rfl⟩ := list2 ((open_len Try.underlying42 h).trans cells31)
  obtain ⟨_, _, h0⟩ := open_field Try.underlying42 h 0 rfl cellsI
  obtain ⟨_, _, h1⟩ := open_field Try.underlying42 h 1 rfl cellsI
  obtain ⟨n, e0⟩ := open3 h0
  obtain ⟨m, e1⟩ := open3 h1
  have e0' : [a] = [i64 n] := e0
  have e1' : [b] = [i64 m] := e1
  cases e0'; cases e1'
  exact ⟨⟨n, m⟩, rfl, trivial⟩
theorem open3a {t : TypeId} {e : TypeInfo} (ht : Try.prog.underlying t = some (.array 3 3)) (hc : Try.prog.cellsOf t = 3) (h : DataW.trod en Try.prog w base sp held fuel t cs = some x) : ∃ s : T3, cs = encT s ∧ True := by
  obtain ⟨a, b, c, rfl⟩ := list3 ((open_lenA ht h).trans hc)
  obtain ⟨_, _, h0⟩ := open_item ht h 0 (by omega) cellsI
  obtain ⟨_, _, h1⟩ := open_item ht h 1 (by omega) cellsI
  obtain ⟨_, _, h2⟩ := open_item ht h 2 (by omega) cellsI
  obtain ⟨n, e0⟩ := open3 h0
  obtain ⟨m, e1⟩ := open3 h1
  obtain ⟨k, e2⟩ := open3 h2
  have e0' : [a] = [i64 n] := e0
  have e1' : [b] = [i64 m] := e1
  have e2' : [c] = [i64 k] := e2
  cases e0'; cases e1'; cases e2'
  exact ⟨⟨n, m, k⟩, rfl, trivial⟩
theorem open73 (h : DataW.trod en Try.prog w base sp held fuel 47 cs = some x) : ∃ s : Foot4.Heap, cs = encH s ∧ True := by
  obtain ⟨a, b, c, rfl⟩ := list3 ((open_len Try.underlying47 h).trans cells73)
  obtain ⟨_, _, h0⟩ := open_field Try.underlying47 h 0 rfl cells31
  obtain ⟨_, _, h1⟩ := open_field Try.underlying47 h 1 rfl cellsI
  obtain ⟨s, e0, _⟩ := open31 h0
  obtain ⟨n, e1⟩ := open3 h1
  have e0' : [a, b] = [i64 s.lo, i64 s.hi] := e0
  have e1' : [c] = [i64 n] := e1
  cases e0'; cases e1'
  exact ⟨⟨s.lo, s.hi, n⟩, rfl, trivial⟩
theorem open26 (h : DataW.trod en Try.prog w base sp held fuel 26 cs = some x) : ∃ F ro rc ho hc, cs = cellsF F ro rc ho hc ∧ rowD ro 2 encS F.rain (full w) ∧ rowD ho 3 encH F.heaps (full w) := by
  obtain ⟨a, b, c, d, e, f, g, i, j, rfl⟩ := list9 ((open_len Try.underlying26 h).trans cells26)
  obtain ⟨_, _, h0⟩ := open_field Try.underlying26 h 0 rfl cells22
  obtain ⟨_, _, h1⟩ := open_field Try.underlying26 h 1 rfl cellsI
  obtain ⟨_, _, h2⟩ := open_field Try.underlying26 h 2 rfl cells23
  obtain ⟨_, _, h3⟩ := open_field Try.underlying26 h 3 rfl cells23
  obtain ⟨_, _, h4⟩ := open_field Try.underlying26 h 4 rfl cells24
  obtain ⟨ro, rc, rain, e0, r0, _, _⟩ := open_rowD (fun _ : Span => True) Try.underlying22 cells31 (by omega) (fun _ _ _ h => open31 h) h0
  obtain ⟨men, e1⟩ := open3 h1
  obtain ⟨lim, e2, _⟩ := open3a (e := Try.t23) Try.underlying23 cells23 h2
  obtain ⟨dr, e3, _⟩ := open3a (e := Try.t23) Try.underlying23 cells23 h3
  obtain ⟨ho, hc, heaps, e4, r4, _, _⟩ := open_rowD (fun _ : Foot4.Heap => True) Try.underlying24 cells73 (by omega) (fun _ _ _ h => open73 h) h4
  have e0' : [a] = [.slice ro rain.length rc] := e0
  have e1' : [b] = [i64 men] := e1
  have e2' : [c, d, e] = [i64 lim.a, i64 lim.b, i64 lim.c] := e2
  have e3' : [f, g, i] = [i64 dr.a, i64 dr.b, i64 dr.c] := e3
  have e4' : [j] = [.slice ho heaps.length hc] := e4
  cases e0'; cases e1'; cases e2'; cases e3'; cases e4'
  exact ⟨⟨rain, men, lim, dr, heaps⟩, ro, rc, ho, hc, rfl, r0, r4⟩
end
section
variable {H : Type} {en : TypeId × Value → H} {w : World} {base b0 : Nat} {r : Reach} {sp : Nat → Bool} {held : Bool} {v : Value} {d : DataW H} {ps : List MemPlace}
theorem agg_of {t : TypeId} {dd : TypeDesc} (hd : Try.prog.underlying t = some dd) (ha : aggD dd = true) (hv : Value.okWide Try.prog w r b0 t v) : ∃ cs : List Value, v = .agg cs.toArray := by
  unfold Value.okWide at hv
  rw [hd] at hv
  cases dd <;> simp [aggD] at ha
  all_goals
    obtain ⟨cs, rfl, _⟩ := hv
    exact ⟨cs.toList, by simp⟩
theorem get26 (hv : Value.okWide Try.prog w r b0 26 v) (h : DataW.Trod en Try.prog w base sp held 26 v d ps) : ∃ F ro rc ho hc, v = valF F ro rc ho hc ∧ rowD ro 2 encS F.rain (full w) ∧ rowD ho 3 encH F.heaps (full w) := by
  obtain ⟨cs, rfl⟩ := agg_of Try.underlying26 rfl hv
  obtain ⟨fuel, h⟩ := h
  obtain ⟨F, ro, rc, ho, hc, e, h1, h2⟩ := open26 (cs := cs) h
  subst e
  exact ⟨F, ro, rc, ho, hc, rfl, h1, h2⟩
end
theorem own0 : ownKnob Try.prog.godebug = none := by kernel_rfl
theorem monoR {W : World} {α : Type} {oa : Option Addr} {sz : Nat} {enc : α → List Value} {xs : List α} {R : List Fact} (h : rowD oa sz enc xs (full W)) (hR : ∀ φ ∈ R, Mono φ ∧ φ (full W)) : ∀ φ ∈ rowD oa sz enc xs :: R, Mono φ ∧ φ (full W) := by
  intro φ hφ
  rcases List.mem_cons.1 hφ with rfl | hφ
  · exact ⟨Mono.row _ _ _ _, h⟩
  · exact hR φ hφ
theorem mono0 {W : World} : ∀ φ ∈ ([] : List Fact), Mono φ ∧ φ (full W) := fun _ h => by cases h
end Go.Proofs.Ytpndeonmmcaikaa.FootW


namespace Go.Proofs.Ytpndeonmmcaikaa.FootW
open Go.G Foot4
theorem int16 {x : Int} (h : (Lit.int .u16 x).wf = true) : 0 ≤ x ∧ x ≤ 65535 := by
  have m1 : IntKind.u16.min = 0 := rfl
  have m2 : IntKind.u16.max = 65535 := rfl
  simp only [Lit.wf, m1, m2, Bool.and_eq_true, decide_eq_true_eq] at h
  exact h
set_option maxRecDepth 1000000
theorem cells49 : Try.prog.cellsOf 65 = 1 := by kernel_rfl
section
variable {H : Type} {en : TypeId × Value → H} {w : World} {base b0 : Nat} {r : Reach} {sp : Nat → Bool} {held : Bool} {v : Value} {d : DataW H} {ps : List MemPlace}
theorem get50 (hv : Value.okWide Try.prog w r b0 28 v) (h : DataW.Trod en Try.prog w base sp held 28 v d ps) : ∃ (ba : Option Addr) (bc : Nat) (bys : List Int), v = .slice ba bys.length bc ∧ rowD ba 1 encU bys (full w) ∧ U16s bys ∧ bys.length ≤ 9223372036854775807 := by
  obtain ⟨fuel, h⟩ := h
  obtain ⟨lo, lc, l, e, h1, h2, h3⟩ := open_rowD (enc := encU) (fun x : Int => 0 ≤ x ∧ x ≤ 65535) Try.underlying28 cells49 (by omega) (fun _ _ _ h => by
    obtain ⟨n, h1, h2⟩ := open_i Try.underlying65 h
    exact ⟨n, h1, int16 h2⟩) h
  refine ⟨lo, lc, l, ?_, h1, h2, h3⟩
  cases v <;> simp_all [Value.cells]
  unfold Value.okWide at hv
  rw [Try.underlying28] at hv
  simp [Cell.okWide, Cell.ok, Try.underlying28] at hv
end
end Go.Proofs.Ytpndeonmmcaikaa.FootW


namespace Go.Proofs.Ytpndeonmmcaikaa.SodW
open Go.G Foot4 Sod2
set_option maxRecDepth 1000000
attribute [local irreducible] G.ParO G.Fin
section
variable {H : Type} {en : TypeId × Value → H} {w : World} {base : Nat} {sp : Nat → Bool} {held : Bool} {fuel : Nat} {cs : List Value} {x : DataW H × List MemPlace}
theorem cSl : Try.prog.cellsOf 34 = 1 := by kernel_rfl
theorem cDl : Try.prog.cellsOf 22 = 1 := by kernel_rfl
theorem cLl : Try.prog.cellsOf 35 = 1 := by kernel_rfl
theorem cS : Try.prog.cellsOf 42 = 2 := by kernel_rfl
theorem cI : Try.prog.cellsOf 3 = 1 := by kernel_rfl
theorem cSpit : Try.prog.cellsOf 67 = 3 := by kernel_rfl
theorem cLog : Try.prog.cellsOf 70 = 3 := by kernel_rfl
theorem cSod : Try.prog.cellsOf 37 = 3 := by kernel_rfl
theorem openSpit (h : DataW.trod en Try.prog w base sp held fuel 67 cs = some x) : ∃ s : Spit, cs = encSp s ∧ True := by
  obtain ⟨a, b, c, rfl⟩ := FootW.list3 ((open_len Try.underlying67 h).trans cSpit)
  obtain ⟨_, _, h0⟩ := open_field Try.underlying67 h 0 rfl cI
  obtain ⟨_, _, h1⟩ := open_field Try.underlying67 h 1 rfl cS
  obtain ⟨n, e1⟩ := FootW.open3 h0
  obtain ⟨s, e0, _⟩ := FootW.open31 h1
  have e0' : [b, c] = [i64 s.lo, i64 s.hi] := e0
  have e1' : [a] = [i64 n] := e1
  cases e0'; cases e1'
  exact ⟨⟨n, s.lo, s.hi⟩, rfl, trivial⟩
theorem openLog (h : DataW.trod en Try.prog w base sp held fuel 70 cs = some x) : ∃ s : LogS, cs = encLg s ∧ True := by
  obtain ⟨a, b, c, rfl⟩ := FootW.list3 ((open_len Try.underlying70 h).trans cLog)
  obtain ⟨_, _, h0⟩ := open_field Try.underlying70 h 0 rfl cI
  obtain ⟨_, _, h1⟩ := open_field Try.underlying70 h 1 rfl cS
  obtain ⟨n, e1⟩ := FootW.open3 h0
  obtain ⟨s, e0, _⟩ := FootW.open31 h1
  have e0' : [b, c] = [i64 s.lo, i64 s.hi] := e0
  have e1' : [a] = [i64 n] := e1
  cases e0'; cases e1'
  exact ⟨⟨n, s.lo, s.hi⟩, rfl, trivial⟩
def rowsOf (w : World) (x : BankA) : Prop := rowD x.po 3 encSp x.B.spits (full w) ∧ rowD x.so 2 encS x.B.days (full w) ∧ rowD x.lo 3 encLg x.B.logs (full w)
theorem openSod (h : DataW.trod en Try.prog w base sp held fuel 37 cs = some x) : ∃ s : BankA, cs = encA s ∧ rowsOf w s := by
  obtain ⟨a, b, c, rfl⟩ := FootW.list3 ((open_len Try.underlying37 h).trans cSod)
  obtain ⟨_, _, h0⟩ := open_field Try.underlying37 h 0 rfl cSl
  obtain ⟨_, _, h1⟩ := open_field Try.underlying37 h 1 rfl cDl
  obtain ⟨_, _, h2⟩ := open_field Try.underlying37 h 2 rfl cLl
  obtain ⟨po, pc, sp, e0, r0, _, _⟩ := open_rowD (fun _ : Spit => True) Try.underlying34 cSpit (by omega) (fun _ _ _ h => openSpit h) h0
  obtain ⟨so, sc, dy, e1, r1, _, _⟩ := open_rowD (fun _ : Span => True) Try.underlying22 cS (by omega) (fun _ _ _ h => FootW.open31 h) h1
  obtain ⟨lo, lc, lg, e2, r2, _, _⟩ := open_rowD (fun _ : LogS => True) Try.underlying35 cLog (by omega) (fun _ _ _ h => openLog h) h2
  have e0' : [a] = [.slice po sp.length pc] := e0
  have e1' : [b] = [.slice so dy.length sc] := e1
  have e2' : [c] = [.slice lo lg.length lc] := e2
  cases e0'; cases e1'; cases e2'
  exact ⟨⟨⟨sp, dy, lg⟩, po, so, lo, pc, sc, lc⟩, rfl, r0, r1, r2⟩
end
section
variable {H : Type} {en : TypeId × Value → H} {w : World} {base b0 : Nat} {r : Reach} {sp : Nat → Bool} {held : Bool} {v : Value} {d : DataW H} {ps : List MemPlace}
theorem getSods (hv : Value.okWide Try.prog w r b0 27 v) (h : DataW.Trod en Try.prog w base sp held 27 v d ps) : ∃ (ka : Option Addr) (kc : Nat) (bl : List BankA), v = .slice ka bl.length kc ∧ rowD ka 3 encA bl (full w) ∧ rowsA bl (full w) ∧ bl.length ≤ 9223372036854775807 := by
  obtain ⟨fuel, h⟩ := h
  obtain ⟨lo, lc, l, e, h1, h2, h3⟩ := open_rowD (enc := encA) (rowsOf w) Try.underlying27 cSod (by omega) (fun _ _ _ h => openSod h) h
  refine ⟨lo, lc, l, ?_, h1, fun x hx => h2 x hx, h3⟩
  cases v <;> simp_all [Value.cells]
  unfold Value.okWide at hv
  rw [Try.underlying27] at hv
  simp [Cell.okWide, Cell.ok, Try.underlying27] at hv
end
theorem mono_rowsA {l : List BankA} : Mono (rowsA l) := fun V V' h hl x hx => ⟨Mono.row _ _ _ _ V V' (h x hx).1 hl, Mono.row _ _ _ _ V V' (h x hx).2.1 hl, Mono.row _ _ _ _ V V' (h x hx).2.2 hl⟩
theorem monoA {W : World} {l : List BankA} {R : List Fact} (h : rowsA l (full W)) (hR : ∀ φ ∈ R, Mono φ ∧ φ (full W)) : ∀ φ ∈ rowsA l :: R, Mono φ ∧ φ (full W) := by
  intro φ hφ
  rcases List.mem_cons.1 hφ with rfl | hφ
  · exact ⟨mono_rowsA, h⟩
  · exact hR φ hφ
end Go.Proofs.Ytpndeonmmcaikaa.SodW

