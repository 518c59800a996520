/- Part 4 of 4 of what the proofs of this seat stand on: a small logic for walks, what the functions come to, and the walks themselves. No condition of its own. -/
import Derived.Test.YtienjlmnakbfmaaX3
import Derived.Test.YtienjlmnakbfmaaX1
import Derived.Deep.Slices
import Derived.ProofKit
import Derived.OpenShut
import Derived.Test.YtienjlmnakbfmaaRows
set_option linter.unusedVariables false
set_option linter.unusedSimpArgs false
namespace Foot4
open Go Go.G
def okB (F : Work) (men : Int) (b : List T3) (p : T3) : Bool := decide (ruleR F (b ++ [p]) men b.length 0 = 0 ∧ ruleR F (b ++ [p]) men b.length 1 = 0 ∧ ruleR F (b ++ [p]) men b.length 2 = 0)
def choices (F : Work) (h : Nat) : List T3 := noneT :: sureR F h
/-- All right plans that go on from some, r heaps being left. -/
def plansL (F : Work) (men : Int) : Nat → List T3 → List (List T3)
  | 0, b => [b]
  | r + 1, b => (choices F b.length).flatMap fun p => if okB F men b p then plansL F men r (b ++ [p]) else []
def plansT (F : Work) (men : Int) (r : Nat) (b : List T3) (i : Nat) : List (List T3) := ((choices F b.length).take i).flatMap fun p => if okB F men b p then plansL F men r (b ++ [p]) else []
section
variable {F : Work} {men : Int} {r : Nat} {b : List T3} {i : Nat} {p : T3}
theorem plansT_0 : plansT F men r b 0 = [] := rfl
theorem plansT_yes (hi : i < (choices F b.length).length) (hp : (choices F b.length).getD i default = p) (h0 : ruleR F (b ++ [p]) men b.length 0 = 0) (h1 : ruleR F (b ++ [p]) men b.length 1 = 0) (h2 : ruleR F (b ++ [p]) men b.length 2 = 0) : plansT F men r b i ++ plansL F men r (b ++ [p]) = plansT F men r b (i + 1) := by
  unfold plansT
  rw [take_getD hi, hp, List.flatMap_append]
  have : okB F men b p = true := decide_eq_true ⟨h0, h1, h2⟩
  simp [this]
theorem plansT_no (hi : i < (choices F b.length).length) (hp : (choices F b.length).getD i default = p) (h : ¬ (ruleR F (b ++ [p]) men b.length 0 = 0 ∧ ruleR F (b ++ [p]) men b.length 1 = 0 ∧ ruleR F (b ++ [p]) men b.length 2 = 0)) : plansT F men r b i = plansT F men r b (i + 1) := by
  unfold plansT
  rw [take_getD hi, hp, List.flatMap_append]
  have : okB F men b p = false := decide_eq_false h
  simp [this]
theorem plansT_all : plansT F men r b (choices F b.length).length = plansL F men (r + 1) b := by
  unfold plansT
  rw [List.take_length]; rfl
end
theorem plansL_len {F : Work} {men : Int} : ∀ {r : Nat} {b q : List T3}, q ∈ plansL F men r b → q.length = b.length + r
  | 0, b, q, h => by
    have : q = b := by simpa [plansL] using h
    subst this; rfl
  | r + 1, b, q, h => by
    obtain ⟨p, _, hq⟩ := List.mem_flatMap.1 h
    by_cases hk : okB F men b p = true
    · rw [if_pos hk] at hq
      rw [plansL_len hq, List.length_append, List.length_singleton]; omega
    · rw [if_neg hk] at hq; simp at hq
abbrev wN (F : Work) : Nat := (whole F.rain.length).length
theorem choices_len (F : Work) (h : Nat) : (choices F h).length ≤ 1 + wN F := by
  have : (sureR F h).length ≤ wN F := List.length_filter_le _ _
  simp only [choices, List.length_cons]
  omega
mutual
theorem plansL_count {F : Work} {men : Int} : ∀ (r : Nat) (b : List T3), (plansL F men r b).length ≤ (1 + wN F) ^ r
  | 0, b => by simp [plansL]
  | r + 1, b => by
    have h1 := flatMap_len (fun p => if okB F men b p then plansL F men r (b ++ [p]) else []) ((1 + wN F) ^ r) (choices F b.length) (fun p _ => by
      split
      · exact plansL_count r (b ++ [p])
      · simp)
    have h2 := Nat.mul_le_mul_right ((1 + wN F) ^ r) (choices_len F b.length)
    rw [Nat.pow_succ, Nat.mul_comm ((1 + wN F) ^ r)]
    exact Nat.le_trans h1 h2
end
theorem plansT_room {F : Work} {men : Int} {r : Nat} {b : List T3} {i : Nat} (hi : i < (choices F b.length).length) : (plansT F men r b i).length + (1 + wN F) ^ r ≤ (1 + wN F) ^ (r + 1) := by
  have h1 := flatMap_len (fun p => if okB F men b p then plansL F men r (b ++ [p]) else []) ((1 + wN F) ^ r) ((choices F b.length).take i) (fun p _ => by
    split
    · exact plansL_count r (b ++ [p])
    · simp)
  rw [List.length_take, Nat.min_eq_left (by omega)] at h1
  have h2 := choices_len F b.length
  have h3 : (i + 1) * (1 + wN F) ^ r ≤ (1 + wN F) * (1 + wN F) ^ r := Nat.mul_le_mul_right _ (by omega)
  rw [Nat.add_mul, Nat.one_mul] at h3
  rw [Nat.pow_succ, Nat.mul_comm ((1 + wN F) ^ r)]
  unfold plansT
  omega
theorem choices_plan {F : Work} {h i : Nat} (hn : 1 ≤ F.rain.length) (hi : i < (choices F h).length) : IsPlan F.rain.length ((choices F h).getD i default) := by
  have hm : (choices F h).getD i default ∈ choices F h := by simp [List.getD_eq_getElem?_getD, hi]
  rcases List.mem_cons.1 hm with e | e
  · rw [e]; exact none_plan _ hn
  · exact whole_plan (List.mem_filter.1 e).1
/-! ### right plans, in order -/
def allR (F : Work) (men : Int) : Nat → List Int → List (List T3)
  | 0, _ => [[]]
  | r + 1, B => (noneT :: (sureF selW F (F.heaps.length - (r + 1))).filter (freeB men B)).flatMap fun p => (allR F men r (with_ B p)).map (p :: ·)
theorem bef_app {b c : List T3} {d : Int} : ∀ k, k ≤ b.length → befH (b ++ c) d k = befH b d k
  | 0, _ => rfl
  | k + 1, hk => by
    have e : (b ++ c).getD k default = b.getD k default := by
      simp only [List.getD_eq_getElem?_getD]; rw [List.getElem?_append_left (by omega)]
    simp only [befH, e, bef_app (b := b) (c := c) (d := d) k (by omega)]
theorem busyTo_app {b c : List T3} : ∀ k, k ≤ b.length → busyTo (b ++ c) k = busyTo b k
  | 0, _ => rfl
  | k + 1, hk => by
    have e : (b ++ c).getD k default = b.getD k default := by
      simp only [List.getD_eq_getElem?_getD]; rw [List.getElem?_append_left (by omega)]
    simp only [busyTo, e, busyTo_app (b := b) (c := c) k (by omega)]
theorem last_at {b : List T3} {p : T3} : (b ++ [p]).getD b.length default = p := by simp [List.getD_eq_getElem?_getD]
theorem ok_none {F : Work} {men : Int} {b : List T3} : okB F men b noneT = true := by
  refine decide_eq_true ⟨?_, ?_, ?_⟩ <;> exact ruleR_n last_at (by decide)
theorem ok_sure {F : Work} (hg : GoodF F) {men : Int} {b : List T3} {p : T3} (hb : ∀ k, k < b.length → IsPlan F.rain.length (b.getD k default)) (hp : p ∈ sureF selW F b.length) : okB F men b p = freeB men (busyTo b b.length) p := by
  have h1 := List.mem_filter.1 hp
  have hpl := whole_plan' h1.1
  have hk : keptF selW F b.length p := of_decide_eq_true h1.2
  have hn : F.rain.length ≤ 8 := by have := hg.1; omega
  have hord : ∀ i, i < 3 → Ordered p i := fun i hi => by
    obtain rfl | rfl | rfl : i = 0 ∨ i = 1 ∨ i = 2 := by omega
    · exact hpl.1.2.1
    · exact hpl.1.2.2.1
    · exact hpl.1.2.2.2
  have hcan : ∀ i, i < 3 → canF selW F b.length p i := fun i hi => by
    obtain rfl | rfl | rfl : i = 0 ∨ i = 1 ∨ i = 2 := by omega
    · exact hk.1
    · exact hk.2.1
    · exact hk.2.2
  have hpos : ∀ i, i < 3 → 0 ≤ p.at i := fun i hi => by
    obtain rfl | rfl | rfl : i = 0 ∨ i = 1 ∨ i = 2 := by omega
    · exact hpl.2.1
    · exact hpl.2.2.1
    · exact hpl.2.2.2
  have key : ∀ i, i < 3 → (ruleR F (b ++ [p]) men b.length i = 0 ↔ (busyTo b b.length).getD (p.at i).toNat 0 < men) := fun i hi => by
    have h0 := hpos i hi
    have h7 := plan_at7 hn hpl.1 hi
    have hok : okStep F worstTo b.length (upToP p i) i := by
      have := hcan i hi
      unfold canF at this
      unfold okStep
      rw [upTo_at hi i hi, if_pos (Nat.le_refl i)]
      rwa [pre_wet hi h0 (fun j hj => hord j (by omega))] at this
    have hbb := busy_at (l := b) (d := p.at i) ⟨h0, h7⟩ b.length (fun j hj k hk => plan_at7 hn (hb j hj) hk)
    rw [hbb]
    by_cases h3 : men ≤ befH (b ++ [p]) (p.at i) b.length
    · rw [ruleR_3 last_at (by omega) (hord i hi) hok h3]
      rw [bef_app _ (Nat.le_refl _)] at h3
      exact ⟨fun x => absurd x (by decide), fun x => by omega⟩
    · rw [ruleR_0 last_at (by omega) (hord i hi) hok h3]
      rw [bef_app _ (Nat.le_refl _)] at h3
      exact ⟨fun _ => by omega, fun _ => rfl⟩
  refine Bool.eq_iff_iff.2 ?_
  rw [free_iff (show wholeB' p from hpl.2)]
  unfold okB
  rw [decide_eq_true_eq, key 0 (by omega), key 1 (by omega), key 2 (by omega)]
  constructor
  · rintro ⟨a0, a1, a2⟩ j hj _
    obtain rfl | rfl | rfl : j = 0 ∨ j = 1 ∨ j = 2 := by omega
    · exact a0
    · exact a1
    · exact a2
  · intro h
    exact ⟨h 0 (by omega) (hpos 0 (by omega)), h 1 (by omega) (hpos 1 (by omega)), h 2 (by omega) (hpos 2 (by omega))⟩
theorem flatMap_if {α β : Type} (q : α → Bool) (f : α → List β) : ∀ l : List α, (l.flatMap fun p => if q p then f p else []) = (l.filter q).flatMap f
  | [] => rfl
  | x :: r => by
    rw [List.flatMap_cons, flatMap_if q f r, List.filter_cons]
    cases hx : q x <;> simp
theorem flatMap_same' {α β : Type} {f g : α → List β} : ∀ {l : List α}, (∀ x ∈ l, f x = g x) → l.flatMap f = l.flatMap g
  | [], _ => rfl
  | x :: r, h => by rw [List.flatMap_cons, List.flatMap_cons, h x (by simp), flatMap_same' (fun y hy => h y (by simp [hy]))]
theorem plansL_eq {F : Work} (hg : GoodF F) {men : Int} : ∀ (r : Nat) (b : List T3), b.length + r = F.heaps.length → (∀ k, k < b.length → IsPlan F.rain.length (b.getD k default)) → plansL F men r b = (allR F men r (busyTo b b.length)).map (b ++ ·)
  | 0, b, _, _ => by simp [plansL, allR]
  | r + 1, b, hr, hb => by
    have hh : F.heaps.length - (r + 1) = b.length := by omega
    have h1 : 1 ≤ F.rain.length := by have := hg.1; omega
    have step : ∀ p, IsPlan F.rain.length p → plansL F men r (b ++ [p]) = ((allR F men r (with_ (busyTo b b.length) p)).map (p :: ·)).map (b ++ ·) := fun p hp => by
      rw [plansL_eq hg r (b ++ [p]) (by rw [List.length_append, List.length_singleton]; omega) (fun k hk => by
        rw [List.length_append, List.length_singleton] at hk
        by_cases e : k = b.length
        · subst e; rw [last_at]; exact hp
        · have e2 : (b ++ [p]).getD k default = b.getD k default := by
            simp only [List.getD_eq_getElem?_getD]; rw [List.getElem?_append_left (by omega)]
          rw [e2]; exact hb k (by omega))]
      rw [List.map_map, List.length_append, List.length_singleton]
      have e : busyTo (b ++ [p]) (b.length + 1) = with_ (busyTo b b.length) p := by
        simp only [busyTo, busyTo_app b.length (Nat.le_refl _), last_at]
      rw [e]
      refine List.map_congr_left fun q _ => ?_
      simp
    show (noneT :: sureR F b.length).flatMap _ = _
    rw [← sure_eq, List.flatMap_cons, if_pos ok_none, flatMap_if, step noneT (none_plan _ h1)]
    simp only [allR]
    rw [hh, List.flatMap_cons, List.map_append, List.map_flatMap]
    congr 1
    have e3 : (sureF selW F b.length).filter (okB F men b) = (sureF selW F b.length).filter (freeB men (busyTo b b.length)) := List.filter_congr fun p hp => ok_sure hg hb hp
    rw [e3]
    refine flatMap_same' fun p hp => ?_
    exact step p (whole_plan' (List.mem_filter.1 (List.mem_filter.1 hp).1).1).1
theorem allR_right {F : Work} (hg : GoodF F) {men : Int} : ∀ {r : Nat} {B : List Int} {Q : List T3}, Q ∈ allR F men r B → Right F men r B Q
  | 0, _, Q, h => by
    show Q = []
    simpa [allR] using h
  | r + 1, B, Q, h => by
    obtain ⟨p, hp, hq⟩ := List.mem_flatMap.1 h
    obtain ⟨Q', hQ', rfl⟩ := List.mem_map.1 hq
    have h1 : 1 ≤ F.rain.length := by have := hg.1; omega
    rcases List.mem_cons.1 hp with e | e
    · subst e
      exact ⟨_, _, rfl, none_plan _ h1, none_kept _ _, fun j hj h0 => by
        obtain rfl | rfl | rfl : j = 0 ∨ j = 1 ∨ j = 2 := by omega
        all_goals (have h0 : (0 : Int) ≤ -1 := h0; omega), allR_right hg hQ'⟩
    · have hf := List.mem_filter.1 e
      have hs := List.mem_filter.1 hf.1
      have hpl := whole_plan' hs.1
      exact ⟨_, _, rfl, hpl.1, of_decide_eq_true hs.2, (free_iff (show wholeB' p from hpl.2)).1 hf.2, allR_right hg hQ'⟩
theorem bl_in {F : Work} {men : Int} : ∀ (r : Nat) (B : List Int), bl F men r B ∈ allR F men r B
  | 0, _ => by simp [bl, allR]
  | r + 1, B => by
    have hm := wayL_mem (l := wsF F men r B) (by simp [wsF, waysW])
    have hb : bestW F men (r + 1) B = wayL (wsF F men r B) := rfl
    rw [← hb] at hm
    refine List.mem_flatMap.2 ⟨(bestW F men (r + 1) B).plan, ?_, List.mem_map.2 ⟨_, bl_in r _, rfl⟩⟩
    rcases ws_mem hm with e | ⟨p, e, hp, hf⟩
    · rw [e]; exact List.mem_cons_self ..
    · rw [e]; exact List.mem_cons_of_mem _ (List.mem_filter.2 ⟨hp, hf⟩)
def lexLt : List T3 → List T3 → Prop
  | a :: l, b :: q => lex a b ∨ a = b ∧ lexLt l q
  | _, _ => False
theorem lex_irr {a : T3} : ¬ lex a a := by unfold lex; omega
theorem lex_asym {a b : T3} (h : lex a b) : ¬ lex b a := by unfold lex at *; omega
theorem lexLt_not : ∀ {x y : List T3}, lexLt x y → lexL y x → False
  | [], _, h, _ => h
  | _ :: _, [], h, _ => h
  | a :: l, b :: q, h, k => by
    rcases h with h | ⟨rfl, h⟩
    · rcases k with k | ⟨rfl, _⟩
      · exact lex_asym h k
      · exact lex_irr h
    · rcases k with k | ⟨_, k⟩
      · exact lex_irr k
      · exact lexLt_not h k
theorem allR_sorted {F : Work} {men : Int} : ∀ (r : Nat) (B : List Int), (allR F men r B).Pairwise lexLt
  | 0, _ => by simp [allR]
  | r + 1, B => by
    show List.Pairwise lexLt (List.flatMap _ _)
    rw [List.pairwise_flatMap]
    refine ⟨fun p _ => ?_, ?_⟩
    · rw [List.pairwise_map]
      exact (allR_sorted r _).imp fun h => .inr ⟨rfl, h⟩
    · have hs : (noneT :: (sureF selW F (F.heaps.length - (r + 1))).filter (freeB men B)).Pairwise lex := by
        rw [List.pairwise_cons]
        refine ⟨fun p hp => ?_, ((whole_sorted _).filter _).filter _⟩
        have hpl := whole_plan' (List.mem_filter.1 (List.mem_filter.1 hp).1).1
        exact none_lt hpl.1 (fun e => by subst e; exact absurd hpl.2.1 (by decide))
      refine hs.imp fun h x hx y hy => ?_
      obtain ⟨x', _, rfl⟩ := List.mem_map.1 hx
      obtain ⟨y', _, rfl⟩ := List.mem_map.1 hy
      exact .inl h
/-! ### the first of the best -/
def moreS (F : Work) (x y : List T3) : Bool := decide (sodsR F y < sodsR F x)
theorem moreS_no {F : Work} {x y : List T3} (h : ¬ sodsR F y < sodsR F x) : ¬ moreS F x y = true := fun e => h (of_decide_eq_true e)
def firstL (F : Work) (men : Int) : List T3 := best2 (moreS F) default (plansL F men F.heaps.length []) (plansL F men F.heaps.length []).length
theorem firstL_eq {F : Work} (hg : GoodF F) (men : Int) : firstL F men = bl F men F.heaps.length zeros := by
  have e : plansL F men F.heaps.length [] = allR F men F.heaps.length zeros := by
    rw [plansL_eq hg F.heaps.length [] (by simp) (fun k hk => absurd hk (by simp))]
    show (allR F men F.heaps.length zeros).map (fun x => [] ++ x) = _
    simp
  unfold firstL
  rw [e]
  have hmem := bl_in (F := F) (men := men) F.heaps.length zeros
  have hpos : 0 < (allR F men F.heaps.length zeros).length := List.length_pos_of_mem hmem
  obtain ⟨m, hm⟩ : ∃ m, (allR F men F.heaps.length zeros).length = m + 1 := ⟨_, (Nat.succ_pred_eq_of_pos hpos).symm⟩
  have hb2 : best2 (moreS F) default (allR F men F.heaps.length zeros) (allR F men F.heaps.length zeros).length = best1 (moreS F) default (allR F men F.heaps.length zeros) (allR F men F.heaps.length zeros).length := by
    rw [hm]; exact best2_eq (fun x => by unfold moreS; exact decide_eq_false (Int.lt_irrefl _)) m
  rw [hb2]
  obtain ⟨i, hi, he, ha, hb⟩ := bestG (bt := moreS F) (z := default) (key := sodsR F) (fun _ _ => rfl) (l := allR F men F.heaps.length zeros) _ hpos (Nat.le_refl _)
  rw [← he] at ha hb ⊢
  obtain ⟨j, hj⟩ := List.mem_iff_getElem?.1 hmem
  have hjl := (List.getElem?_eq_some_iff.1 hj).1
  have hget : ∀ k, k < (allR F men F.heaps.length zeros).length → (allR F men F.heaps.length zeros)[k]? = some ((allR F men F.heaps.length zeros).getD k default) := fun k hk => by simp [hk]
  have hje := Option.some.inj ((hget j hjl).symm.trans hj)
  have hi_mem : (allR F men F.heaps.length zeros).getD i default ∈ allR F men F.heaps.length zeros := List.mem_of_getElem? (hget i hi)
  have hR := allR_right hg hi_mem
  have hopt := best_opt hg (men := men) F.heaps.length zeros _ rfl hR
  have hblr := bl_right hg (men := men) F.heaps.length zeros
  rw [total_sods hR.len] at hopt
  have htb := hblr.2
  rw [total_sods hblr.1.len] at htb
  have h1 := ha j hjl
  rw [hje, htb] at h1
  have heq : sodsR F ((allR F men F.heaps.length zeros).getD i default) = (bestW F men F.heaps.length zeros).sods := by omega
  have hij : ¬ j < i := fun h => by
    have := hb j h
    rw [hje, htb] at this
    omega
  by_cases hij2 : i = j
  · subst hij2; exact hje
  · exfalso
    have hso := allR_sorted (F := F) (men := men) F.heaps.length zeros
    obtain ⟨l1, g1⟩ := List.getElem?_eq_some_iff.1 (hget i hi)
    obtain ⟨l2, g2⟩ := List.getElem?_eq_some_iff.1 hj
    have := List.pairwise_iff_getElem.1 hso i j l1 l2 (by omega)
    rw [g1, g2] at this
    exact lexLt_not this (hopt.2 heq)
theorem firstL_st {F : Work} (hg : GoodF F) (men : Int) : firstL F men = (stW F men F.heaps.length).2 := by rw [firstL_eq hg, stW_all]
theorem firstL_sods {F : Work} (hg : GoodF F) (men : Int) : sodsR F (firstL F men) = bestS F men := by
  have h := bl_right hg (men := men) F.heaps.length zeros
  rw [firstL_eq hg, ← total_sods h.1.len]
  exact h.2
theorem firstL_len {F : Work} (hg : GoodF F) (men : Int) : (firstL F men).length = F.heaps.length := by rw [firstL_st hg]; exact (stW_len F men _).2
end Foot4


namespace Foot4
open Go Go.G
def RowsL (xs : List Inner) (LL : List (List T3)) : Prop := xs.length = LL.length ∧ ∀ h, h < xs.length → (xs.getD h default).2.1 = (LL.getD h default).length
def rowsF (xs : List Inner) (LL : List (List T3)) : Fact := fun V => ∀ h, h < xs.length → rowD (xs.getD h default).1 3 encT (LL.getD h default) V
theorem RowsL_nil : RowsL [] [] := ⟨rfl, fun _ h => absurd h (by simp)⟩
theorem rowsF_nil {V : View} : rowsF [] [] V := fun _ h => absurd h (by simp)
theorem getD_l {α : Type} [Inhabited α] {l m : List α} {k : Nat} (h : k < l.length) : (l ++ m).getD k default = l.getD k default := by
  simp only [List.getD_eq_getElem?_getD]; rw [List.getElem?_append_left h]
theorem getD_e {α : Type} [Inhabited α] {l : List α} {x : α} {k : Nat} (h : k = l.length) : (l ++ [x]).getD k default = x := by
  subst h; simp [List.getD_eq_getElem?_getD]
theorem RowsL_add {xs : List Inner} {LL : List (List T3)} {x : Inner} {l : List T3} (h : RowsL xs LL) (hx : x.2.1 = l.length) : RowsL (xs ++ [x]) (LL ++ [l]) := by
  refine ⟨by simp [h.1], fun k hk => ?_⟩
  rw [List.length_append, List.length_singleton] at hk
  by_cases e : k = xs.length
  · rw [getD_e e, getD_e (by rw [e, h.1])]; exact hx
  · rw [getD_l (by omega), getD_l (by rw [← h.1]; omega)]; exact h.2 k (by omega)
theorem rowsF_add {xs : List Inner} {LL : List (List T3)} {x : Inner} {l : List T3} {V : View} (hl : RowsL xs LL) (h : rowsF xs LL V) (hx : rowD x.1 3 encT l V) : rowsF (xs ++ [x]) (LL ++ [l]) V := by
  intro k hk
  rw [List.length_append, List.length_singleton] at hk
  by_cases e : k = xs.length
  · rw [getD_e e, getD_e (by rw [e, hl.1])]; exact hx
  · rw [getD_l (by omega), getD_l (by rw [← hl.1]; omega)]; exact h k (by omega)
theorem plan_all {F : Work} {b : List T3} {p : T3} (hb : ∀ k, k < b.length → IsPlan F.rain.length (b.getD k default)) (hp : IsPlan F.rain.length p) : ∀ k, k < (b ++ [p]).length → IsPlan F.rain.length ((b ++ [p]).getD k default) := fun k hk => by
  rw [List.length_append, List.length_singleton] at hk
  by_cases e : k = b.length
  · rw [getD_e e]; exact hp
  · rw [getD_l (by omega)]; exact hb k (by omega)
theorem plansL_pos {F : Work} {men : Int} : ∀ (r : Nat) (b : List T3), 0 < (plansL F men r b).length
  | 0, b => by simp [plansL]
  | r + 1, b => by
    show 0 < (List.flatMap _ (noneT :: _)).length
    rw [List.flatMap_cons, if_pos ok_none, List.length_append]
    have := plansL_pos (F := F) (men := men) r (b ++ [noneT])
    omega
theorem plansL_at {F : Work} {men : Int} {r k : Nat} {b : List T3} (h : k < (plansL F men r b).length) : ((plansL F men r b).getD k default).length = b.length + r := by
  have : (plansL F men r b).getD k default ∈ plansL F men r b := by simp [List.getD_eq_getElem?_getD, h]
  exact plansL_len this
theorem best2_in {α : Type} {bt : α → α → Bool} {z : α} {xs : List α} (hp : 0 < xs.length) : ∀ k, k ≤ xs.length → best2 bt z xs k ∈ xs
  | 0, _ => by
    show xs.getD 0 z ∈ xs
    simp [List.getD_eq_getElem?_getD, hp]
  | k + 1, hk => by
    simp only [best2]
    split
    · have : k < xs.length := by omega
      simp [List.getD_eq_getElem?_getD, this]
    · exact best2_in hp k (by omega)
/-- All lists of plans of valid work that is not heavy. -/
theorem whole_few {n : Nat} (hn : n ≤ 8) : (whole n).length ≤ 56 ∧ (n ≤ 7 → (whole n).length ≤ 35) ∧ (n ≤ 6 → (whole n).length ≤ 20) := by
  have : n = 0 ∨ n = 1 ∨ n = 2 ∨ n = 3 ∨ n = 4 ∨ n = 5 ∨ n = 6 ∨ n = 7 ∨ n = 8 := by omega
  rcases this with e | e | e | e | e | e | e | e | e <;> subst e <;> decide +kernel
theorem room_all {F : Work} (hg : GoodF F) (hh : (F.rain.length : Int) ≤ 9 - F.heaps.length) : (1 + wN F) ^ F.heaps.length ≤ 10000 := by
  have h3 := hg.2.2.1
  have h8 := hg.1
  have hw := whole_few (n := F.rain.length) (by omega)
  have hc : F.heaps.length = 0 ∨ F.heaps.length = 1 ∨ F.heaps.length = 2 ∨ F.heaps.length = 3 := by omega
  have hp : ∀ a b k : Nat, a ≤ b → a ^ k ≤ b ^ k := fun a b k h => Nat.pow_le_pow_left h k
  rcases hc with e | e | e | e <;> rw [e] at hh ⊢
  · simp
  · exact Nat.le_trans (hp (1 + wN F) 57 1 (by unfold wN; omega)) (by decide)
  · exact Nat.le_trans (hp (1 + wN F) 36 2 (by have := hw.2.1 (by omega); unfold wN; omega)) (by decide)
  · exact Nat.le_trans (hp (1 + wN F) 21 3 (by have := hw.2.2 (by omega); unfold wN; omega)) (by decide)
end Foot4


namespace Go.Proofs.Ytienjlmnakbfmaa
open Go.G Foot4
set_option maxRecDepth 1000000
attribute [local irreducible] G.ParO G.Fin
theorem FnS.intro1 {P : Program} {n : Nat} {r : Res} {k : FuncId} {args : List Value} {R0 : List Fact} {Post : Ending → List Res → List Fact → Prop} {fn : Func} {c : Code} (he : ∀ (ag : Array Value) (w : World), (callFunc k ag).run P w = .ok (.enter k ag) w)
    (hf : P.funcs[k]? = some fn) (hb : fn.body = some c) (hn : fn.ntmps = n) (ha : Nat.ble args.length n = true)
    (h : ∀ W Mf Rf, Imp W n [] (argsL args 0) (r :: Mf) (R0 ++ Rf) (c.wp P (bodyPost P fn (RetE W Mf (R0 ++ Rf) Post)))) : FnS P k args [r] R0 Post := FnS.intro he hf hb hn ha h
theorem o_fnX {α : Type} {W : World} {n : Nat} {D : List Deferred} {L : Tm} {M M1 : List Res} {R : List Fact} {Q : Exit → Act → World → Prop} {o : Oper} {ops : Array Oper} {rest : List Oper} {k : FuncId} {args : List Value} {R0 : List Fact} {r : Res} {g : α → Value} {Pp : α → Prop} {Mr : α → Res} {Rr : α → List Fact} {xs : List Operand} {ts : Array TypeId} {d : Nat} [hM : DelC M r M1]
    (h : FnS Try.prog k args [r] R0 (fun e M' R' => ∃ x, e = .returned (g x) ∧ Pp x ∧ M' = [Mr x] ∧ R' = Rr x)) (ho : o.op = .call { callee := .value (.func k), args := xs.toArray, argTypes := ts })
    (hx : evs L xs = some args) (hg : o.guard = none) (hdst : o.dst = some d) (hd : Nat.blt d n = true) (hs : SubR R R0)
    (hret : ∀ x, Pp x → Imp W n D ((d, g x) :: L) (Mr x :: M1) (Rr x ++ R) (wpList Try.prog ops Q rest)) : Imp W n D L M R (wpList Try.prog ops Q (o :: rest)) := by
  refine o_call h ho [] [] rfl hx (by simp) hg (by simp [okD, hdst, hd]) (Mf := M1) ⟨[], by simpa using hM.del.perm⟩ hs ?_ ?_ ?_
  · rintro v M' R' ⟨x, he, hp, rfl, rfl⟩
    cases he
    rw [hdst]
    exact hret x hp
  · rintro c M' R' ⟨x, he, _⟩; cases he
  · rintro M' R' ⟨x, he, _⟩; cases he
theorem o_fnF {α : Type} {W : World} {n : Nat} {D : List Deferred} {L : Tm} {M : List Res} {R : List Fact} {Q : Exit → Act → World → Prop} {o : Oper} {ops : Array Oper} {rest : List Oper} {k : FuncId} {args : List Value} {R0 : List Fact} {g : α → Value} {Rr : α → List Fact} {xs : List Operand} {ts : Array TypeId} {d : Nat}
    (h : FnS Try.prog k args [] R0 (fun e M' R' => ∃ x, e = .returned (g x) ∧ M' = [] ∧ R' = Rr x)) (ho : o.op = .call { callee := .value (.func k), args := xs.toArray, argTypes := ts })
    (hx : evs L xs = some args) (hg : o.guard = none) (hdst : o.dst = some d) (hd : Nat.blt d n = true) (hs : SubR R R0)
    (hret : ∀ x, Imp W n D ((d, g x) :: L) M (Rr x ++ R) (wpList Try.prog ops Q rest)) : Imp W n D L M R (wpList Try.prog ops Q (o :: rest)) := by
  refine o_call h ho [] [] rfl hx (by simp) hg (by simp [okD, hdst, hd]) (Mf := M) SelM.refl hs ?_ ?_ ?_
  · rintro v M' R' ⟨x, he, rfl, rfl⟩
    cases he
    rw [hdst]
    exact hret x
  · rintro c M' R' ⟨x, he, _⟩; cases he
  · rintro M' R' ⟨x, he, _⟩; cases he
variable (F : Work) (ro ho : Option Addr) (rc hc : Nat)
theorem sureRN_r (hg : GoodF F) (h : Nat) (h1 : h < F.heaps.length) : FnR Try.prog 63 [valF F ro rc ho hc, i64 (h : Nat)] [rowD ro 2 encS F.rain, rowD ho 3 encH F.heaps] (isSl (sureR F h).length) (fun v => [rowD (adr v) 3 encT (sureR F h)]) := sureR_r F ro ho rc hc (h : Int) (by omega) (by omega) hg.bnd
set_option maxHeartbeats 4000000 in
theorem plans_0 (men : Int) (hg : GoodF F) (b : List T3) (bo : Option Addr) (bc : Nat) (vo : Value) (xs0 : List Inner) (LL : List (List T3)) (hb : ∀ k, k < b.length → IsPlan F.rain.length (b.getD k default)) (hxs : RowsL xs0 LL) (hr : b.length + 0 = F.heaps.length) (hrm : LL.length + 1 ≤ 10000) : FnS Try.prog 101 [valF F ro rc ho hc, i64 men, .slice bo b.length bc, vo] [ownL vo 40 1 encO xs0] [rowsF xs0 LL, rowD bo 3 encT b, rowD ro 2 encS F.rain, rowD ho 3 encH F.heaps] (fun e M' R' => ∃ y : Value × List Inner, e = .returned y.1 ∧ RowsL y.2 (LL ++ plansL F men 0 b) ∧ M' = [ownL y.1 40 1 encO y.2] ∧ R' = [rowsF y.2 (LL ++ plansL F men 0 b)]) := by
  refine FnS.intro1 Try.call101 Try.func101 rfl Try.ntmps101 rfl ?_
  intro W M Rf
  refine r_seq ?_
  have h8 := hg.1
  have h3 := hg.2.2.1
  have hxl := hxs.1
  refine r_region ?_
  refine o_boxA rfl rfl rfl rfl rfl (fun b4 => ?_)
  refine o_q _ rfl rfl rfl (v_assign rfl rfl) ?_
  refine o_nil ?_
  with_reducible refine r_then ?_
  refine r_seq ?_
  refine r_region ?_
  refine o_q _ rfl rfl rfl (v_move rfl rfl) ?_
  refine o_q _ rfl rfl rfl (v_len rfl rfl Try.underlying40 rfl) ?_
  refine o_q _ rfl rfl rfl (v_assign rfl rfl) ?_
  refine o_nil ?_
  with_reducible refine r_then ?_
  refine r_seq ?_
  refine r_seq ?_
  refine r_region ?_
  refine o_q _ rfl rfl rfl (v_move rfl rfl) ?_
  refine o_q _ rfl rfl rfl (v_fieldAddr rfl Try.underlying26 inf24 rfl rfl rfl rfl) ?_
  refine o_q _ rfl rfl rfl (v_ld1 rfl Try.underlying24 rfl rfl rfl) ?_
  refine o_q _ rfl rfl rfl (v_len rfl rfl Try.underlying24 rfl) ?_
  refine o_q _ rfl rfl rfl (v_eql rfl rfl rfl) ?_
  refine o_nil ?_
  with_reducible refine r_then ?_
  refine r_condd rfl (fun hc19 => ?_) (fun hc19 => ?_)
  ·
    refine r_seq ?_
    refine r_region ?_
    refine o_q _ rfl rfl rfl (v_move rfl rfl) ?_
    refine o_q _ rfl rfl rfl (v_move rfl rfl) ?_
    refine o_lit rfl Try.underlying140 inf40 rfl rfl rfl rfl rfl rfl rfl rfl (by repeat (first | exact trivial | refine ⟨rfl, ?_⟩)) (by rfl) (fun b22 => ?_)
    refine o_app1 (((bo, b.length, bc) : Inner)) rfl Try.underlying140 inf40 rfl (by rfl) (by rfl) rfl rfl rfl rfl rfl (by rfl) (by rfl) (by rfl) (by first | omega | (constructor <;> first | omega | decide)) (fun v23 => ?_)
    refine o_q _ rfl rfl rfl (v_assign rfl rfl) ?_
    refine o_nil ?_
    with_reducible refine r_then ?_
    refine r_ret ?_
    with_reducible refine r_then_ret ?_
    refine Imp.derive (ψ := rowsF (xs0 ++ [(bo, b.length, bc)]) (LL ++ [b])) ?_ (fun V hV => rowsF_add hxs (hV (rowsF xs0 LL) InR.mem) (hV (rowD bo 3 encT b) InR.mem))
    exact r_rete [ownL v23 40 1 encO (xs0 ++ [(bo, b.length, bc)])] [rowsF (xs0 ++ [(bo, b.length, bc)]) (LL ++ [b])] (Rd.tmp rfl rfl) ⟨(v23, _), rfl, RowsL_add hxs rfl, rfl, rfl⟩ SelMC.sel (SubR.append SubRC.sub SubRC.sub)
  ·
    (exfalso; omega)
set_option maxHeartbeats 4000000 in
theorem plans_s (men : Int) (hg : GoodF F) (b : List T3) (bo : Option Addr) (bc : Nat) (vo : Value) (xs0 : List Inner) (LL : List (List T3)) (hb : ∀ k, k < b.length → IsPlan F.rain.length (b.getD k default)) (hxs : RowsL xs0 LL) (r : Nat) (ih : ∀ (b : List T3) (bo : Option Addr) (bc : Nat) (vo : Value) (xs : List Inner) (LL : List (List T3)), (∀ k, k < b.length → IsPlan F.rain.length (b.getD k default)) → RowsL xs LL → b.length + r = F.heaps.length → LL.length + (1 + wN F) ^ r ≤ 10000 → FnS Try.prog 101 [valF F ro rc ho hc, i64 men, .slice bo b.length bc, vo] [ownL vo 40 1 encO xs] [rowsF xs LL, rowD bo 3 encT b, rowD ro 2 encS F.rain, rowD ho 3 encH F.heaps] (fun e M' R' => ∃ y : Value × List Inner, e = .returned y.1 ∧ RowsL y.2 (LL ++ plansL F men r b) ∧ M' = [ownL y.1 40 1 encO y.2] ∧ R' = [rowsF y.2 (LL ++ plansL F men r b)])) (hr : b.length + (r + 1) = F.heaps.length) (hrm : LL.length + (1 + wN F) ^ (r + 1) ≤ 10000) : FnS Try.prog 101 [valF F ro rc ho hc, i64 men, .slice bo b.length bc, vo] [ownL vo 40 1 encO xs0] [rowsF xs0 LL, rowD bo 3 encT b, rowD ro 2 encS F.rain, rowD ho 3 encH F.heaps] (fun e M' R' => ∃ y : Value × List Inner, e = .returned y.1 ∧ RowsL y.2 (LL ++ plansL F men (r + 1) b) ∧ M' = [ownL y.1 40 1 encO y.2] ∧ R' = [rowsF y.2 (LL ++ plansL F men (r + 1) b)]) := by
  refine FnS.intro1 Try.call101 Try.func101 rfl Try.ntmps101 rfl ?_
  intro W M Rf
  refine r_seq ?_
  have h8 := hg.1
  have h3 := hg.2.2.1
  have hxl := hxs.1
  refine r_region ?_
  refine o_boxA rfl rfl rfl rfl rfl (fun b4 => ?_)
  refine o_q _ rfl rfl rfl (v_assign rfl rfl) ?_
  refine o_nil ?_
  with_reducible refine r_then ?_
  refine r_seq ?_
  refine r_region ?_
  refine o_q _ rfl rfl rfl (v_move rfl rfl) ?_
  refine o_q _ rfl rfl rfl (v_len rfl rfl Try.underlying40 rfl) ?_
  refine o_q _ rfl rfl rfl (v_assign rfl rfl) ?_
  refine o_nil ?_
  with_reducible refine r_then ?_
  refine r_seq ?_
  refine r_seq ?_
  refine r_region ?_
  refine o_q _ rfl rfl rfl (v_move rfl rfl) ?_
  refine o_q _ rfl rfl rfl (v_fieldAddr rfl Try.underlying26 inf24 rfl rfl rfl rfl) ?_
  refine o_q _ rfl rfl rfl (v_ld1 rfl Try.underlying24 rfl rfl rfl) ?_
  refine o_q _ rfl rfl rfl (v_len rfl rfl Try.underlying24 rfl) ?_
  refine o_q _ rfl rfl rfl (v_eql rfl rfl rfl) ?_
  refine o_nil ?_
  with_reducible refine r_then ?_
  refine r_condd rfl (fun hc19 => ?_) (fun hc19 => ?_)
  ·
    (exfalso; omega)
  ·
    refine r_skip ?_
    with_reducible refine r_then ?_
    refine r_seq ?_
    refine r_par' 5 mixed (by kernel_rfl) (by rfl) ?_
    refine p_q _ rfl rfl rfl (fun _ _ => OpQ.fn None_v rfl rfl SubRC.sub) ?_
    refine p_lit rfl Try.underlying40 inf27 rfl rfl rfl rfl rfl rfl rfl rfl (by repeat (first | exact trivial | refine ⟨rfl, ?_⟩)) (by rfl) ?_
    refine p_q _ rfl rfl rfl (fun _ _ => v_ldW rfl Try.underlying26 rfl inf26 rfl rfl) ?_
    refine p_q _ rfl rfl rfl (fun _ _ => v_move rfl rfl) ?_
    refine p_fn (sureRN_r F ro ho rc hc hg b.length (by omega)) rfl rfl rfl rfl rfl SubRC.sub ?_
    refine p_nil2 (by simp only [List.nil_append, List.cons_append]; rfl) rfl ?_
    refine f_q rfl ?_
    refine f_lit rfl (fun b25 => ?_)
    refine f_q rfl ?_
    refine f_q rfl ?_
    refine f_sl rfl (fun l1 k1 => ?_)
    refine f_nil ?_
    refine Imp.rowN (b := b25) [noneT] encT_len rfl ?_
    have hcl := choices_len F b.length
    have hsl : (sureR F b.length).length ≤ 1000 := sureR_le (by omega)
    refine o_appRR (sz := 3) (xs := [noneT]) (ys := sureR F b.length) rfl Try.underlying40 inf27 rfl rfl rfl encT_len rfl rfl rfl rfl rfl (by first | decide | omega) ⟨by first | omega | (simp; omega), by decide⟩ (fun oa29 cp29 => ?_)
    refine o_q _ rfl rfl rfl (v_assign rfl rfl) ?_
    refine o_nil ?_
    with_reducible refine r_then ?_
    refine r_seq ?_
    refine r_seq ?_
    refine r_region ?_
    refine o_q _ rfl rfl rfl (v_assign rfl rfl) ?_
    refine o_nil ?_
    with_reducible refine r_then ?_
    refine r_block ?_
    refine r_loop (ι := Nat × Value × List Inner) (fun gh => gh.1 ≤ (choices F b.length).length ∧ RowsL gh.2.2 (LL ++ plansT F men r b gh.1)) (fun gh => [(1, i64 men), (2, .slice bo b.length bc), (3, gh.2.1), (4, pt b4 0), (9, i64 b.length), (10, .slice oa29 (choices F b.length).length cp29), (11, i64 gh.1)]) (fun gh => ownL gh.2.1 40 1 encO gh.2.2 :: bx b4 26 (cellsF F ro rc ho hc) :: M) (fun gh => rowsF gh.2.2 (LL ++ plansT F men r b gh.1) :: rowD oa29 3 encT (choices F b.length) :: ([rowsF xs0 LL, rowD bo 3 encT b, rowD ro 2 encS F.rain, rowD ho 3 encH F.heaps] ++ Rf)) (fun gh => (choices F b.length).length - gh.1) (0, vo, xs0) ?_ ?_ ?_
    ·
      refine Imp.derive (ψ := rowD oa29 3 encT (choices F b.length)) ?_ (fun V hV => hV (rowD oa29 3 encT ([noneT] ++ sureR F b.length)) InR.mem)
      refine Imp.derive (ψ := rowsF xs0 (LL ++ plansT F men r b 0)) ?_ (fun V hV => by rw [plansT_0, List.append_nil]; exact hV (rowsF xs0 LL) InR.mem)
      exact r_here (by repeat (first | exact FSub.nil | refine FSub.cons rfl ?_)) SelMC.sel SubRC.sub
    ·
      exact ⟨Nat.zero_le _, by show RowsL xs0 (LL ++ plansT F men r b 0); rw [plansT_0, List.append_nil]; exact hxs⟩
    ·
      rintro ⟨i, v, xs⟩ hI0
      dsimp only at hI0
      dsimp only
      have hil := hI0.1
      have hwl : wN F ≤ 1000 := whole_le (by omega)
      have hcl2 := choices_len F b.length
      refine r_seq ?_
      refine r_seq ?_
      refine r_region ?_
      refine o_q _ rfl rfl rfl (v_move rfl rfl) ?_
      refine o_q _ rfl rfl rfl (v_move rfl rfl) ?_
      refine o_q _ rfl rfl rfl (v_len rfl rfl Try.underlying40 rfl) ?_
      refine o_q _ rfl rfl rfl (v_lss rfl rfl rfl) ?_
      refine o_nil ?_
      with_reducible refine r_then ?_
      refine r_condd rfl (fun hc33 => ?_) (fun hc33 => ?_)
      ·
        refine r_skip ?_
        with_reducible refine r_then ?_
        refine r_seq ?_
        refine r_block ?_
        refine r_seq ?_
        have hik : i < (choices F b.length).length := by omega
        obtain ⟨p, hp⟩ : ∃ p, p = (choices F b.length).getD i default := ⟨_, rfl⟩
        have hpp : IsPlan F.rain.length p := by rw [hp]; exact choices_plan (by omega) hik
        refine r_par' 8 mixed (by kernel_rfl) (by rfl) ?_
        refine p_lit0 rfl Try.underlying40 inf27 rfl rfl rfl ?_
        refine p_q _ rfl rfl rfl (fun _ _ => v_move rfl rfl) ?_
        refine p_acc (by simp only [List.nil_append, List.cons_append]; rfl) ?_
        refine p_appN (sz := 3) 0 rfl rfl rfl (by kernel_rfl) rfl rfl rfl rfl Try.underlying40 inf27 rfl rfl rfl encT_len (fun _ => rfl) ⟨by omega, by decide⟩ ?_
        refine p_q _ rfl rfl rfl (fun _ _ => v_move rfl rfl) ?_
        refine p_q _ rfl rfl rfl (fun _ _ => v_move rfl rfl) ?_
        refine p_q _ rfl rfl rfl (fun _ _ => v_indexAddrSn rfl Try.underlying40 inf27 rfl rfl rfl (by omega) rfl) ?_
        refine p_q _ rfl rfl rfl (fun _ _ => v_cast (v := .agg #[i64 p.a, i64 p.b, i64 p.c]) (v_loadEN rfl Try.underlying27 rfl inf27 rfl (by omega) rfl rfl rfl) (by rw [hp]; rfl)) ?_
        refine p_lit rfl Try.underlying40 inf27 rfl rfl rfl rfl rfl rfl rfl rfl (by repeat (first | exact trivial | refine ⟨rfl, ?_⟩)) (by rfl) ?_
        refine p_nil2 (by simp only [List.nil_append, List.cons_append]; rfl) rfl ?_
        refine f_l0 rfl (fun b36 => ?_)
        refine f_q rfl ?_
        refine f_oz rfl (fun v38 => ?_)
        refine f_q rfl ?_
        refine f_q rfl ?_
        refine f_q rfl ?_
        refine f_q rfl ?_
        refine f_lit rfl (fun b43 => ?_)
        refine f_nil ?_
        refine o_appZ1F (v := v38) (sz := 3) (enc := encT) (xs := b) (p) rfl Try.underlying40 inf27 rfl rfl rfl encT_len rfl rfl rfl rfl rfl rfl rfl ⟨by omega, by decide⟩ (fun v44 => ?_)
        refine o_q _ rfl rfl rfl (v_assign rfl rfl) ?_
        refine o_nil ?_
        with_reducible refine r_then ?_
        refine r_seq ?_
        refine Imp.settleS v44 encT_len (fun on cn hv => ?_)
        subst hv
        refine r_region ?_
        refine o_q _ rfl rfl rfl (v_ldW rfl Try.underlying26 rfl inf26 rfl rfl) ?_
        refine o_q _ rfl rfl rfl (v_move rfl rfl) ?_
        refine o_q _ rfl rfl rfl (v_move rfl rfl) ?_
        refine o_q _ rfl rfl rfl (v_move rfl rfl) ?_
        refine o_q _ rfl rfl rfl (OpQ.fn (rule_v F ro ho rc hc (by omega) (by omega) (b ++ [p]) on cn (by simp; omega) b.length 0 men (by omega) (by simp) (by omega) hg.bnd (by omega) (by rw [last_at]; exact hpp.1)) rfl rfl SubRC.sub) ?_
        refine o_test rfl rfl rfl (v_eql rfl rfl rfl) (fun h50 => ?_) (fun h50 => ?_)
        all_goals
          refine o_q _ rfl rfl rfl (v_move rfl rfl) ?_
          first | refine o_gn rfl rfl rfl rfl ?_ | refine o_g _ rfl rfl rfl rfl (v_ldW rfl Try.underlying26 rfl inf26 rfl rfl) ?_
          first | refine o_gn rfl rfl rfl rfl ?_ | refine o_g _ rfl rfl rfl rfl (v_move rfl rfl) ?_
          first | refine o_gn rfl rfl rfl rfl ?_ | refine o_g _ rfl rfl rfl rfl (v_move rfl rfl) ?_
          first | refine o_gn rfl rfl rfl rfl ?_ | refine o_g _ rfl rfl rfl rfl (v_move rfl rfl) ?_
          first | refine o_gn rfl rfl rfl rfl ?_ | refine o_g _ rfl rfl rfl rfl (OpQ.fn (rule_v F ro ho rc hc (by omega) (by omega) (b ++ [p]) on cn (by simp; omega) b.length 1 men (by omega) (by simp) (by omega) hg.bnd (by omega) (by rw [last_at]; exact hpp.1)) rfl rfl SubRC.sub) ?_
          first | refine o_gn rfl rfl rfl rfl ?_ | refine o_gtest rfl rfl rfl rfl (v_eql rfl rfl rfl) (fun h57 => ?_) (fun h57 => ?_)
          all_goals
            first | refine o_q _ rfl rfl rfl (v_pick_t rfl rfl rfl) ?_ | refine o_q _ rfl rfl rfl (v_pick_f rfl rfl rfl) ?_
            refine o_q _ rfl rfl rfl (v_move rfl rfl) ?_
            first | refine o_gn rfl rfl rfl rfl ?_ | refine o_g _ rfl rfl rfl rfl (v_ldW rfl Try.underlying26 rfl inf26 rfl rfl) ?_
            first | refine o_gn rfl rfl rfl rfl ?_ | refine o_g _ rfl rfl rfl rfl (v_move rfl rfl) ?_
            first | refine o_gn rfl rfl rfl rfl ?_ | refine o_g _ rfl rfl rfl rfl (v_move rfl rfl) ?_
            first | refine o_gn rfl rfl rfl rfl ?_ | refine o_g _ rfl rfl rfl rfl (v_move rfl rfl) ?_
            first | refine o_gn rfl rfl rfl rfl ?_ | refine o_g _ rfl rfl rfl rfl (OpQ.fn (rule_v F ro ho rc hc (by omega) (by omega) (b ++ [p]) on cn (by simp; omega) b.length 2 men (by omega) (by simp) (by omega) hg.bnd (by omega) (by rw [last_at]; exact hpp.1)) rfl rfl SubRC.sub) ?_
            first | refine o_gn rfl rfl rfl rfl ?_ | refine o_gtest rfl rfl rfl rfl (v_eql rfl rfl rfl) (fun h65 => ?_) (fun h65 => ?_)
            all_goals
              first | refine o_q _ rfl rfl rfl (v_pick_t rfl rfl rfl) ?_ | refine o_q _ rfl rfl rfl (v_pick_f rfl rfl rfl) ?_
              refine o_nil ?_
              with_reducible refine r_then ?_
              refine r_cond rfl (fun hc66 => ?_) (fun hc66 => ?_)
              ·
                first
                | (exfalso; revert hc66; decide)
                | skip
                  have hroom := plansT_room (F := F) (men := men) (r := r) (b := b) hik
                  refine r_region ?_
                  refine o_q _ rfl rfl rfl (v_ldW rfl Try.underlying26 rfl inf26 rfl rfl) ?_
                  refine o_q _ rfl rfl rfl (v_move rfl rfl) ?_
                  refine o_q _ rfl rfl rfl (v_move rfl rfl) ?_
                  refine o_q _ rfl rfl rfl (v_move rfl rfl) ?_
                  refine o_fnX (ih (b ++ [p]) on cn v xs (LL ++ plansT F men r b i) (plan_all hb hpp) hI0.2 (by simp; omega) (by simp only [List.length_append]; omega)) rfl rfl rfl rfl rfl SubRC.sub (fun y hy => ?_)
                  all_goals
                    refine o_q _ rfl rfl rfl (v_assign rfl rfl) ?_
                    refine o_nil ?_
                    with_reducible refine r_in_normal ?_; refine r_then ?_
                    refine r_region ?_
                    refine o_q _ rfl rfl rfl (v_move rfl rfl) ?_
                    refine o_q _ rfl rfl rfl (v_add rfl rfl rfl (by omega)) ?_
                    refine o_q _ rfl rfl rfl (v_assign rfl rfl) ?_
                    refine o_nil ?_
                    with_reducible refine r_then ?_
                    exact r_next ((i + 1, y.1, y.2)) (by (refine Imp.derive (ψ := rowsF y.2 (LL ++ plansT F men r b (i + 1))) ?_ (fun V hV => by have h := hV (rowsF y.2 ((LL ++ plansT F men r b i) ++ plansL F men r (b ++ [p]))) InR.mem; rw [List.append_assoc, plansT_yes hik hp.symm (by assumption) (by assumption) (by assumption)] at h; exact h)); exact r_here (by repeat (first | exact FSub.nil | refine FSub.cons rfl ?_)) SelMC.sel SubRC.sub) (by exact ⟨by show i + 1 ≤ _; omega, by have h := hy; rw [List.append_assoc, plansT_yes hik hp.symm (by assumption) (by assumption) (by assumption)] at h; exact h⟩) (by show _ - (i + 1) < _ - i; omega)
              ·
                first
                | (exfalso; revert hc66; decide)
                | skip
                  refine r_skip ?_
                  with_reducible refine r_in_normal ?_; refine r_then ?_
                  refine r_region ?_
                  refine o_q _ rfl rfl rfl (v_move rfl rfl) ?_
                  refine o_q _ rfl rfl rfl (v_add rfl rfl rfl (by omega)) ?_
                  refine o_q _ rfl rfl rfl (v_assign rfl rfl) ?_
                  refine o_nil ?_
                  with_reducible refine r_then ?_
                  exact r_next ((i + 1, v, xs)) (by (refine Imp.derive (ψ := rowsF xs (LL ++ plansT F men r b (i + 1))) ?_ (fun V hV => by have h := hV (rowsF xs (LL ++ plansT F men r b i)) InR.mem; rw [plansT_no hik hp.symm (by omega)] at h; exact h)); exact r_here (by repeat (first | exact FSub.nil | refine FSub.cons rfl ?_)) SelMC.sel SubRC.sub) (by exact ⟨by show i + 1 ≤ _; omega, by have h := hI0.2; rw [plansT_no hik hp.symm (by omega)] at h; exact h⟩) (by show _ - (i + 1) < _ - i; omega)
      ·
        refine r_exit ?_
        with_reducible refine r_then_exit ?_; refine r_then_exit ?_; refine r_in_here ?_; refine r_then ?_
        refine r_seq ?_
        refine r_region ?_
        refine o_q _ rfl rfl rfl (v_move rfl rfl) ?_
        refine o_q _ rfl rfl rfl (v_assign rfl rfl) ?_
        refine o_nil ?_
        with_reducible refine r_then ?_
        refine r_ret ?_
        obtain rfl : i = (choices F b.length).length := by omega
        rw [plansT_all] at hI0
        refine Imp.derive (ψ := rowsF xs (LL ++ plansL F men (r + 1) b)) ?_ (fun V hV => by have h := hV (rowsF xs (LL ++ plansT F men r b (choices F b.length).length)) InR.mem; rw [plansT_all] at h; exact h)
        exact r_rete [ownL v 40 1 encO xs] [rowsF xs (LL ++ plansL F men (r + 1) b)] (Rd.tmp rfl rfl) ⟨(v, xs), rfl, hI0.2, rfl, rfl⟩ SelMC.sel (SubR.append SubRC.sub SubRC.sub)
theorem plans_m (men : Int) (hg : GoodF F) : ∀ (r : Nat) (b : List T3) (bo : Option Addr) (bc : Nat) (vo : Value) (xs : List Inner) (LL : List (List T3)), (∀ k, k < b.length → IsPlan F.rain.length (b.getD k default)) → RowsL xs LL → b.length + r = F.heaps.length → LL.length + (1 + wN F) ^ r ≤ 10000 → FnS Try.prog 101 [valF F ro rc ho hc, i64 men, .slice bo b.length bc, vo] [ownL vo 40 1 encO xs] [rowsF xs LL, rowD bo 3 encT b, rowD ro 2 encS F.rain, rowD ho 3 encH F.heaps] (fun e M' R' => ∃ y : Value × List Inner, e = .returned y.1 ∧ RowsL y.2 (LL ++ plansL F men r b) ∧ M' = [ownL y.1 40 1 encO y.2] ∧ R' = [rowsF y.2 (LL ++ plansL F men r b)])
  | 0, b, bo, bc, vo, xs, LL, hb, hx, hr, hm => plans_0 F ro ho rc hc men hg b bo bc vo xs LL hb hx hr (by simpa using hm)
  | r + 1, b, bo, bc, vo, xs, LL, hb, hx, hr, hm => plans_s F ro ho rc hc men hg b bo bc vo xs LL hb hx r (plans_m men hg r) hr hm
end Go.Proofs.Ytienjlmnakbfmaa


namespace Go.Proofs.Ytienjlmnakbfmaa
open Go.G Foot4
set_option maxRecDepth 1000000
attribute [local irreducible] G.ParO G.Fin
theorem p_depSlV {α : Type} {P : Program} {W : World} {n : Nat} {L : Tm} {M : List Res} {R : List Fact} {o : Oper} {ops : Array Oper} {K : List Spc → Prop} {rest : List Oper} {acc : List Spc} {d : Nat} {v : Value} (j : Nat) {oj : Oper} {m sz : Nat} {enc : α → List Value} {ys : List α} (hoj : ops[j]? = some oj) (hsj : acc[j]? = some (Spc.sl m sz enc ys)) (hdep : depOn o j = true) (hg : o.guard = none) (hdst : o.dst = some d) (hd : Nat.blt d n = true)
    (ho : ∀ oa cap, ∀ Mx Rx, OpQ P W n ((oj.dst.getD 1000000, .slice oa m cap) :: L) (Mx ++ M) (Rx ++ (rowD oa sz enc ys :: R)) o v) (h : ParO P W n M R ops K rest (acc ++ [Spc.q v]) ((d, v) :: L)) : ParO P W n M R ops K (o :: rest) acc L :=
  p_dep j hoj hsj rfl hdep hg hdst hd (fun u hu Mx Rx => by obtain ⟨oa, cap, rfl⟩ := hu; exact ho oa cap Mx Rx) h
def Heavy (F : Work) : Prop := (40 < F.rain.length ∨ 40 < F.heaps.length) ∨ (GoodF F ∧ 9 - (F.heaps.length : Int) < F.rain.length)
instance (F : Work) : Decidable (Heavy F) := by unfold Heavy; infer_instance
theorem bestP_len {F : Work} : (bestP F).2.1.length ≤ 40 := by
  by_cases hg : GoodF F
  · rw [bestP_ok hg]
    have := hg.2.2.1
    show (stW F F.men F.heaps.length).2.length ≤ 40
    rw [(stW_len F F.men F.heaps.length).2]; omega
  · rw [bestP_bad hg]; exact Nat.zero_le _
theorem not_heavy {F : Work} (h : ¬ Heavy F) (hg : GoodF F) : (1 + wN F) ^ F.heaps.length ≤ 10000 := room_all hg (by unfold Heavy at h; have : ¬ (GoodF F ∧ 9 - (F.heaps.length : Int) < F.rain.length) := fun x => h (.inr x); have : ¬ 9 - (F.heaps.length : Int) < F.rain.length := fun x => this ⟨hg, x⟩; omega)
variable (F : Work) (ro ho : Option Addr) (rc hc : Nat)
set_option maxHeartbeats 4000000 in
theorem first_r (men : Int) (hg : GoodF F) (hrm : (1 + wN F) ^ F.heaps.length ≤ 10000) : FnR Try.prog 75 [valF F ro rc ho hc, i64 men] [rowD ro 2 encS F.rain, rowD ho 3 encH F.heaps] (isSl (firstL F men).length) (fun v => [rowD (adr v) 3 encT (firstL F men)]) := by
  refine FnR.intro Try.call75 Try.func75 rfl Try.ntmps75 rfl ?_
  intro W M Rf
  refine r_seq ?_
  refine r_region ?_
  refine o_boxA rfl rfl rfl rfl rfl (fun b2 => ?_)
  refine o_q _ rfl rfl rfl (v_assign rfl rfl) ?_
  refine o_nil ?_
  with_reducible refine r_then ?_
  refine r_seq ?_
  have h8 := hg.1
  have h3 := hg.2.2.1
  refine Imp.nilL 40 1 encO ?_
  refine Imp.derive (ψ := rowsF [] []) ?_ (fun V _ => rowsF_nil)
  refine Imp.derive (ψ := rowD none 3 encT ([] : List T3)) ?_ (fun V _ => .inl rfl)
  refine r_region ?_
  refine o_q _ rfl rfl rfl (v_ldW rfl Try.underlying26 rfl inf26 rfl rfl) ?_
  refine o_q _ rfl rfl rfl (v_move rfl rfl) ?_
  refine o_fnX (plans_m F ro ho rc hc men hg F.heaps.length [] none 0 (.slice none 0 0) [] [] (fun k hk => absurd hk (by simp)) RowsL_nil (by simp) (by simpa using hrm)) rfl rfl rfl rfl rfl SubRC.sub (fun y hy => ?_)
  all_goals
    obtain ⟨yv, ys⟩ := y
    rw [List.nil_append] at hy
    dsimp only at hy
    refine Imp.derive (ψ := rowsF ys (plansL F men F.heaps.length [])) ?_ (fun V hV => hV (rowsF ys ([] ++ (plansL F men F.heaps.length []))) InR.mem)
    refine Imp.settleS yv encO_len (fun so sc hv => ?_)
    dsimp only at hv
    subst hv
    dsimp only
    have hpos := plansL_pos (F := F) (men := men) F.heaps.length []
    have hyl := hy.1
    have hcnt := plansL_count (F := F) (men := men) F.heaps.length []
    refine o_q _ rfl rfl rfl (v_assign rfl rfl) ?_
    refine o_nil ?_
    with_reducible refine r_then ?_
    refine r_seq ?_
    refine r_region ?_
    refine o_q _ rfl rfl rfl (v_move rfl rfl) ?_
    refine o_q _ rfl rfl rfl (v_indexAddrS rfl Try.underlying140 inf40 rfl rfl rfl (by omega) (by omega) rfl) ?_
    refine o_q _ rfl rfl rfl (v_cast (v := .slice (ys.getD 0 default).1 (best2 (moreS F) default (plansL F men F.heaps.length []) 0).length (ys.getD 0 default).2.2) (v_loadE1 (v := .slice (ys.getD 0 default).1 (ys.getD 0 default).2.1 (ys.getD 0 default).2.2) rfl Try.underlying40 rfl rfl (by omega) rfl rfl) (by rw [hy.2 0 (by omega)]; rfl)) ?_
    refine o_q _ rfl rfl rfl (v_assign rfl rfl) ?_
    refine o_nil ?_
    with_reducible refine r_then ?_
    refine r_seq ?_
    refine r_seq ?_
    refine r_region ?_
    refine o_q _ rfl rfl rfl (v_assign rfl rfl) ?_
    refine o_nil ?_
    with_reducible refine r_then ?_
    refine r_block ?_
    refine r_loop (ι := Nat × Inner) (fun gh => gh.1 ≤ (plansL F men F.heaps.length []).length) (fun gh => [(2, pt b2 0), (5, .slice so ys.length sc), (6, .slice gh.2.1 (best2 (moreS F) default (plansL F men F.heaps.length []) gh.1).length gh.2.2.2), (7, i64 gh.1)]) (fun gh => bx b2 26 (cellsF F ro rc ho hc) :: M) (fun gh => rowD gh.2.1 3 encT (best2 (moreS F) default (plansL F men F.heaps.length []) gh.1) :: rowsF ys (plansL F men F.heaps.length []) :: rowD so 1 encO ys :: ([rowD ro 2 encS F.rain, rowD ho 3 encH F.heaps] ++ Rf)) (fun gh => (plansL F men F.heaps.length []).length - gh.1) (0, ys.getD 0 default) ?_ ?_ ?_
    ·
      refine Imp.derive (ψ := rowD (ys.getD 0 default).1 3 encT (best2 (moreS F) default (plansL F men F.heaps.length []) 0)) ?_ (fun V hV => hV (rowsF ys (plansL F men F.heaps.length [])) InR.mem 0 (by omega))
      exact r_here (by repeat (first | exact FSub.nil | refine FSub.cons rfl ?_)) SelMC.sel SubRC.sub
    ·
      exact Nat.zero_le _
    ·
      rintro ⟨k, c⟩ hI0
      dsimp only at hI0
      dsimp only
      have hI := hI0
      refine r_seq ?_
      refine r_seq ?_
      refine r_region ?_
      refine o_q _ rfl rfl rfl (v_move rfl rfl) ?_
      refine o_q _ rfl rfl rfl (v_move rfl rfl) ?_
      refine o_q _ rfl rfl rfl (v_len rfl rfl Try.underlying140 rfl) ?_
      refine o_q _ rfl rfl rfl (v_lss rfl rfl rfl) ?_
      refine o_nil ?_
      with_reducible refine r_then ?_
      refine r_condd rfl (fun hc17 => ?_) (fun hc17 => ?_)
      ·
        refine r_skip ?_
        with_reducible refine r_then ?_
        refine r_seq ?_
        refine r_block ?_
        refine r_seq ?_
        refine Imp.derive (ψ := rowD (ys.getD k default).1 3 encT ((plansL F men F.heaps.length []).getD k default)) ?_ (fun V hV => hV (rowsF ys (plansL F men F.heaps.length [])) InR.mem k (by omega))
        have hk1 := plansL_at (F := F) (men := men) (r := F.heaps.length) (b := []) (k := k) (by omega)
        simp only [List.length_nil] at hk1
        have hk2 := plansL_len (best2_in (bt := moreS F) (z := default) hpos k (by omega))
        simp only [List.length_nil] at hk2
        refine r_region_q mixed (by kernel_rfl) ?_
        refine q_q _ rfl rfl rfl (v_ldW rfl Try.underlying26 rfl inf26 rfl rfl) ?_
        refine q_q _ rfl rfl rfl (v_move rfl rfl) ?_
        refine q_q _ rfl rfl rfl (v_move rfl rfl) ?_
        refine q_q _ rfl rfl rfl (v_indexAddrSn rfl Try.underlying140 inf40 rfl rfl rfl (by omega) rfl) ?_
        refine q_q _ rfl rfl rfl (v_cast (v := .slice (ys.getD k default).1 ((plansL F men F.heaps.length []).getD k default).length (ys.getD k default).2.2) (v_loadE1 (v := .slice (ys.getD k default).1 (ys.getD k default).2.1 (ys.getD k default).2.2) rfl Try.underlying40 rfl rfl (by omega) rfl rfl) (by rw [hy.2 k (by omega)])) ?_
        refine q_q _ rfl rfl rfl (OpQ.fn (Sods_v F ro ho rc hc hg ((plansL F men F.heaps.length []).getD k default) _ _ (by omega) (by omega)) rfl rfl SubRC.sub) ?_
        refine q_q _ rfl rfl rfl (v_ldW rfl Try.underlying26 rfl inf26 rfl rfl) ?_
        refine q_q _ rfl rfl rfl (v_move rfl rfl) ?_
        refine q_q _ rfl rfl rfl (OpQ.fn (Sods_v F ro ho rc hc hg (best2 (moreS F) default (plansL F men F.heaps.length []) k) _ _ (by omega) (by omega)) rfl rfl SubRC.sub) ?_
        refine q_q _ rfl rfl rfl (v_gtr rfl rfl rfl) ?_
        refine q_nil ?_
        with_reducible refine r_then ?_
        refine r_condd rfl (fun hc29 => ?_) (fun hc29 => ?_)
        ·
          refine r_region ?_
          refine o_q _ rfl rfl rfl (v_move rfl rfl) ?_
          refine o_q _ rfl rfl rfl (v_move rfl rfl) ?_
          refine o_q _ rfl rfl rfl (v_indexAddrSn rfl Try.underlying140 inf40 rfl rfl rfl (by omega) rfl) ?_
          refine o_q _ rfl rfl rfl (v_cast (v := .slice (ys.getD k default).1 (best2 (moreS F) default (plansL F men F.heaps.length []) (k + 1)).length (ys.getD k default).2.2) (v_loadE1 (v := .slice (ys.getD k default).1 (ys.getD k default).2.1 (ys.getD k default).2.2) rfl Try.underlying40 rfl rfl (by omega) rfl rfl) (by rw [hy.2 k (by omega), best2_yes (bt := moreS F) (z := default) (xs := (plansL F men F.heaps.length [])) (k := k) (decide_eq_true (by assumption))])) ?_
          refine o_q _ rfl rfl rfl (v_assign rfl rfl) ?_
          refine o_nil ?_
          with_reducible refine r_in_normal ?_; refine r_then ?_
          refine r_region ?_
          refine o_q _ rfl rfl rfl (v_move rfl rfl) ?_
          refine o_q _ rfl rfl rfl (v_add rfl rfl rfl (by omega)) ?_
          refine o_q _ rfl rfl rfl (v_assign rfl rfl) ?_
          refine o_nil ?_
          with_reducible refine r_then ?_
          exact r_next ((k + 1, ys.getD k default)) (by (refine Imp.derive (ψ := rowD (ys.getD k default).1 3 encT (best2 (moreS F) default (plansL F men F.heaps.length []) (k + 1))) ?_ (fun V hV => by rw [best2_yes (bt := moreS F) (z := default) (xs := (plansL F men F.heaps.length [])) (k := k) (decide_eq_true (by assumption))]; exact hV (rowD (ys.getD k default).1 3 encT ((plansL F men F.heaps.length []).getD k default)) InR.mem)); exact r_here (by repeat (first | exact FSub.nil | refine FSub.cons rfl ?_)) SelMC.sel SubRC.sub) (by first | omega | (show _ + 1 ≤ _; omega)) (by first | omega | (show _ - (_ + 1) < _ - _; omega))
        ·
          refine r_skip ?_
          with_reducible refine r_in_normal ?_; refine r_then ?_
          refine r_region ?_
          refine o_q _ rfl rfl rfl (v_move rfl rfl) ?_
          refine o_q _ rfl rfl rfl (v_add rfl rfl rfl (by omega)) ?_
          refine o_q _ rfl rfl rfl (v_assign rfl rfl) ?_
          refine o_nil ?_
          with_reducible refine r_then ?_
          exact r_next ((k + 1, c)) (by (refine Imp.derive (ψ := rowD c.1 3 encT (best2 (moreS F) default (plansL F men F.heaps.length []) (k + 1))) ?_ (fun V hV => by rw [best2_no (bt := moreS F) (z := default) (xs := (plansL F men F.heaps.length [])) (k := k) (moreS_no (by assumption))]; exact hV (rowD c.1 3 encT (best2 (moreS F) default (plansL F men F.heaps.length []) k)) InR.mem)); exact r_here (by repeat (first | exact FSub.nil | refine FSub.cons rfl ?_ | refine FSub.cons2 rfl (by rw [best2_no (bt := moreS F) (z := default) (xs := (plansL F men F.heaps.length [])) (k := k) (moreS_no (by assumption))]) ?_)) SelMC.sel SubRC.sub) (by first | omega | (show _ + 1 ≤ _; omega)) (by first | omega | (show _ - (_ + 1) < _ - _; omega))
      ·
        refine r_exit ?_
        with_reducible refine r_then_exit ?_; refine r_then_exit ?_; refine r_in_here ?_; refine r_then ?_
        refine r_seq ?_
        refine r_region ?_
        refine o_q _ rfl rfl rfl (v_move rfl rfl) ?_
        refine o_q _ rfl rfl rfl (v_assign rfl rfl) ?_
        refine o_nil ?_
        with_reducible refine r_then ?_
        refine r_ret ?_
        obtain rfl : k = (plansL F men F.heaps.length []).length := by omega
        refine Imp.derive (ψ := rowD c.1 3 encT (firstL F men)) ?_ (fun V hV => hV (rowD c.1 3 encT (best2 (moreS F) default (plansL F men F.heaps.length []) (plansL F men F.heaps.length []).length)) InR.mem)
        exact r_retr (v := .slice c.1 (firstL F men).length c.2.2) (Rd.tmp rfl rfl) ⟨_, _, rfl⟩ SelMC.sel (by show SubR _ ([rowD c.1 3 encT (firstL F men)] ++ ([rowD ro 2 encS F.rain, rowD ho 3 encH F.heaps] ++ Rf)); exact SubR.append SubRC.sub SubRC.sub)
set_option maxHeartbeats 4000000 in
theorem RBest_s (hr : F.rain.length ≤ 40) (hh : F.heaps.length ≤ 40) (hm : GoodF F → (1 + wN F) ^ F.heaps.length ≤ 10000) : FnS Try.prog 27 [valF F ro rc ho hc] [] [rowD ro 2 encS F.rain, rowD ho 3 encH F.heaps] (fun e M' R' => ∃ x : Option Addr × Nat, e = .returned (.tuple #[i64 (bestP F).1, .slice x.1 (bestP F).2.1.length x.2, i64 (bestP F).2.2]) ∧ M' = [] ∧ R' = [rowD x.1 3 encT (bestP F).2.1]) := by
  refine FnS.intro0 Try.call27 Try.func27 rfl Try.ntmps27 rfl ?_
  intro W M Rf
  refine r_seq ?_
  refine r_region ?_
  refine o_boxA rfl rfl rfl rfl rfl (fun b1 => ?_)
  refine o_q _ rfl rfl rfl (v_assign rfl rfl) ?_
  refine o_q _ rfl rfl rfl (v_assign rfl rfl) ?_
  refine o_q _ rfl rfl rfl (v_assign rfl rfl) ?_
  refine o_nil ?_
  with_reducible refine r_then ?_
  refine r_seq ?_
  refine r_region ?_
  refine o_q _ rfl rfl rfl (v_ldW rfl Try.underlying26 rfl inf26 rfl rfl) ?_
  refine o_q _ rfl rfl rfl (OpQ.fn (check_v F ro ho rc hc true hr hh) rfl rfl SubRC.sub) ?_
  refine o_q _ rfl rfl rfl (v_assign rfl rfl) ?_
  refine o_nil ?_
  with_reducible refine r_then ?_
  refine r_seq ?_
  refine r_seq ?_
  refine r_region ?_
  by_cases hg : GoodF F <;> refine o_q _ rfl rfl rfl (v_move rfl rfl) ?_
  all_goals
    first | have hck := chk_0 (v := true) rfl hg | have hck := chk_1 (v := true) hg
    refine o_q _ rfl rfl rfl (v_neq rfl rfl rfl) ?_
    refine o_nil ?_
    with_reducible refine r_then ?_
    refine r_condd rfl (fun hc10 => ?_) (fun hc10 => ?_)
    ·
      first
      | (exfalso; omega)
      | skip
        refine r_seq ?_
        refine r_region ?_
        refine o_q _ rfl rfl rfl (v_move rfl rfl) ?_
        refine o_q _ rfl rfl rfl (v_assign rfl rfl) ?_
        refine o_q _ rfl rfl rfl (v_assign rfl rfl) ?_
        refine o_q _ rfl rfl rfl (v_assign rfl rfl) ?_
        refine o_nil ?_
        with_reducible refine r_then ?_
        refine r_ret ?_
        with_reducible refine r_then_ret ?_
        (refine Imp.derive (ψ := rowD none 3 encT ([] : List T3)) ?_ (fun V _ => .inl rfl); exact r_rete [] [rowD none 3 encT ([] : List T3)] (Rd.three rfl (RdI.tmp rfl) (RdI.tmp rfl) (RdI.tmp rfl)) ⟨(none, 0), by rw [bestP_bad hg, hck]; rfl, rfl, by rw [bestP_bad hg]⟩ SelMC.sel (SubR.append SubRC.sub SubRC.sub))
    ·
      first
      | (exfalso; omega)
      | skip
        refine r_skip ?_
        with_reducible refine r_then ?_
        refine r_seq ?_
        have h8 := hg.1
        have h3 := hg.2.2.1
        have hfl := firstL_len hg F.men
        refine r_region ?_
        refine o_q _ rfl rfl rfl (v_ldW rfl Try.underlying26 rfl inf26 rfl rfl) ?_
        refine o_q _ rfl rfl rfl (v_fieldAddr rfl Try.underlying26 inf3 rfl rfl rfl rfl) ?_
        refine o_q _ rfl rfl rfl (v_ld1 rfl Try.underlying3 rfl rfl rfl) ?_
        refine o_fns (first_r F ro ho rc hc F.men hg (hm hg)) rfl rfl rfl rfl rfl SubRC.sub (fun oa15 cp15 => ?_)
        refine o_q _ rfl rfl rfl (v_assign rfl rfl) ?_
        refine o_nil ?_
        with_reducible refine r_then ?_
        refine r_seq ?_
        refine r_region ?_
        refine o_q _ rfl rfl rfl (v_ldW rfl Try.underlying26 rfl inf26 rfl rfl) ?_
        refine o_q _ rfl rfl rfl (v_move rfl rfl) ?_
        refine o_q _ rfl rfl rfl (v_cast (v := i64 (bestS F F.men)) (OpQ.fn (Sods_v F ro ho rc hc hg (firstL F F.men) _ _ (by omega) (by omega)) rfl rfl SubRC.sub) (congrArg (Value.int .i64) (firstL_sods hg F.men))) ?_
        refine o_q _ rfl rfl rfl (v_move rfl rfl) ?_
        refine o_q _ rfl rfl rfl (v_assign rfl rfl) ?_
        refine o_q _ rfl rfl rfl (v_assign rfl rfl) ?_
        refine o_q _ rfl rfl rfl (v_assign rfl rfl) ?_
        refine o_nil ?_
        with_reducible refine r_then ?_
        refine r_ret ?_
        exact r_rete [] [rowD oa15 3 encT (firstL F F.men)] (Rd.three rfl (RdI.tmp rfl) (RdI.tmp rfl) (RdI.tmp rfl)) ⟨(oa15, cp15), by rw [bestP_ok hg, ← firstL_st hg], rfl, by rw [bestP_ok hg, ← firstL_st hg]⟩ SelMC.sel (SubR.append SubRC.sub SubRC.sub)
set_option maxHeartbeats 4000000 in
theorem RMen_v (hr : F.rain.length ≤ 40) (hh : F.heaps.length ≤ 40) (hm : GoodF F → (1 + wN F) ^ F.heaps.length ≤ 10000) : FnV Try.prog 29 [valF F ro rc ho hc] [rowD ro 2 encS F.rain, rowD ho 3 encH F.heaps] (.tuple #[i64 (menP F).1, i64 (menP F).2.1, i64 (menP F).2.2]) := by
  refine FnV.intro Try.call29 Try.func29 rfl Try.ntmps29 rfl ?_
  intro W M Rf
  refine r_seq ?_
  refine r_region ?_
  refine o_boxA rfl rfl rfl rfl rfl (fun b1 => ?_)
  refine o_q _ rfl rfl rfl (v_assign rfl rfl) ?_
  refine o_q _ rfl rfl rfl (v_assign rfl rfl) ?_
  refine o_q _ rfl rfl rfl (v_assign rfl rfl) ?_
  refine o_nil ?_
  with_reducible refine r_then ?_
  refine r_seq ?_
  refine r_region ?_
  refine o_q _ rfl rfl rfl (v_ldW rfl Try.underlying26 rfl inf26 rfl rfl) ?_
  refine o_q _ rfl rfl rfl (OpQ.fn (check_v F ro ho rc hc true hr hh) rfl rfl SubRC.sub) ?_
  refine o_q _ rfl rfl rfl (v_assign rfl rfl) ?_
  refine o_nil ?_
  with_reducible refine r_then ?_
  refine r_seq ?_
  refine r_seq ?_
  refine r_region ?_
  by_cases hg : GoodF F <;> refine o_q _ rfl rfl rfl (v_move rfl rfl) ?_
  all_goals
    first | have hck := chk_0 (v := true) rfl hg | have hck := chk_1 (v := true) hg
    refine o_q _ rfl rfl rfl (v_neq rfl rfl rfl) ?_
    refine o_nil ?_
    with_reducible refine r_then ?_
    refine r_condd rfl (fun hc11 => ?_) (fun hc11 => ?_)
    ·
      first
      | (exfalso; omega)
      | skip
        refine r_seq ?_
        refine r_region ?_
        refine o_q _ rfl rfl rfl (v_move rfl rfl) ?_
        refine o_q _ rfl rfl rfl (v_assign rfl rfl) ?_
        refine o_q _ rfl rfl rfl (v_assign rfl rfl) ?_
        refine o_q _ rfl rfl rfl (v_assign rfl rfl) ?_
        refine o_nil ?_
        with_reducible refine r_then ?_
        refine r_ret ?_
        with_reducible refine r_then_ret ?_
        (rw [menP_bad hg, ← hck]; exact r_retv2 (Rd.three rfl (RdI.tmp rfl) (RdI.tmp rfl) (RdI.tmp rfl)) rfl SelMC.sel SubRC.sub)
    ·
      first
      | (exfalso; omega)
      | skip
        refine r_skip ?_
        with_reducible refine r_then ?_
        refine r_seq ?_
        have h8 := hg.1
        have h3 := hg.2.2.1
        refine r_par' 3 mixed (by kernel_rfl) (by rfl) ?_
        refine p_q _ rfl rfl rfl (fun _ _ => v_ldW rfl Try.underlying26 rfl inf26 rfl rfl) ?_
        refine p_q _ rfl rfl rfl (fun _ _ => v_ldW rfl Try.underlying26 rfl inf26 rfl rfl) ?_
        refine p_fn (first_r F ro ho rc hc 3 hg (hm hg)) rfl rfl rfl rfl rfl SubRC.sub ?_
        refine p_nil2 (by simp only [List.nil_append, List.cons_append]; rfl) rfl ?_
        refine f_q rfl ?_
        refine f_q rfl ?_
        refine f_sl rfl (fun l15 k15 => ?_)
        refine f_nil ?_
        refine o_q _ rfl rfl rfl (v_cast (v := i64 (bestS F 3)) (OpQ.fn (Sods_v F ro ho rc hc hg (firstL F 3) _ _ (by rw [firstL_len hg]; omega) (by rw [firstL_len hg]; omega)) rfl rfl SubRC.sub) (congrArg (Value.int .i64) (firstL_sods hg 3))) ?_
        refine o_q _ rfl rfl rfl (v_assign rfl rfl) ?_
        refine o_nil ?_
        with_reducible refine r_then ?_
        refine r_seq ?_
        refine r_region ?_
        refine o_q _ rfl rfl rfl (v_assign rfl rfl) ?_
        refine o_nil ?_
        with_reducible refine r_then ?_
        refine r_seq ?_
        refine r_block ?_
        refine r_loop (ι := Nat) (fun k => k ≤ 3 ∧ ∀ j, j < k → ¬ enough F j) (fun k => [(1, pt b1 0), (6, i64 (bestS F 3)), (7, i64 k)]) (fun k => bx b1 26 (cellsF F ro rc ho hc) :: M) (fun k => [rowD ro 2 encS F.rain, rowD ho 3 encH F.heaps] ++ Rf) (fun k => 3 - k) 0 ?_ ?_ ?_
        ·
          exact r_here (by repeat (first | exact FSub.nil | refine FSub.cons rfl ?_)) SelMC.sel SubRC.sub
        ·
          exact ⟨by omega, fun j hj => absurd hj (by omega)⟩
        ·
          rintro k hI0
          have hI : k ≤ 3 := hI0.1
          refine r_seq ?_
          refine r_seq ?_
          refine r_par' 6 mixed (by kernel_rfl) (by rfl) ?_
          refine p_q _ rfl rfl rfl (fun _ _ => v_ldW rfl Try.underlying26 rfl inf26 rfl rfl) ?_
          refine p_q _ rfl rfl rfl (fun _ _ => v_ldW rfl Try.underlying26 rfl inf26 rfl rfl) ?_
          refine p_q _ rfl rfl rfl (fun _ _ => v_move rfl rfl) ?_
          refine p_fn (first_r F ro ho rc hc (k : Nat) hg (hm hg)) rfl rfl rfl rfl rfl SubRC.sub ?_
          refine p_acc (by simp only [List.nil_append, List.cons_append]; rfl) ?_
          refine p_depSlV 3 rfl rfl (by kernel_rfl) rfl rfl rfl (fun oaX cpX _ _ => v_cast (v := i64 (bestS F (k : Nat))) (OpQ.fn (Sods_v F ro ho rc hc hg (firstL F (k : Nat)) _ _ (by rw [firstL_len hg]; omega) (by rw [firstL_len hg]; omega)) rfl rfl SubRC.sub) (congrArg (Value.int .i64) (firstL_sods hg (k : Nat)))) ?_
          refine p_q _ rfl rfl rfl (fun _ _ => v_move rfl rfl) ?_
          refine p_nil2 (by simp only [List.nil_append, List.cons_append]; rfl) rfl ?_
          refine f_q rfl ?_
          refine f_q rfl ?_
          refine f_q rfl ?_
          refine f_sl rfl (fun l20 k20 => ?_)
          refine f_q rfl ?_
          refine f_q rfl ?_
          refine f_nil ?_
          refine o_q _ rfl rfl rfl (v_lss rfl rfl rfl) ?_
          refine o_nil ?_
          with_reducible refine r_then ?_
          refine r_condd rfl (fun hc23 => ?_) (fun hc23 => ?_)
          ·
            refine r_skip ?_
            with_reducible refine r_then ?_
            refine r_block ?_
            refine r_region ?_
            refine o_q _ rfl rfl rfl (v_move rfl rfl) ?_
            refine o_q _ rfl rfl rfl (v_add rfl rfl rfl (by omega)) ?_
            refine o_q _ rfl rfl rfl (v_assign rfl rfl) ?_
            refine o_nil ?_
            with_reducible refine r_in_normal ?_; refine r_then ?_
            refine r_next (k + 1) ?_ ?_ ?_
            ·
              exact r_here (by repeat (first | exact FSub.nil | refine FSub.cons rfl ?_)) SelMC.sel SubRC.sub
            ·
              exact ⟨men_lt hI (by assumption), all_step hI0.2 (fun x => x (by assumption))⟩
            ·
              have := men_lt hI (by assumption)
              omega
          ·
            refine r_exit ?_
            with_reducible refine r_then_exit ?_; refine r_then_exit ?_; refine r_in_here ?_; refine r_then ?_
            refine r_seq ?_
            refine r_region ?_
            refine o_q _ rfl rfl rfl (v_move rfl rfl) ?_
            refine o_q _ rfl rfl rfl (v_move rfl rfl) ?_
            refine o_q _ rfl rfl rfl (v_assign rfl rfl) ?_
            refine o_q _ rfl rfl rfl (v_assign rfl rfl) ?_
            refine o_q _ rfl rfl rfl (v_assign rfl rfl) ?_
            refine o_nil ?_
            with_reducible refine r_then ?_
            refine r_ret ?_
            (have hkm := menN_at hI (by assumption) hI0.2; rw [menP_ok hg, ← hkm]; exact r_retv2 (Rd.three rfl (RdI.tmp rfl) (RdI.tmp rfl) (RdI.tmp rfl)) rfl SelMC.sel SubRC.sub)
set_option maxHeartbeats 4000000 in
theorem heavy_v  : FnV Try.prog 25 [valF F ro rc ho hc] [rowD ro 2 encS F.rain, rowD ho 3 encH F.heaps] (.bool (decide (Heavy F))) := by
  refine FnV.intro Try.call25 Try.func25 rfl Try.ntmps25 rfl ?_
  intro W M Rf
  refine r_seq ?_
  refine r_region ?_
  refine o_boxA rfl rfl rfl rfl rfl (fun b1 => ?_)
  refine o_q _ rfl rfl rfl (v_assign rfl rfl) ?_
  refine o_nil ?_
  with_reducible refine r_then ?_
  refine r_seq ?_
  refine r_region ?_
  refine o_q _ rfl rfl rfl (v_ldW rfl Try.underlying26 rfl inf26 rfl rfl) ?_
  refine o_test rfl rfl rfl (OpQ.fn (far_v F ro ho rc hc _ _ _) rfl rfl SubRC.sub) (fun h4 => ?_) (fun h4 => ?_)
  all_goals
    refine o_q _ rfl rfl rfl (v_move rfl rfl) ?_
    first | refine o_gn rfl rfl rfl rfl ?_ | refine o_g _ rfl rfl rfl rfl (v_ldW rfl Try.underlying26 rfl inf26 rfl rfl) ?_
    first | refine o_gn rfl rfl rfl rfl ?_ | refine o_gtest rfl rfl rfl rfl (OpQ.fn (Foot_v F ro ho rc hc (by omega) (by omega)) rfl rfl SubRC.sub) (fun h7 => ?_) (fun h7 => ?_)
    all_goals
      first | refine o_gn rfl rfl rfl rfl ?_ | refine o_g _ rfl rfl rfl rfl (v_move rfl rfl) ?_
      first | refine o_gn rfl rfl rfl rfl ?_ | refine o_g _ rfl rfl rfl rfl (v_fieldAddr rfl Try.underlying26 inf22 rfl rfl rfl rfl) ?_
      first | refine o_gn rfl rfl rfl rfl ?_ | refine o_g _ rfl rfl rfl rfl (v_ld1 rfl Try.underlying22 rfl rfl rfl) ?_
      first | refine o_gn rfl rfl rfl rfl ?_ | refine o_g _ rfl rfl rfl rfl (v_len rfl rfl Try.underlying22 rfl) ?_
      first | refine o_gn rfl rfl rfl rfl ?_ | refine o_g _ rfl rfl rfl rfl (v_fieldAddr rfl Try.underlying26 inf24 rfl rfl rfl rfl) ?_
      first | refine o_gn rfl rfl rfl rfl ?_ | refine o_g _ rfl rfl rfl rfl (v_ld1 rfl Try.underlying24 rfl rfl rfl) ?_
      first | refine o_gn rfl rfl rfl rfl ?_ | refine o_g _ rfl rfl rfl rfl (v_len rfl rfl Try.underlying24 rfl) ?_
      first | refine o_gn rfl rfl rfl rfl ?_ | refine o_g _ rfl rfl rfl rfl (v_sub rfl rfl rfl (by omega)) ?_
      first | refine o_gn rfl rfl rfl rfl ?_ | refine o_gtest rfl rfl rfl rfl (v_gtr rfl rfl rfl) (fun h16 => ?_) (fun h16 => ?_)
      all_goals
        first | refine o_gn rfl rfl rfl rfl ?_ | refine o_g _ rfl rfl rfl rfl (v_pick_t rfl rfl rfl) ?_ | refine o_g _ rfl rfl rfl rfl (v_pick_f rfl rfl rfl) ?_
        first | refine o_q _ rfl rfl rfl (v_pick_t rfl rfl rfl) ?_ | refine o_q _ rfl rfl rfl (v_pick_f rfl rfl rfl) ?_
        refine o_q _ rfl rfl rfl (v_assign rfl rfl) ?_
        refine o_nil ?_
        with_reducible refine r_then ?_
        refine r_ret ?_
        first
        | exact r_retv2 (Rd.tmp rfl rfl) (congrArg Value.bool (decide_eq_true (by unfold Heavy; first | (left; omega) | (right; exact ⟨by assumption, by omega⟩))).symm) SelMC.sel SubRC.sub
        | exact r_retv2 (Rd.tmp rfl rfl) (congrArg Value.bool (decide_eq_false (by unfold Heavy; rintro (h | ⟨h1, h2⟩) <;> first | omega | contradiction)).symm) SelMC.sel SubRC.sub
set_option maxHeartbeats 4000000 in
theorem plans_v  : FnV Try.prog 5 [valF F ro rc ho hc] [rowD ro 2 encS F.rain, rowD ho 3 encH F.heaps] (.bool true) := by
  refine FnV.intro Try.call5 Try.func5 rfl Try.ntmps5 rfl ?_
  intro W M Rf
  refine r_seq ?_
  refine r_region ?_
  refine o_boxA rfl rfl rfl rfl rfl (fun b1 => ?_)
  refine o_q _ rfl rfl rfl (v_assign rfl rfl) ?_
  refine o_nil ?_
  with_reducible refine r_then ?_
  refine r_seq ?_
  refine r_seq ?_
  refine r_region ?_
  refine o_q _ rfl rfl rfl (v_ldW rfl Try.underlying26 rfl inf26 rfl rfl) ?_
  refine o_q _ rfl rfl rfl (OpQ.fn (heavy_v F ro ho rc hc) rfl rfl SubRC.sub) ?_
  refine o_nil ?_
  with_reducible refine r_then ?_
  refine r_condd rfl (fun hc16 => ?_) (fun hc16 => ?_)
  ·
    refine r_seq ?_
    refine r_region ?_
    refine o_q _ rfl rfl rfl (OpQ.fn awake_v rfl rfl SubRC.sub) ?_
    refine o_q _ rfl rfl rfl (v_assign rfl rfl) ?_
    refine o_nil ?_
    with_reducible refine r_then ?_
    refine r_ret ?_
    with_reducible refine r_then_ret ?_
    exact r_retv2 (Rd.tmp rfl rfl) rfl SelMC.sel SubRC.sub
  ·
    refine r_skip ?_
    with_reducible refine r_then ?_
    refine r_seq ?_
    have hnh : ¬ Heavy F := by assumption
    have hr : F.rain.length ≤ 40 := by unfold Heavy at hnh; omega
    have hh : F.heaps.length ≤ 40 := by unfold Heavy at hnh; omega
    have hbl := bestP_len (F := F)
    refine r_region ?_
    refine o_q _ rfl rfl rfl (v_ldW rfl Try.underlying26 rfl inf26 rfl rfl) ?_
    refine o_fnown (Best_s F ro ho rc hc hr hh) rfl rfl rfl rfl rfl SubRC.sub (fun v20 => ?_)
    all_goals
      refine Imp.settleS v20 encT_len (fun lo lc hv => ?_)
      subst hv
      refine o_q _ rfl rfl rfl (v_move rfl rfl) ?_
      refine o_q _ rfl rfl rfl (v_extract rfl rfl rfl) ?_
      refine o_q _ rfl rfl rfl (v_extract rfl rfl rfl) ?_
      refine o_q _ rfl rfl rfl (v_extract rfl rfl rfl) ?_
      refine o_q _ rfl rfl rfl (v_assign rfl rfl) ?_
      refine o_q _ rfl rfl rfl (v_assign rfl rfl) ?_
      refine o_q _ rfl rfl rfl (v_assign rfl rfl) ?_
      refine o_nil ?_
      with_reducible refine r_then ?_
      refine r_seq ?_
      refine r_region ?_
      refine o_q _ rfl rfl rfl (v_ldW rfl Try.underlying26 rfl inf26 rfl rfl) ?_
      refine o_fnF (RBest_s F ro ho rc hc hr hh (not_heavy hnh)) rfl rfl rfl rfl rfl SubRC.sub (fun x => ?_)
      all_goals
        obtain ⟨l2, c2⟩ := x
        refine o_q _ rfl rfl rfl (v_move rfl rfl) ?_
        refine o_q _ rfl rfl rfl (v_extract rfl rfl rfl) ?_
        refine o_q _ rfl rfl rfl (v_extract rfl rfl rfl) ?_
        refine o_q _ rfl rfl rfl (v_extract rfl rfl rfl) ?_
        refine o_q _ rfl rfl rfl (v_assign rfl rfl) ?_
        refine o_q _ rfl rfl rfl (v_assign rfl rfl) ?_
        refine o_q _ rfl rfl rfl (v_assign rfl rfl) ?_
        refine o_nil ?_
        with_reducible refine r_then ?_
        refine r_seq ?_
        refine r_region ?_
        refine o_q _ rfl rfl rfl (v_ldW rfl Try.underlying26 rfl inf26 rfl rfl) ?_
        refine o_q _ rfl rfl rfl (OpQ.fn (Men_v F ro ho rc hc hr hh) rfl rfl SubRC.sub) ?_
        refine o_q _ rfl rfl rfl (v_move rfl rfl) ?_
        refine o_q _ rfl rfl rfl (v_extract rfl rfl rfl) ?_
        refine o_q _ rfl rfl rfl (v_extract rfl rfl rfl) ?_
        refine o_q _ rfl rfl rfl (v_extract rfl rfl rfl) ?_
        refine o_q _ rfl rfl rfl (v_assign rfl rfl) ?_
        refine o_q _ rfl rfl rfl (v_assign rfl rfl) ?_
        refine o_q _ rfl rfl rfl (v_assign rfl rfl) ?_
        refine o_nil ?_
        with_reducible refine r_then ?_
        refine r_seq ?_
        refine r_region ?_
        refine o_q _ rfl rfl rfl (v_ldW rfl Try.underlying26 rfl inf26 rfl rfl) ?_
        refine o_q _ rfl rfl rfl (OpQ.fn (RMen_v F ro ho rc hc hr hh (not_heavy hnh)) rfl rfl SubRC.sub) ?_
        refine o_q _ rfl rfl rfl (v_move rfl rfl) ?_
        refine o_q _ rfl rfl rfl (v_extract rfl rfl rfl) ?_
        refine o_q _ rfl rfl rfl (v_extract rfl rfl rfl) ?_
        refine o_q _ rfl rfl rfl (v_extract rfl rfl rfl) ?_
        refine o_q _ rfl rfl rfl (v_assign rfl rfl) ?_
        refine o_q _ rfl rfl rfl (v_assign rfl rfl) ?_
        refine o_q _ rfl rfl rfl (v_assign rfl rfl) ?_
        refine o_nil ?_
        with_reducible refine r_then ?_
        refine r_seq ?_
        refine r_region ?_
        refine o_q _ rfl rfl rfl (v_move rfl rfl) ?_
        refine o_q _ rfl rfl rfl (v_move rfl rfl) ?_
        refine o_q _ rfl rfl rfl (v_true (v_eql rfl rfl rfl) (by omega)) ?_
        all_goals
          refine o_q _ rfl rfl rfl (v_move rfl rfl) ?_
          refine o_g _ rfl rfl rfl rfl (v_move rfl rfl) ?_
          refine o_g _ rfl rfl rfl rfl (v_move rfl rfl) ?_
          refine o_g _ rfl rfl rfl rfl (v_cast (v := .bool true) (OpQ.fn (Plans_v (bestP F).2.1 (bestP F).2.1 lo l2 lc c2 (by omega) (by omega)) rfl rfl SubRC.sub) (congrArg Value.bool (decide_eq_true rfl))) ?_
          refine o_q _ rfl rfl rfl (v_pick_t rfl rfl rfl) ?_
          refine o_q _ rfl rfl rfl (v_move rfl rfl) ?_
          refine o_g _ rfl rfl rfl rfl (v_move rfl rfl) ?_
          refine o_g _ rfl rfl rfl rfl (v_move rfl rfl) ?_
          refine o_g _ rfl rfl rfl rfl (v_true (v_eql rfl rfl rfl) (by omega)) ?_
          all_goals
            refine o_q _ rfl rfl rfl (v_pick_t rfl rfl rfl) ?_
            refine o_q _ rfl rfl rfl (v_move rfl rfl) ?_
            refine o_g _ rfl rfl rfl rfl (v_move rfl rfl) ?_
            refine o_g _ rfl rfl rfl rfl (v_move rfl rfl) ?_
            refine o_g _ rfl rfl rfl rfl (v_true (v_eql rfl rfl rfl) (by omega)) ?_
            all_goals
              refine o_q _ rfl rfl rfl (v_pick_t rfl rfl rfl) ?_
              refine o_q _ rfl rfl rfl (v_move rfl rfl) ?_
              refine o_g _ rfl rfl rfl rfl (v_move rfl rfl) ?_
              refine o_g _ rfl rfl rfl rfl (v_move rfl rfl) ?_
              refine o_g _ rfl rfl rfl rfl (v_true (v_eql rfl rfl rfl) (by omega)) ?_
              all_goals
                refine o_q _ rfl rfl rfl (v_pick_t rfl rfl rfl) ?_
                refine o_q _ rfl rfl rfl (v_move rfl rfl) ?_
                refine o_g _ rfl rfl rfl rfl (v_move rfl rfl) ?_
                refine o_g _ rfl rfl rfl rfl (v_move rfl rfl) ?_
                refine o_g _ rfl rfl rfl rfl (v_true (v_eql rfl rfl rfl) (by omega)) ?_
                all_goals
                  refine o_q _ rfl rfl rfl (v_pick_t rfl rfl rfl) ?_
                  refine o_q _ rfl rfl rfl (v_move rfl rfl) ?_
                  refine o_g _ rfl rfl rfl rfl (OpQ.fn awake_v rfl rfl SubRC.sub) ?_
                  refine o_q _ rfl rfl rfl (v_pick_t rfl rfl rfl) ?_
                  refine o_q _ rfl rfl rfl (v_assign rfl rfl) ?_
                  refine o_nil ?_
                  with_reducible refine r_then ?_
                  refine r_ret ?_
                  exact r_retv2 (Rd.tmp rfl rfl) rfl SelMC.sel SubRC.sub
end Go.Proofs.Ytienjlmnakbfmaa


namespace Go.G
open Go.ChangeShapes Go.RowKit Go.Deep
section
variable {H : Type} {en : TypeId × Value → H} {P : Program} {w : World} {base : Nat} {sp : Nat → Bool} {held : Bool}
theorem mapM_at {α β : Type} {f : α → Option β} : ∀ {l : List α} {r : List β}, l.mapM f = some r → r.length = l.length ∧ ∀ (j : Nat) (x : α), l[j]? = some x → f x = r[j]?
  | [], r, h => by
    simp at h; subst h; simp
  | a :: l, r, h => by
    rw [List.mapM_cons] at h
    simp only [bind, Option.bind_eq_some_iff, pure, Option.some.injEq] at h
    obtain ⟨b, hb, bs, hbs, rfl⟩ := h
    obtain ⟨h1, h2⟩ := mapM_at hbs
    refine ⟨by simp [h1], fun j x hj => ?_⟩
    cases j with
    | zero => simp at hj; subst hj; simpa using hb
    | succ j => simpa using h2 j x (by simpa using hj)
theorem cells_at {a : Addr} {n : Nat} {cs : List Value} (h : w.cells? base a n = some cs) : cs.length = n ∧ ∀ j, j < n → w.cell? (a.add j) = cs[j]? := by
  unfold World.cells? at h
  split at h
  · obtain ⟨h1, h2⟩ := mapM_at h
    exact ⟨by simpa using h1, fun j hj => h2 j j (by simp [hj])⟩
  · cases h
/-- A slice of things of one kind is a row that is known. -/
theorem open_rowD {α : Type} [Inhabited α] {enc : α → List Value} {sz : Nat} (ok : α → Prop) {t e : TypeId} {fuel : Nat} {cs : List Value} {x : DataW H × List MemPlace} (ht : P.underlying t = some (.slice e)) (hc : P.cellsOf e = sz) (hpos : 0 < sz)
    (hel : ∀ fuel cs x, DataW.trod en P w base sp held fuel e cs = some x → ∃ y : α, cs = enc y ∧ ok y) (h : DataW.trod en P w base sp held fuel t cs = some x) :
    ∃ (oa : Option Addr) (cap : Nat) (xs : List α), cs = [.slice oa xs.length cap] ∧ rowD oa sz enc xs (full w) ∧ (∀ y ∈ xs, ok y) ∧ xs.length ≤ maxLen := by
  rcases open_slice ht h with ⟨rfl, _⟩ | ⟨a, len, cap, m, n, D, Pl, rfl, _, hlc, hcm, hm, _, hall⟩
  · exact ⟨none, 0, [], rfl, .inl rfl, by simp, Nat.zero_le _⟩
  · have hle : len ≤ m := by rw [hm]; split <;> omega
    have hch : ∀ i, i < len → ∃ y : α, w.cells? base (a.add (i * sz)) sz = some (enc y) ∧ ok y := by
      intro i hi
      obtain ⟨cs', h1, h2⟩ := hall i (by omega)
      obtain ⟨y, rfl, hy⟩ := hel _ _ _ h2
      rw [hc] at h1
      exact ⟨y, h1, hy⟩
    obtain ⟨f, hf⟩ := choose_lt hch
    refine ⟨some a, cap, (List.range len).map f, by simp, ?_, ?_, by simp; omega⟩
    · by_cases h0 : len = 0
      · subst h0; exact .inl rfl
      · obtain ⟨c1, c2⟩ := cells_at (hf 0 (by omega)).1
        have hz := c2 0 hpos
        have hsome : ∃ v, w.cell? ((a.add (0 * sz)).add 0) = some v := ⟨(enc (f 0))[0]'(by omega), by rw [hz]; simp [show 0 < (enc (f 0)).length from by omega]⟩
        obtain ⟨v, hv⟩ := hsome
        have ha0 : (a.add (0 * sz)).add 0 = a := by simp [Addr.add]
        rw [ha0] at hv
        unfold World.cell? at hv
        split at hv
        · rename_i C T fr hb
          split at hv
          · cases hv
          · rename_i hs
            obtain ⟨b, off, spot⟩ := a
            have hsp : spot = none := by cases spot <;> simp_all
            subst hsp
            refine .inr ⟨b, off, C, T, fr, rfl, hb, fun i j hi hj => ?_⟩
            have hi' : i < len := by simpa using hi
            obtain ⟨_, d2⟩ := cells_at (hf i hi').1
            have := d2 j hj
            rw [add_at, add_at] at this
            rw [cell_of_row w b _ C T fr hb] at this
            rw [this]
            simp
        · cases hv
    · intro y hy
      obtain ⟨i, hi, rfl⟩ := List.mem_map.1 hy
      exact (hf i (by simpa using hi)).2
theorem open_i {t : TypeId} {k : IntKind} {fuel : Nat} {cs : List Value} {x : DataW H × List MemPlace} (ht : P.underlying t = some (.int k)) (h : DataW.trod en P w base sp held fuel t cs = some x) : ∃ n, cs = [.int k n] ∧ (Lit.int k n).wf = true := by
  obtain ⟨n, h1, _, h2⟩ := DataW.trod_int ht h
  exact ⟨n, h1, h2⟩
/-- A struct's field. -/
theorem open_field {t : TypeId} {fs : Array Field} {fuel : Nat} {cs : List Value} {x : DataW H × List MemPlace} (ht : P.underlying t = some (.struct fs)) (h : DataW.trod en P w base sp held fuel t cs = some x) (i : Nat) {f : Field} (hf : fs[i]? = some f) {n : Nat} (hn : P.cellsOf f.type = n) :
    ∃ fuel' y, DataW.trod en P w base sp held fuel' f.type ((cs.drop f.offset).take n) = some y := by
  obtain ⟨xs, m, _, _, _, hl, hall⟩ := DataW.trod_struct ht h
  have hi : i < xs.length := by rw [hl]; exact (Array.getElem?_eq_some_iff.1 hf).1
  have := hall i f hf
  rw [hn, List.getElem?_eq_getElem hi] at this
  exact ⟨m, _, this⟩
theorem open_len {t : TypeId} {fs : Array Field} {fuel : Nat} {cs : List Value} {x : DataW H × List MemPlace} (ht : P.underlying t = some (.struct fs)) (h : DataW.trod en P w base sp held fuel t cs = some x) : cs.length = P.cellsOf t := (DataW.trod_struct ht h).choose_spec.choose_spec.2.2.1
theorem open_lenA {t e : TypeId} {k : Nat} {fuel : Nat} {cs : List Value} {x : DataW H × List MemPlace} (ht : P.underlying t = some (.array k e)) (h : DataW.trod en P w base sp held fuel t cs = some x) : cs.length = P.cellsOf t := (DataW.trod_array ht h).choose_spec.choose_spec.2.2.1
theorem open_item {t e : TypeId} {k : Nat} {fuel : Nat} {cs : List Value} {x : DataW H × List MemPlace} (ht : P.underlying t = some (.array k e)) (h : DataW.trod en P w base sp held fuel t cs = some x) (i : Nat) (hi : i < k) {n : Nat} (hn : P.cellsOf e = n) :
    ∃ fuel' y, DataW.trod en P w base sp held fuel' e ((cs.drop (i * n)).take n) = some y := by
  obtain ⟨xs, m, _, _, _, hl, hall⟩ := DataW.trod_array ht h
  have := hall i hi
  rw [hn, List.getElem?_eq_getElem (by omega)] at this
  exact ⟨m, _, this⟩
end

/-! ### what stands before is kept -/
def keepF (W : World) : Fact := fun V => ∀ b o, W.heap[b]? = some o → V b = some o
theorem vw_nil (w : World) : vw [] w = full w := by funext b; simp [vw, full]
theorem St.start (W : World) {R : List Fact} (h : ∀ φ ∈ R, Mono φ ∧ φ (full W)) : St W [] R W := by
  refine ⟨rfl, rfl, rfl, [], rfl, ⟨by simp [keys], by simp⟩, fun φ hφ => ?_⟩
  obtain ⟨hm, hv⟩ := h φ hφ
  rw [vw_nil]
  exact fun V' hl => hm _ _ hv hl
theorem Mono.keep (W : World) : Mono (keepF W) := fun _ _ h hl b o ho => hl _ _ (h b o ho)
theorem keepF_self (W : World) : keepF W (full W) := fun _ _ h => h
theorem below_of {W w' : World} {M : List Res} {R : List Fact} (h : St W M (R ++ [keepF W]) w') : Below W.heap.size W w' := by
  have hk : keepF W (full w') := h.fact (List.mem_append_right _ (by simp))
  have hb : ∀ k, k < W.heap.size → w'.heap[k]? = W.heap[k]? := fun k hk' => by
    have e : W.heap[k]? = some W.heap[k] := by simp [hk']
    rw [e]; exact hk k _ e
  refine ⟨h.os, h.tape, h.output, ?_, hb⟩
  rcases Nat.eq_zero_or_pos W.heap.size with h0 | h0
  · omega
  · have := hb (W.heap.size - 1) (by omega)
    rw [show W.heap[W.heap.size - 1]? = some W.heap[W.heap.size - 1] from by simp [h0]] at this
    have := (Array.getElem?_eq_some_iff.1 this).1
    omega
/-- The call of what a contract speaks of. -/
theorem FnV.law {P : Program} {k : FuncId} {args : List Value} {R : List Fact} {v : Value} (h : FnV P k args R v) (W : World) (hR : ∀ φ ∈ R, Mono φ ∧ φ (full W)) : Calls P k args.toArray W fun e w' => e = .returned v ∧ Below W.heap.size W w' := by
  have hs : St W [] (R ++ [keepF W]) W := St.start W (fun φ hφ => by
    rcases List.mem_append.1 hφ with h1 | h1
    · exact hR φ h1
    · have : φ = keepF W := by simpa using h1
      subst this
      exact ⟨Mono.keep W, keepF_self W⟩)
  exact (h.calls W [] [keepF W] W hs).mono fun e w' ⟨he, hw⟩ => ⟨he, below_of hw⟩

/-! ### a law's end -/
section
variable {H : Type} {en : TypeId × Value → H} {P : Program}
theorem trodAll_stays (hl : laidOutB P = true) {W W' : World} (hb : Below W.heap.size W W') : ∀ {ts : List TypeId} {vs : List Value} {ds : List (DataW H)} {ps : List MemPlace}, (ts.all fun t => P.readableRec t && Nat.blt t P.types.size) = true →
    DataW.TrodAll en P W 0 (fun _ => true) true ts vs ds ps → (∀ p ∈ ps, p.block < W.heap.size) → ∀ sp : Nat → Bool, (∀ p ∈ ps, sp p.block = true) → DataW.TrodAll en P W' 0 sp true ts vs ds ps
  | [], vs, ds, ps, _, h, _, sp, _ => by
    obtain ⟨rfl, rfl, rfl⟩ := trodAll_nil h
    exact rfl
  | t :: ts, vs, ds, ps, ht, h, hp, sp, hsp => by
    obtain ⟨v, vs', d, ds', p, q, rfl, rfl, rfl, h1, h2⟩ := trodAll_cons h
    simp only [List.all_cons, Bool.and_eq_true] at ht
    refine ⟨p, q, ?_, trodAll_stays hl hb ht.2 h2 (fun x hx => hp x (List.mem_append_right _ hx)) sp (fun x hx => hsp x (List.mem_append_right _ hx)), rfl⟩
    exact WideElems.Trod_stays hl ht.1.1 (by simpa using ht.1.2) h1 (fun x hx => hb.same (hp x (List.mem_append_left _ hx))) (fun x hx => hsp x (List.mem_append_left _ hx))
theorem post_of_below {f : Func} {s : ChangeSpec} {W W' : World} {args : Array Value} {ds gs : List (DataW H)} {before : List MemPlace} {tb : TypeId}
    (hW : DataW.Whole en P f.params.toList s.vars false W args.toList ds gs before) (hv : s.vars = []) (hl : laidOutB P = true) (hts : (f.params.toList.all fun t => P.readableRec t && Nat.blt t P.types.size) = true)
    (hr : f.resultTypes = #[tb]) (hb : P.underlying tb = some .bool) (hs : s.fn H ds = { results := [.lit (.bool true)], args := ds, vars := [] }) (hbl : Below W.heap.size W W') : s.post en P f false true false false W args (.bool true) W' := by
  have hW0 := hW
  obtain ⟨p, q, hA, hV, hpq, hz, hn⟩ := hW
  rw [hv] at hV
  obtain ⟨rfl, rfl⟩ := trodVars_none hV
  have hbe : before = p := by simpa using hpq
  subst hbe
  have hlt : ∀ x ∈ before, x.block < W.heap.size := hW0.lt
  have hargs : ∀ sp : Nat → Bool, (∀ x ∈ before, sp x.block = true) → DataW.TrodAll en P W' 0 sp true f.params.toList args.toList ds before := fun sp hsp => trodAll_stays hl hbl hts hA hlt sp hsp
  have hres : ∀ (b : Nat) (sp : Nat → Bool) (hd : Bool), DataW.TrodAll en P W' b sp hd f.resultTypes.toList ((Value.bool true).resultList f.resultTypes.size) [.lit (.bool true)] [] := by
    intro b sp hd
    rw [hr]
    exact trodAll_mk1 (shut_bool hb true)
  have hs' : s.fn H (ds ++ []) = { results := [.lit (.bool true)], args := ds, vars := [] } := by rw [List.append_nil]; exact hs
  have hold : ∀ x ∈ before, (fun b => decide (b < W.heap.size)) x.block = true := fun x hx => by simpa using hlt x hx
  have hargs' : ∀ sp : Nat → Bool, (∀ x ∈ before, sp x.block = true) → DataW.TrodAll en P W' 0 sp true f.params.toList args.toList (s.fn H (ds ++ [])).args before := by rw [hs']; exact hargs
  have hres' : ∀ (b : Nat) (sp : Nat → Bool) (hd : Bool), DataW.TrodAll en P W' b sp hd f.resultTypes.toList ((Value.bool true).resultList f.resultTypes.size) (s.fn H (ds ++ [])).results [] := by rw [hs']; exact hres
  have hvars' : ∀ sp : Nat → Bool, DataW.TrodVars en P W' sp s.vars (s.fn H (ds ++ [])).vars [] := by intro sp; rw [hs', hv]; rfl
  refine ⟨ds, [], before, [], before, [], hW0, hres' _ _ _, hargs' _ hold, hvars' _, hbl.frame _, fun _ => ?_⟩
  refine ⟨ok_one hr rfl (okWide_bool_mk hb true), _, _, ([] ++ before) ++ [], ⟨[] ++ before, [], trodAll_append (hargs' _ (fun _ _ => rfl)) (hres' _ _ _), hvars' _, rfl, ?_, ?_⟩, ?_⟩
  · intro b off hp
    rw [hbl.frozen (hlt _ (by simpa using hp))]
    exact hz b off (by simpa using hp)
  · intro ha; cases ha
  · intro x hx _
    simpa using hx
end
end Go.G


namespace Go.Proofs.Ytienjlmnakbfmaa
open Go.G Foot4
set_option maxRecDepth 1000000
section
variable {H : Type} {en : TypeId × Value → H} {w : World} {base : Nat} {sp : Nat → Bool} {held : Bool} {fuel : Nat} {cs : List Value} {x : DataW H × List MemPlace}
theorem cells22 : Try.prog.cellsOf 22 = 1 := by kernel_rfl
theorem cells23 : Try.prog.cellsOf 23 = 3 := by kernel_rfl
theorem cells24 : Try.prog.cellsOf 24 = 1 := by kernel_rfl
theorem cells26 : Try.prog.cellsOf 26 = 9 := by kernel_rfl
theorem cells31 : Try.prog.cellsOf 31 = 2 := by kernel_rfl
theorem cells73 : Try.prog.cellsOf 73 = 3 := by kernel_rfl
theorem cellsI : Try.prog.cellsOf 3 = 1 := by kernel_rfl
theorem open3 (h : DataW.trod en Try.prog w base sp held fuel 3 cs = some x) : ∃ n, cs = [i64 n] := by
  obtain ⟨n, h1, _⟩ := open_i Try.underlying3 h
  exact ⟨n, h1⟩
theorem list2 {cs : List Value} (h : cs.length = 2) : ∃ a b, cs = [a, b] := by
  match cs, h with
  | [a, b], _ => exact ⟨a, b, rfl⟩
theorem list3 {cs : List Value} (h : cs.length = 3) : ∃ a b c, cs = [a, b, c] := by
  match cs, h with
  | [a, b, c], _ => exact ⟨a, b, c, rfl⟩
theorem list9 {cs : List Value} (h : cs.length = 9) : ∃ a b c d e f g i j, cs = [a, b, c, d, e, f, g, i, j] := by
  match cs, h with
  | [a, b, c, d, e, f, g, i, j], _ => exact ⟨a, b, c, d, e, f, g, i, j, rfl⟩
theorem open31 (h : DataW.trod en Try.prog w base sp held fuel 31 cs = some x) : ∃ s : Span, cs = encS s ∧ True := by
  obtain ⟨a, b, rfl⟩ := list2 ((open_len Try.underlying31 h).trans cells31)
  obtain ⟨_, _, h0⟩ := open_field Try.underlying31 h 0 rfl cellsI
  obtain ⟨_, _, h1⟩ := open_field Try.underlying31 h 1 rfl cellsI
  obtain ⟨n, e0⟩ := open3 h0
  obtain ⟨m, e1⟩ := open3 h1
  have e0' : [a] = [i64 n] := e0
  have e1' : [b] = [i64 m] := e1
  cases e0'; cases e1'
  exact ⟨⟨n, m⟩, rfl, trivial⟩
theorem open3a {t : TypeId} {e : TypeInfo} (ht : Try.prog.underlying t = some (.array 3 3)) (hc : Try.prog.cellsOf t = 3) (h : DataW.trod en Try.prog w base sp held fuel t cs = some x) : ∃ s : T3, cs = encT s ∧ True := by
  obtain ⟨a, b, c, rfl⟩ := list3 ((open_lenA ht h).trans hc)
  obtain ⟨_, _, h0⟩ := open_item ht h 0 (by omega) cellsI
  obtain ⟨_, _, h1⟩ := open_item ht h 1 (by omega) cellsI
  obtain ⟨_, _, h2⟩ := open_item ht h 2 (by omega) cellsI
  obtain ⟨n, e0⟩ := open3 h0
  obtain ⟨m, e1⟩ := open3 h1
  obtain ⟨k, e2⟩ := open3 h2
  have e0' : [a] = [i64 n] := e0
  have e1' : [b] = [i64 m] := e1
  have e2' : [c] = [i64 k] := e2
  cases e0'; cases e1'; cases e2'
  exact ⟨⟨n, m, k⟩, rfl, trivial⟩
theorem open73 (h : DataW.trod en Try.prog w base sp held fuel 73 cs = some x) : ∃ s : Foot4.Heap, cs = encH s ∧ True := by
  obtain ⟨a, b, c, rfl⟩ := list3 ((open_len Try.underlying73 h).trans cells73)
  obtain ⟨_, _, h0⟩ := open_field Try.underlying73 h 0 rfl cells31
  obtain ⟨_, _, h1⟩ := open_field Try.underlying73 h 1 rfl cellsI
  obtain ⟨s, e0, _⟩ := open31 h0
  obtain ⟨n, e1⟩ := open3 h1
  have e0' : [a, b] = [i64 s.lo, i64 s.hi] := e0
  have e1' : [c] = [i64 n] := e1
  cases e0'; cases e1'
  exact ⟨⟨s.lo, s.hi, n⟩, rfl, trivial⟩
theorem open26 (h : DataW.trod en Try.prog w base sp held fuel 26 cs = some x) : ∃ F ro rc ho hc, cs = cellsF F ro rc ho hc ∧ rowD ro 2 encS F.rain (full w) ∧ rowD ho 3 encH F.heaps (full w) := by
  obtain ⟨a, b, c, d, e, f, g, i, j, rfl⟩ := list9 ((open_len Try.underlying26 h).trans cells26)
  obtain ⟨_, _, h0⟩ := open_field Try.underlying26 h 0 rfl cells22
  obtain ⟨_, _, h1⟩ := open_field Try.underlying26 h 1 rfl cellsI
  obtain ⟨_, _, h2⟩ := open_field Try.underlying26 h 2 rfl cells23
  obtain ⟨_, _, h3⟩ := open_field Try.underlying26 h 3 rfl cells23
  obtain ⟨_, _, h4⟩ := open_field Try.underlying26 h 4 rfl cells24
  obtain ⟨ro, rc, rain, e0, r0, _, _⟩ := open_rowD (fun _ : Span => True) Try.underlying22 cells31 (by omega) (fun _ _ _ h => open31 h) h0
  obtain ⟨men, e1⟩ := open3 h1
  obtain ⟨lim, e2, _⟩ := open3a (e := Try.t23) Try.underlying23 cells23 h2
  obtain ⟨dr, e3, _⟩ := open3a (e := Try.t23) Try.underlying23 cells23 h3
  obtain ⟨ho, hc, heaps, e4, r4, _, _⟩ := open_rowD (fun _ : Foot4.Heap => True) Try.underlying24 cells73 (by omega) (fun _ _ _ h => open73 h) h4
  have e0' : [a] = [.slice ro rain.length rc] := e0
  have e1' : [b] = [i64 men] := e1
  have e2' : [c, d, e] = [i64 lim.a, i64 lim.b, i64 lim.c] := e2
  have e3' : [f, g, i] = [i64 dr.a, i64 dr.b, i64 dr.c] := e3
  have e4' : [j] = [.slice ho heaps.length hc] := e4
  cases e0'; cases e1'; cases e2'; cases e3'; cases e4'
  exact ⟨⟨rain, men, lim, dr, heaps⟩, ro, rc, ho, hc, rfl, r0, r4⟩
end
section
variable {H : Type} {en : TypeId × Value → H} {w : World} {base b0 : Nat} {r : Reach} {sp : Nat → Bool} {held : Bool} {v : Value} {d : DataW H} {ps : List MemPlace}
theorem agg_of {t : TypeId} {dd : TypeDesc} (hd : Try.prog.underlying t = some dd) (ha : aggD dd = true) (hv : Value.okWide Try.prog w r b0 t v) : ∃ cs : List Value, v = .agg cs.toArray := by
  unfold Value.okWide at hv
  rw [hd] at hv
  cases dd <;> simp [aggD] at ha
  all_goals
    obtain ⟨cs, rfl, _⟩ := hv
    exact ⟨cs.toList, by simp⟩
theorem get26 (hv : Value.okWide Try.prog w r b0 26 v) (h : DataW.Trod en Try.prog w base sp held 26 v d ps) : ∃ F ro rc ho hc, v = valF F ro rc ho hc ∧ rowD ro 2 encS F.rain (full w) ∧ rowD ho 3 encH F.heaps (full w) := by
  obtain ⟨cs, rfl⟩ := agg_of Try.underlying26 rfl hv
  obtain ⟨fuel, h⟩ := h
  obtain ⟨F, ro, rc, ho, hc, e, h1, h2⟩ := open26 (cs := cs) h
  subst e
  exact ⟨F, ro, rc, ho, hc, rfl, h1, h2⟩
end
theorem own0 : ownKnob Try.prog.godebug = none := by kernel_rfl
theorem monoF {W : World} {F : Work} {ro ho : Option Addr} (h1 : rowD ro 2 encS F.rain (full W)) (h2 : rowD ho 3 encH F.heaps (full W)) : ∀ φ ∈ [rowD ro 2 encS F.rain, rowD ho 3 encH F.heaps], Mono φ ∧ φ (full W) := by
  intro φ hφ
  simp only [List.mem_cons, List.not_mem_nil, or_false] at hφ
  rcases hφ with rfl | rfl
  · exact ⟨Mono.row _ _ _ _, h1⟩
  · exact ⟨Mono.row _ _ _ _, h2⟩
end Go.Proofs.Ytienjlmnakbfmaa


namespace Go.Proofs.Ytienjlmnakbfmaa
open Go.G Foot4
set_option maxRecDepth 1000000
section
variable {H : Type} {en : TypeId × Value → H} {w : World} {base b0 : Nat} {r : Reach} {sp : Nat → Bool} {held : Bool} {v : Value} {d : DataW H} {ps : List MemPlace}
end
end Go.Proofs.Ytienjlmnakbfmaa

