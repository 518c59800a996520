/- Part 4 of 5 of what the proofs of this seat stand on: a small logic for walks, what the functions come to, and the walks themselves. No condition of its own. -/
import Derived.Test.YtienjlmnakbfmaaQ3
import Derived.Test.YtienjlmnakbfmaaQ1
set_option linter.unusedVariables false
set_option linter.unusedSimpArgs false
namespace Foot4
open Go Go.G
/-- As many steps are done, day by day. -/
theorem wet_same {F : Work} {heap n : Nat} {p q : T3} (hadv : ∀ d k : Nat, d < n → k ≤ 3 → (∀ j, j < k → 0 ≤ p.at j ∧ p.at j ≤ d) → ((adv p d k : Nat) : Int) = Done q d) :
    wetF selW F heap p n = worstTo F heap q n ∧ wetF selD F heap p n = bestTo F heap q n := by
  have key : ∀ (sel : Int → Int → Int) (x : Nat → Int) , (x 0 = sel (F.heaps.getD heap default).lo (F.heaps.getD heap default).hi) →
      (∀ d, x (d + 1) = if Done q d < 3 then step (x d) (sel (F.rain.getD d default).lo (F.rain.getD d default).hi) (F.dr.at (Done q d).toNat) else x d) →
      ∀ m, m ≤ n → (wetS sel F heap p m).1 = x m ∧ (wetS sel F heap p m).2 ≤ 3 ∧ (∀ j, j < (wetS sel F heap p m).2 → 0 ≤ p.at j ∧ p.at j ≤ (m : Int) - 1) := by
    intro sel x h0 hs m
    induction m with
    | zero =>
      intro _
      exact ⟨h0.symm, Nat.zero_le _, fun j hj => absurd hj (Nat.not_lt_zero _)⟩
    | succ m ih =>
      intro hm
      obtain ⟨i1, i2, i3⟩ := ih (by omega)
      have ha := hadv m (wetS sel F heap p m).2 (by omega) i2 (fun j hj => by have := i3 j hj; omega)
      have hd : ∀ f k, (∀ j, j < k → 0 ≤ p.at j ∧ p.at j ≤ (m : Int)) → ∀ j, j < advF p m f k → 0 ≤ p.at j ∧ p.at j ≤ (m : Int) := by
        intro f
        induction f with
        | zero => intro k h j hj; exact h j hj
        | succ f ihf =>
          intro k h j hj
          simp only [advF] at hj
          split at hj
          · rename_i hc
            exact ihf (k + 1) (fun j hj => by
              by_cases e : j = k
              · subst e; exact hc
              · exact h j (by omega)) j hj
          · exact h j hj
      have hdone : ∀ j, j < adv p m (wetS sel F heap p m).2 → 0 ≤ p.at j ∧ p.at j ≤ (m : Int) := hd _ _ (fun j hj => by have := i3 j hj; omega)
      have hle := adv_le (p := p) (d := (m : Int)) i2
      simp only [wetS, hs, ← ha]
      by_cases h3 : adv p m (wetS sel F heap p m).2 = 3
      · rw [if_pos h3, if_neg (by omega)]
        refine ⟨i1, Nat.le_refl 3, fun j hj => ?_⟩
        have := hdone j (by rw [h3]; exact hj)
        omega
      · rw [if_neg h3, if_pos (by omega), i1]
        refine ⟨by simp, hle, fun j hj => ?_⟩
        have := hdone j hj
        omega
  exact ⟨(key selW (worstTo F heap q) rfl (fun d => rfl) n (Nat.le_refl n)).1, (key selD (bestTo F heap q) rfl (fun d => rfl) n (Nat.le_refl n)).1⟩
theorem Done_eq {q : T3} {d : Int} : Done q d = (if 0 ≤ q.a ∧ q.a ≤ d then 1 else 0) + (if 0 ≤ q.b ∧ q.b ≤ d then 1 else 0) + (if 0 ≤ q.c ∧ q.c ≤ d then 1 else 0) := by
  simp [Done, doneTo, T3.at]
theorem adv_eq {p : T3} {d : Int} {k : Nat} (hk : k ≤ 3) (h : ∀ j, j < k → 0 ≤ p.at j ∧ p.at j ≤ d) : adv p d k = adv p d 0 := by
  induction k with
  | zero => rfl
  | succ k ih =>
    rw [← ih (by omega) (fun j hj => h j (by omega))]
    exact (adv_go ⟨by omega, h k (by omega)⟩).symm
theorem adv_0 {p : T3} {d : Int} : adv p d 0 = if 0 ≤ p.a ∧ p.a ≤ d then (if 0 ≤ p.b ∧ p.b ≤ d then (if 0 ≤ p.c ∧ p.c ≤ d then 3 else 2) else 1) else 0 := by
  simp [adv, advF, T3.at]
theorem adv_done {A B C : Prop} [Decidable A] [Decidable B] [Decidable C] (h1 : B → A) (h2 : C → B) : ((if A then if B then if C then 3 else 2 else 1 else 0 : Nat) : Int) = (if A then 1 else 0) + (if B then 1 else 0) + (if C then 1 else 0) := by
  by_cases a : A <;> by_cases b : B <;> by_cases c : C <;> simp_all
theorem ord1 {p : T3} : Ordered p 1 ↔ p.b < 0 ∨ (0 ≤ p.a ∧ p.a < p.b) := by simp [Ordered, T3.at]
theorem ord2 {p : T3} : Ordered p 2 ↔ p.c < 0 ∨ (0 ≤ p.b ∧ p.b < p.c) := by simp [Ordered, T3.at]
theorem plan_wet {F : Work} {heap n m : Nat} {p : T3} (h : IsPlan m p) : wetF selW F heap p n = worstTo F heap p n ∧ wetF selD F heap p n = bestTo F heap p n := by
  refine wet_same fun d k _ hk hj => ?_
  rw [adv_eq hk hj, adv_0, Done_eq]
  have h1 := ord1.1 h.2.2.1
  have h2 := ord2.1 h.2.2.2
  exact adv_done (by omega) (by omega)
theorem wetP_eq (F : Work) (x y : Int) (p : T3) : wetP F x p y = wetR F x p y := by
  unfold wetP wetR
  by_cases h : (0 ≤ x ∧ x ≤ (F.heaps.length : Int) - 1) ∧ IsPlan F.rain.length p ∧ (0 ≤ y ∧ y ≤ (F.rain.length : Int))
  · obtain ⟨h1, h2⟩ := plan_wet (F := F) (heap := x.toNat) (n := y.toNat) h.2.1
    rw [h1, h2]
  · have := chk_false F
    simp only [h, decide_false, if_neg this]
theorem can_ok {F : Work} {heap m : Nat} {p : T3} (h : IsPlan m p) (k : Nat) : (canF selW F heap p k ↔ okStep F worstTo heap p k) ∧ (canF selD F heap p k ↔ okStep F bestTo heap p k) := by
  obtain ⟨h1, h2⟩ := plan_wet (F := F) (heap := heap) (n := (p.at k).toNat) h
  unfold canF okStep
  rw [h1, h2]
  exact ⟨Iff.rfl, Iff.rfl⟩
theorem kept_ok {F : Work} {heap m : Nat} {p : T3} (h : IsPlan m p) : keptP F heap p = keptR F heap p := by
  unfold keptP keptR keptF
  simp only [(can_ok h 0).1, (can_ok h 1).1, (can_ok h 2).1, (can_ok h 0).2, (can_ok h 1).2, (can_ok h 2).2]
theorem canP_eq (F : Work) (x : Int) (p : T3) : canP F x p = canR F x p := by
  unfold canP canR
  by_cases h : (0 ≤ x ∧ x ≤ (F.heaps.length : Int) - 1) ∧ IsPlan F.rain.length p
  · rw [kept_ok h.2]
  · have := chk_false F
    simp only [h, decide_false, if_neg this]
theorem whole_plan {n : Nat} {p : T3} (h : p ∈ whole n) : IsPlan n p := by
  obtain ⟨a, b, c, rfl, h1, h2, h3⟩ := whole_mem h
  refine ⟨fun k hk => ?_, .inr (.inl rfl), ord1.2 (.inr ⟨?_, ?_⟩), ord2.2 (.inr ⟨?_, ?_⟩)⟩
  · have := whole_days h k hk; omega
  · show (0 : Int) ≤ a; omega
  · show (a : Int) < b; omega
  · show (0 : Int) ≤ b; omega
  · show (b : Int) < c; omega
theorem sure_eq (F : Work) (heap : Nat) : sureF selW F heap = sureR F heap := by
  unfold sureF sureR
  refine List.filter_congr fun p hp => ?_
  unfold keptB
  rw [decide_eq_decide]
  rw [← kept_ok (whole_plan hp)]
  unfold keptP
  split
  · simp_all
  · split <;> simp_all
theorem soonP_eq (F : Work) (x : Int) : soonP F x = soonR F x := by
  unfold soonP soonR
  rw [sure_eq]
/-! ### the driest truth is no wetter -/
theorem dry_le {F : Work} (hg : GoodF F) (heap : Nat) (p : T3) (hh : heap < F.heaps.length) : ∀ d, d ≤ F.rain.length → bestTo F heap p d ≤ worstTo F heap p d
  | 0, _ => (hg.2.2.2.2.2 heap hh).1.2.1
  | d + 1, hd => by
    have ih := dry_le hg heap p hh d (by omega)
    have hr := (hg.2.2.2.1 d (by omega)).2.1
    simp only [bestTo, worstTo]
    split
    · unfold step; omega
    · exact ih
theorem kept_down {F : Work} (hg : GoodF F) {heap : Nat} {p : T3} (hh : heap < F.heaps.length) (hp : IsPlan F.rain.length p) (h : keptF selW F heap p) : keptF selD F heap p := by
  have key : ∀ k, k < 3 → canF selW F heap p k → canF selD F heap p k := by
    intro k hk hc
    rw [(can_ok hp k).1] at hc
    rw [(can_ok hp k).2]
    rcases hc with h0 | h0
    · exact .inl h0
    · have := dry_le hg heap p hh (p.at k).toNat (by have := hp.1 k hk; omega)
      exact .inr (by omega)
  exact ⟨key 0 (by omega) h.1, key 1 (by omega) h.2.1, key 2 (by omega) h.2.2⟩
theorem sureD_iff {F : Work} (hg : GoodF F) {h : Nat} (hh : h < F.heaps.length) : sureQ selD F h = canRQ F h := by
  unfold sureQ canRQ
  rw [decide_eq_decide]
  have hk : ∀ p ∈ whole F.rain.length, keptF selD F h p ↔ ¬ keptR F h p = 0 := by
    intro p hp
    have hpl := whole_plan hp
    rw [← kept_ok hpl]
    unfold keptP
    by_cases h1 : keptF selW F h p
    · have := kept_down hg hh hpl h1
      simp [h1, this]
    · by_cases h2 : keptF selD F h p <;> simp [h1, h2]
  constructor
  · intro hl
    have hl' : 0 < (sureF selD F h).length := by omega
    obtain ⟨p, hp⟩ := List.exists_mem_of_length_pos hl'
    unfold sureF at hp
    obtain ⟨hm, hb⟩ := List.mem_filter.1 hp
    obtain ⟨j, hj, e⟩ := List.mem_iff_getElem.1 hm
    refine ⟨j, hj, ?_⟩
    have : (whole F.rain.length).getD j default = p := by simp [List.getD_eq_getElem?_getD, hj, e]
    rw [this]
    exact (hk p hm).1 (of_decide_eq_true hb)
  · rintro ⟨j, hj, hx⟩
    have hm : (whole F.rain.length).getD j default ∈ whole F.rain.length := by
      simp [List.getD_eq_getElem?_getD, hj]
    have : (whole F.rain.length).getD j default ∈ sureF selD F h := List.mem_filter.2 ⟨hm, decide_eq_true ((hk _ hm).2 hx)⟩
    have := List.length_pos_of_mem this
    omega
theorem clampB_congr {q q' : Nat → Bool} : ∀ k, (∀ j, j < k → q j = q' j) → clampB q k = clampB q' k
  | 0, _ => rfl
  | k + 1, h => by simp only [clampB, clampB_congr k (fun j hj => h j (by omega)), h k (by omega)]
theorem clampP_eq (F : Work) : clampP F = clampR F := by
  by_cases hg : GoodF F
  · rw [clampP_ok hg, clampR_ok hg, sumP_eq, sumP_eq, clampB_congr (q := sureQ selW F) (q' := sureRQ F) _ (fun j _ => by unfold sureQ sureRQ; rw [sure_eq]), clampB_congr _ (fun j hj => sureD_iff hg hj)]
  · rw [clampP_bad hg, clampR_bad (chk_ne hg)]
/-! ### what is wrong with plans -/
theorem withTo_at {B : List Int} {p : T3} {d : Int} (hB : B.length = 8) (hd : 0 ≤ d ∧ d ≤ 7) (hp : ∀ k, k < 3 → p.at k ≤ 7) : ∀ k, k ≤ 3 → (withTo B p k).getD d.toNat 0 = B.getD d.toNat 0 + cnt p d k
  | 0, _ => by simp [withTo, cnt]
  | k + 1, hk => by
    have ih := withTo_at hB hd hp k (by omega)
    have hl := withTo_len B p k
    have h7 := hp k (by omega)
    simp only [withTo, cnt]
    by_cases h0 : 0 ≤ p.at k
    · rw [if_pos h0]
      by_cases e : p.at k = d
      · rw [if_pos e, e]
        simp only [List.getD_eq_getElem?_getD]
        rw [List.getElem?_set_self (by omega)]
        simp only [List.getD_eq_getElem?_getD] at ih
        simp only [Option.getD_some]
        rw [ih]; omega
      · rw [if_neg e]
        simp only [List.getD_eq_getElem?_getD]
        rw [List.getElem?_set_ne (by omega)]
        simp only [List.getD_eq_getElem?_getD] at ih
        rw [ih]; omega
    · rw [if_neg h0, if_neg (by omega), ih]; omega
theorem busy_at {l : List T3} {d : Int} (hd : 0 ≤ d ∧ d ≤ 7) : ∀ h, (∀ j, j < h → ∀ k, k < 3 → (l.getD j default).at k ≤ 7) → (busyTo l h).getD d.toNat 0 = befH l d h
  | 0, _ => by
    simp only [busyTo, befH]
    have : d.toNat = 0 ∨ d.toNat = 1 ∨ d.toNat = 2 ∨ d.toNat = 3 ∨ d.toNat = 4 ∨ d.toNat = 5 ∨ d.toNat = 6 ∨ d.toNat = 7 := by omega
    rcases this with e | e | e | e | e | e | e | e <;> rw [e] <;> rfl
  | h + 1, hl => by
    simp only [busyTo, befH, with_]
    rw [withTo_at (busyTo_len l h) hd (hl h (by omega)) 3 (by omega), busy_at hd h (fun j hj => hl j (by omega))]
theorem pre_wet {F : Work} {heap : Nat} {p : T3} {i : Nat} (hi : i < 3) (h0 : 0 ≤ p.at i) (ho : ∀ j, j ≤ i → Ordered p j) : wetF selW F heap p (p.at i).toNat = worstTo F heap (upToP p i) (p.at i).toNat := by
  refine (wet_same fun d k hd hk hj => ?_).1
  rw [adv_eq hk hj, adv_0, Done_eq]
  obtain rfl | rfl | rfl : i = 0 ∨ i = 1 ∨ i = 2 := by omega
  · have e : p.at 0 = p.a := rfl
    rw [e] at hd h0
    have hA : ¬ (0 ≤ p.a ∧ p.a ≤ (d : Int)) := by omega
    show _ = (if 0 ≤ p.a ∧ p.a ≤ (d : Int) then (1 : Int) else 0) + (if (0 : Int) ≤ -1 ∧ (-1 : Int) ≤ d then 1 else 0) + (if (0 : Int) ≤ -1 ∧ (-1 : Int) ≤ d then 1 else 0)
    rw [if_neg hA, if_neg hA, if_neg (by omega)]
    rfl
  · have e : p.at 1 = p.b := rfl
    rw [e] at hd h0
    have h1 := ord1.1 (ho 1 (by omega))
    have hB : ¬ (0 ≤ p.b ∧ p.b ≤ (d : Int)) := by omega
    show _ = (if 0 ≤ p.a ∧ p.a ≤ (d : Int) then (1 : Int) else 0) + (if 0 ≤ p.b ∧ p.b ≤ (d : Int) then 1 else 0) + (if (0 : Int) ≤ -1 ∧ (-1 : Int) ≤ d then 1 else 0)
    rw [if_neg hB, if_neg hB, if_neg (show ¬ ((0 : Int) ≤ -1 ∧ (-1 : Int) ≤ d) by omega)]
    split <;> rfl
  · have e : p.at 2 = p.c := rfl
    rw [e] at hd h0
    have h1 := ord1.1 (ho 1 (by omega))
    have h2 := ord2.1 (ho 2 (by omega))
    show _ = (if 0 ≤ p.a ∧ p.a ≤ (d : Int) then (1 : Int) else 0) + (if 0 ≤ p.b ∧ p.b ≤ (d : Int) then 1 else 0) + (if 0 ≤ p.c ∧ p.c ≤ (d : Int) then 1 else 0)
    exact adv_done (by omega) (by omega)
theorem rule_eq {F : Work} {l : List T3} (hg : GoodF F) (hl : ListOk F l) {h i : Nat} (hh : h < l.length) (hi : i < 3) (hz : ∀ j, j < i → ruleP F l h j = 0) : ruleP F l h i = ruleR F l F.men h i := by
  have hd := hl.2 h hh
  have hn := hg.bnd.len
  unfold ruleP ruleR
  by_cases h0 : (l.getD h default).at i < 0
  · rw [if_pos h0, if_pos h0]
  rw [if_neg h0, if_neg h0]
  by_cases h1' : ¬ Ordered (l.getD h default) i
  · rw [if_pos h1', if_pos h1']
  have h1 := Classical.not_not.1 h1'
  rw [if_neg h1', if_neg h1']
  have hord : ∀ m, m ≤ i → ∀ j, i - m ≤ j → j ≤ i → Ordered (l.getD h default) j ∧ 0 ≤ (l.getD h default).at j := by
    intro m
    induction m with
    | zero => intro _ j hj hji; obtain rfl : j = i := by omega
              exact ⟨h1, by omega⟩
    | succ m ih =>
      intro hm j hj hji
      by_cases e : i - m ≤ j
      · exact ih (by omega) j e hji
      · obtain ⟨o1, o2⟩ := ih (by omega) (j + 1) (by omega) (by omega)
        have hjp : 0 ≤ (l.getD h default).at j := by
          rcases o1 with x | x | x
          · omega
          · omega
          · exact x.1
        refine ⟨?_, hjp⟩
        have hr := hz j (by omega)
        unfold ruleP at hr
        rw [if_neg (by omega)] at hr
        by_cases ho : Ordered (l.getD h default) j
        · exact ho
        · rw [if_pos ho] at hr; exact absurd hr (by decide)
  have hcan : canF selW F h (l.getD h default) i ↔ okStep F worstTo h (upToP (l.getD h default) i) i := by
    unfold canF okStep
    rw [upTo_at hi i hi, if_pos (Nat.le_refl i), pre_wet hi (by omega) (fun j hj => (hord i (Nat.le_refl i) j (by omega) hj).1)]
  have hb := busy_at (l := l) (d := (l.getD h default).at i) ⟨by omega, by have := hd i hi; omega⟩ h (fun j hj k hk => by have := hl.2 j (by omega) k hk; omega)
  simp only [hcan, hb]
theorem First_congr {r s : Nat → Nat → Int} {n : Nat} (h : ∀ h i, h < n → i < 3 → (∀ j, j < i → r h j = 0) → r h i = s h i) {x : Int × Int × Int × Int} (hf : First r n x) : First s n x := by
  have key : ∀ h, h < n → ∀ i, i ≤ 3 → (∀ j, j < i → r h j = 0) → ∀ j, j < i → s h j = 0 := by
    intro hp hh i hi hz j hj
    rw [← h hp j hh (by omega) (fun k hk => hz k (by omega))]
    exact hz j hj
  rcases hf with ⟨hp, i, h1, h2, h3, h4, h5, h6⟩ | ⟨h1, h2⟩
  · have e := h hp i h1 h2 h5
    exact .inl ⟨hp, i, h1, h2, e ▸ h3, fun h' hh' i' hi' => key h' (by omega) 3 (by omega) (h4 h' hh') i' hi', fun i' hi' => key hp h1 i (by omega) h5 i' hi', by rw [← e]; exact h6⟩
  · exact .inr ⟨fun hp hh i hi => key hp hh 3 (by omega) (h1 hp hh) i hi, h2⟩
theorem BrokeP_R {F : Work} {l : List T3} {x : Int × Int × Int × Int} (h : BrokeP F l x) : BrokeR F l x := by
  unfold BrokeP at h
  unfold BrokeR
  split
  · rename_i hc
    rw [if_pos hc] at h
    have hc' : ¬ chk F (decide (ListOk F l)) ≠ 0 := fun x => x hc
    exact First_congr (fun hp i hh hi hz => rule_eq (chk_zero hc').1 (ListOk_of hc') hh hi hz) h
  · rename_i hc
    rw [if_neg hc] at h
    exact h
theorem First_uniq {r : Nat → Nat → Int} {n : Nat} {x y : Int × Int × Int × Int} (hx : First r n x) (hy : First r n y) : x = y := by
  rcases hx with ⟨h, i, h1, h2, h3, h4, h5, h6⟩ | ⟨h1, h2⟩
  · rcases hy with ⟨g, j, g1, g2, g3, g4, g5, g6⟩ | ⟨g1, g2⟩
    · have eh : h = g := by
        rcases Nat.lt_trichotomy h g with e | e | e
        · exact absurd (g4 h e i h2) h3
        · exact e
        · exact absurd (h4 g e j g2) g3
      subst eh
      have ei : i = j := by
        rcases Nat.lt_trichotomy i j with e | e | e
        · exact absurd (g5 i e) h3
        · exact e
        · exact absurd (h5 j e) g3
      subst ei
      rw [h6, g6]
    · exact absurd (g1 h h1 i h2) h3
  · rcases hy with ⟨g, j, g1, g2, g3, g4, g5, g6⟩ | ⟨g1, g2⟩
    · exact absurd (h1 g g1 j g2) g3
    · rw [h2, g2]
theorem BrokeR_uniq {F : Work} {l : List T3} {x y : Int × Int × Int × Int} (hx : BrokeR F l x) (hy : BrokeR F l y) : x = y := by
  unfold BrokeR at hx hy
  split at hx
  · rename_i hc
    rw [if_pos hc] at hy
    exact First_uniq hx hy
  · rename_i hc
    rw [if_neg hc] at hy
    rw [hx, hy]
end Foot4

namespace Foot4
open Go Go.G
@[reducible] def sampleF (men : Int) : Work := ⟨[⟨0, 2⟩, ⟨1, 3⟩, ⟨0, 0⟩, ⟨0, 4⟩, ⟨0, 1⟩, ⟨0, 2⟩], men, ⟨12, 8, 4⟩, ⟨2, 3, 4⟩, [⟨8, 11, 100⟩, ⟨10, 10, 60⟩, ⟨30, 31, 40⟩]⟩
theorem good1 : GoodF (sampleF 1) := by decide +kernel
theorem good2 : GoodF (sampleF 2) := by decide +kernel
theorem smp_wet : wetP (sampleF 1) 0 ⟨0, 3, 5⟩ 3 = (⟨0, 7⟩, 0) := by decide +kernel
theorem smp_can : canP (sampleF 1) 0 ⟨0, 2, 4⟩ = (1, 0) := by decide +kernel
theorem smp_soon : soonP (sampleF 1) 1 = (⟨0, 3, 5⟩, 0) := by decide +kernel
theorem smp_soon2 : soonP (sampleF 1) 2 = (default, 4) := by decide +kernel
theorem smp_clamp : clampP (sampleF 1) = (3, 3, 0) := by decide +kernel
theorem smp_broke {x : Int × Int × Int × Int} (h : BrokeP (sampleF 1) [⟨0, 3, 5⟩, ⟨0, 3, 5⟩, ⟨-1, -1, -1⟩] x) : x = (1, 0, 3, 0) := by
  refine BrokeR_uniq (BrokeP_R h) ?_
  have hl : ListOk (sampleF 1) [⟨0, 3, 5⟩, ⟨0, 3, 5⟩, ⟨-1, -1, -1⟩] := by decide +kernel
  have hr : ruleR (sampleF 1) [⟨0, 3, 5⟩, ⟨0, 3, 5⟩, ⟨-1, -1, -1⟩] 1 1 0 = 3 := by decide +kernel
  have h0 : ∀ h', h' < 1 → ∀ i', i' < 3 → ruleR (sampleF 1) [⟨0, 3, 5⟩, ⟨0, 3, 5⟩, ⟨-1, -1, -1⟩] 1 h' i' = 0 := by decide +kernel
  have := BrokeR_at (h := 1) (i := 0) good1 hl (by show ruleR _ _ 1 1 0 ≠ 0; rw [hr]; decide) (by simp) (by omega) h0 (fun i hi => absurd hi (by omega))
  have e : ruleR (sampleF 1) [⟨0, 3, 5⟩, ⟨0, 3, 5⟩, ⟨-1, -1, -1⟩] (sampleF 1).men 1 0 = 3 := hr
  rw [e] at this
  exact this
theorem smp_best : bestP (sampleF 2) = (160, [⟨0, 3, 5⟩, ⟨0, 3, 5⟩, ⟨-1, -1, -1⟩], 0) := by decide +kernel
theorem smp_men : menP (sampleF 1) = (2, 160, 0) := by decide +kernel
end Foot4

namespace Go.Proofs.Ytienjlmnakbfmaa
open Go.G Foot4
set_option maxRecDepth 1000000
attribute [local irreducible] G.ParO G.Fin
set_option maxHeartbeats 4000000 in
theorem far_v (F : Work) (ro ho : Option Addr) (rc hc : Nat) (lo : Option Addr) (ln lc : Nat) : FnV Try.prog 13 [valF F ro rc ho hc, .slice lo ln lc] [] (.bool (decide (40 < max (max (F.rain.length : Int) F.heaps.length) ln))) := by
  refine FnV.intro Try.call13 Try.func13 rfl Try.ntmps13 rfl ?_
  intro W M Rf
  refine r_seq ?_
  refine r_region ?_
  refine o_boxA rfl rfl rfl rfl rfl (fun b2 => ?_)
  refine o_q _ rfl rfl rfl (v_assign rfl rfl) ?_
  refine o_nil ?_
  with_reducible refine r_then ?_
  refine r_seq ?_
  refine r_region ?_
  refine o_q _ rfl rfl rfl (v_fieldAddr rfl Try.underlying26 inf22 rfl rfl rfl rfl) ?_
  refine o_q _ rfl rfl rfl (v_ld1 rfl Try.underlying22 rfl rfl rfl) ?_
  refine o_q _ rfl rfl rfl (v_len rfl rfl Try.underlying22 rfl) ?_
  refine o_q _ rfl rfl rfl (v_fieldAddr rfl Try.underlying26 inf24 rfl rfl rfl rfl) ?_
  refine o_q _ rfl rfl rfl (v_ld1 rfl Try.underlying24 rfl rfl rfl) ?_
  refine o_q _ rfl rfl rfl (v_len rfl rfl Try.underlying24 rfl) ?_
  refine o_q _ rfl rfl rfl (v_move rfl rfl) ?_
  refine o_q _ rfl rfl rfl (v_len rfl rfl Try.underlying40 rfl) ?_
  refine o_q _ rfl rfl rfl (v_max3 rfl rfl rfl rfl) ?_
  refine o_q _ rfl rfl rfl (v_gtr rfl rfl rfl) ?_
  refine o_q _ rfl rfl rfl (v_assign rfl rfl) ?_
  refine o_nil ?_
  with_reducible refine r_then ?_
  refine r_ret ?_
  exact r_retv2 (Rd.tmp rfl rfl) rfl SelMC.sel SubRC.sub
set_option maxHeartbeats 4000000 in
theorem lspan_v (a b : Int) : FnV Try.prog 42 [i64 a, i64 b] [] (.agg #[i64 a, i64 b]) := by
  refine FnV.intro Try.call42 Try.func42 rfl Try.ntmps42 rfl ?_
  intro W M Rf
  refine r_seq ?_
  refine r_region ?_
  refine o_alloc rfl inf31 rfl rfl rfl rfl rfl (fun b4 => ?_)
  refine o_nil ?_
  with_reducible refine r_then ?_
  refine r_seq ?_
  refine r_region ?_
  refine o_q _ rfl rfl rfl (v_move rfl rfl) ?_
  refine o_q _ rfl rfl rfl (v_move rfl rfl) ?_
  refine o_q _ rfl rfl rfl (v_bS rfl Try.underlying31 inf31 plt31 rfl rfl rfl (by repeat (first | exact trivial | refine ⟨rfl, ?_⟩)) (by rfl)) ?_
  refine o_st rfl inf31 rfl rfl rfl rfl rfl rfl rfl rfl ?_
  refine o_nil ?_
  with_reducible refine r_then ?_
  refine r_ret ?_
  exact r_retv2 (Rd.one rfl (RdI.cellW Try.underlying31 rfl inf31 rfl rfl)) rfl SelMC.sel SubRC.sub
set_option maxHeartbeats 4000000 in
theorem sample_r (men : Int) : FnR Try.prog 45 [i64 men] [] (fun v => ∃ ro ho, v = valF (sampleF men) ro 6 ho 3) (fun v => [rowD (adrAt v 0) 2 encS (sampleF men).rain, rowD (adrAt v 8) 3 encH (sampleF men).heaps]) := by
  refine FnR.intro Try.call45 Try.func45 rfl Try.ntmps45 rfl ?_
  intro W M Rf
  refine r_seq ?_
  refine r_region ?_
  refine o_alloc rfl inf26 rfl rfl rfl rfl rfl (fun b2 => ?_)
  refine o_nil ?_
  with_reducible refine r_then ?_
  refine r_seq ?_
  refine r_region ?_
  refine o_q _ rfl rfl rfl (OpQ.fn (lspan_v _ _) rfl rfl SubRC.sub) ?_
  refine o_q _ rfl rfl rfl (OpQ.fn (lspan_v _ _) rfl rfl SubRC.sub) ?_
  refine o_q _ rfl rfl rfl (OpQ.fn (lspan_v _ _) rfl rfl SubRC.sub) ?_
  refine o_q _ rfl rfl rfl (OpQ.fn (lspan_v _ _) rfl rfl SubRC.sub) ?_
  refine o_q _ rfl rfl rfl (OpQ.fn (lspan_v _ _) rfl rfl SubRC.sub) ?_
  refine o_q _ rfl rfl rfl (OpQ.fn (lspan_v _ _) rfl rfl SubRC.sub) ?_
  refine o_lit rfl Try.underlying22 inf31 rfl rfl rfl rfl rfl rfl rfl rfl (by repeat (first | exact trivial | refine ⟨rfl, ?_⟩)) (by rfl) (fun b9 => ?_)
  refine o_q _ rfl rfl rfl (v_move rfl rfl) ?_
  refine o_q _ rfl rfl rfl (v_bA rfl Try.underlying23 inf23 inf3 rfl rfl rfl (by repeat (first | exact trivial | refine ⟨rfl, ?_⟩)) (by rfl)) ?_
  refine o_q _ rfl rfl rfl (v_bA rfl Try.underlying23 inf23 inf3 rfl rfl rfl (by repeat (first | exact trivial | refine ⟨rfl, ?_⟩)) (by rfl)) ?_
  refine o_q _ rfl rfl rfl (OpQ.fn (lspan_v _ _) rfl rfl SubRC.sub) ?_
  refine o_q _ rfl rfl rfl (v_bS rfl Try.underlying73 inf73 plt73 rfl rfl rfl (by repeat (first | exact trivial | refine ⟨rfl, ?_⟩)) (by rfl)) ?_
  refine o_q _ rfl rfl rfl (OpQ.fn (lspan_v _ _) rfl rfl SubRC.sub) ?_
  refine o_q _ rfl rfl rfl (v_bS rfl Try.underlying73 inf73 plt73 rfl rfl rfl (by repeat (first | exact trivial | refine ⟨rfl, ?_⟩)) (by rfl)) ?_
  refine o_q _ rfl rfl rfl (OpQ.fn (lspan_v _ _) rfl rfl SubRC.sub) ?_
  refine o_q _ rfl rfl rfl (v_bS rfl Try.underlying73 inf73 plt73 rfl rfl rfl (by repeat (first | exact trivial | refine ⟨rfl, ?_⟩)) (by rfl)) ?_
  refine o_lit rfl Try.underlying24 inf73 rfl rfl rfl rfl rfl rfl rfl rfl (by repeat (first | exact trivial | refine ⟨rfl, ?_⟩)) (by rfl) (fun b19 => ?_)
  refine o_q _ rfl rfl rfl (v_bS rfl Try.underlying26 inf26 plt26 rfl rfl rfl (by repeat (first | exact trivial | refine ⟨rfl, ?_⟩)) (by rfl)) ?_
  refine o_st rfl inf26 rfl rfl rfl rfl rfl rfl rfl rfl ?_
  refine o_nil ?_
  with_reducible refine r_then ?_
  refine r_ret ?_
  refine Imp.box_to b2 (cellsF (sampleF men) (some ⟨b9, 0, none⟩) 6 (some ⟨b19, 0, none⟩) 3) rfl ?_
  refine Imp.sealB b9 ?_
  refine Imp.rowN (b := b9) (sampleF men).rain encS_len rfl ?_
  refine Imp.sealB b19 ?_
  refine Imp.rowN (b := b19) (sampleF men).heaps encH_len rfl ?_
  exact r_retr (Rd.one rfl (RdI.cellW Try.underlying26 rfl inf26 rfl rfl)) ⟨some ⟨b9, 0, none⟩, some ⟨b19, 0, none⟩, rfl⟩ SelMC.sel (by show SubR _ ([rowD (some ⟨b9, 0, none⟩) 2 encS (sampleF men).rain, rowD (some ⟨b19, 0, none⟩) 3 encH (sampleF men).heaps] ++ _); exact SubRC.sub)
theorem o_sample {W : World} {n : Nat} {D : List Deferred} {L : Tm} {M : List Res} {R : List Fact} {Q : Exit → Act → World → Prop} {o : Oper} {ops : Array Oper} {rest : List Oper} {xs : List Operand} {ts : Array TypeId} {d : Nat} (men : Int)
    (ho : o.op = .call { callee := .value (.func 45), args := xs.toArray, argTypes := ts }) (hx : evs L xs = some [i64 men]) (hg : o.guard = none) (hdst : o.dst = some d) (hd : Nat.blt d n = true)
    (hret : ∀ ro ho, Imp W n D ((d, valF (sampleF men) ro 6 ho 3) :: L) M (rowD ro 2 encS (sampleF men).rain :: rowD ho 3 encH (sampleF men).heaps :: R) (wpList Try.prog ops Q rest)) : Imp W n D L M R (wpList Try.prog ops Q (o :: rest)) :=
  o_fn (sample_r men) ho hx hg hdst hd SubR.nil (fun v ⟨ro, ho, hv⟩ => by subst hv; exact hret ro ho)
theorem SmpWet_v (ro ho : Option Addr) (rc hc : Nat) : FnV Try.prog 15 [valF (sampleF 1) ro rc ho hc, i64 0, .agg #[i64 0, i64 3, i64 5], i64 3] [rowD ro 2 encS (sampleF 1).rain, rowD ho 3 encH (sampleF 1).heaps] (.tuple #[.agg #[i64 0, i64 7], i64 0]) := by
  have h := WetP_v (sampleF 1) ro ho rc hc 0 0 3 5 3 (by simp) (by simp)
  rw [smp_wet] at h; exact h
theorem SmpCan_v (ro ho : Option Addr) (rc hc : Nat) : FnV Try.prog 17 [valF (sampleF 1) ro rc ho hc, i64 0, .agg #[i64 0, i64 2, i64 4]] [rowD ro 2 encS (sampleF 1).rain, rowD ho 3 encH (sampleF 1).heaps] (.tuple #[i64 1, i64 0]) := by
  have h := CanP_v (sampleF 1) ro ho rc hc 0 0 2 4 (by simp) (by simp)
  rw [smp_can] at h; exact h
theorem SmpSoon_v (ro ho : Option Addr) (rc hc : Nat) : FnV Try.prog 19 [valF (sampleF 1) ro rc ho hc, i64 1] [rowD ro 2 encS (sampleF 1).rain, rowD ho 3 encH (sampleF 1).heaps] (.tuple #[.agg #[i64 0, i64 3, i64 5], i64 0]) := by
  have h := SoonP_v (sampleF 1) ro ho rc hc 1 (by simp) (by simp)
  rw [smp_soon] at h; exact h
theorem SmpSoon2_v (ro ho : Option Addr) (rc hc : Nat) : FnV Try.prog 19 [valF (sampleF 1) ro rc ho hc, i64 2] [rowD ro 2 encS (sampleF 1).rain, rowD ho 3 encH (sampleF 1).heaps] (.tuple #[.agg #[i64 0, i64 0, i64 0], i64 4]) := by
  have h := SoonP_v (sampleF 1) ro ho rc hc 2 (by simp) (by simp)
  rw [smp_soon2] at h; exact h
theorem SmpClamp_v (ro ho : Option Addr) (rc hc : Nat) : FnV Try.prog 21 [valF (sampleF 1) ro rc ho hc] [rowD ro 2 encS (sampleF 1).rain, rowD ho 3 encH (sampleF 1).heaps] (.tuple #[i64 3, i64 3, i64 0]) := by
  have h := ClampP_v (sampleF 1) ro ho rc hc (by simp) (by simp)
  rw [smp_clamp] at h; exact h
theorem SmpMen_v (ro ho : Option Addr) (rc hc : Nat) : FnV Try.prog 28 [valF (sampleF 1) ro rc ho hc] [rowD ro 2 encS (sampleF 1).rain, rowD ho 3 encH (sampleF 1).heaps] (.tuple #[i64 2, i64 160, i64 0]) := by
  have h := Men_v (sampleF 1) ro ho rc hc (by simp) (by simp)
  rw [smp_men] at h; exact h
theorem SmpBest_s (ro ho : Option Addr) (rc hc : Nat) : FnS Try.prog 26 [valF (sampleF 2) ro rc ho hc] [] [rowD ro 2 encS (sampleF 2).rain, rowD ho 3 encH (sampleF 2).heaps] (fun e M' R' => ∃ v, e = .returned (.tuple #[i64 160, v, i64 0]) ∧ M' = [ownL v 27 3 encT [⟨0, 3, 5⟩, ⟨0, 3, 5⟩, ⟨-1, -1, -1⟩]] ∧ R' = []) := by
  have h := Best_s (sampleF 2) ro ho rc hc (by simp) (by simp)
  rw [smp_best] at h; exact h
set_option maxHeartbeats 4000000 in
theorem awake_v  : FnV Try.prog 14 [] [] (.bool true) := by
  refine FnV.intro Try.call14 Try.func14 rfl Try.ntmps14 rfl ?_
  intro W M Rf
  refine r_seq ?_
  refine r_region ?_
  refine o_q _ rfl rfl rfl (v_assign rfl rfl) ?_
  refine o_nil ?_
  with_reducible refine r_then ?_
  refine r_seq ?_
  refine r_region ?_
  refine o_sample 1 rfl rfl rfl rfl rfl (fun ro ho => ?_)
  all_goals
    refine o_q _ rfl rfl rfl (OpQ.fn None_v rfl rfl SubRC.sub) ?_
    refine o_alloc rfl inf26 rfl rfl rfl rfl rfl (fun b1 => ?_)
    refine o_alloc rfl inf27 rfl rfl rfl rfl rfl (fun b2 => ?_)
    refine o_st rfl inf26 rfl rfl rfl rfl rfl rfl rfl rfl ?_
    refine o_st rfl inf27 rfl rfl rfl rfl rfl rfl rfl rfl ?_
    refine o_nil ?_
    with_reducible refine r_then ?_
    refine r_seq ?_
    refine r_region ?_
    refine o_q _ rfl rfl rfl (v_ldW rfl Try.underlying26 rfl inf26 rfl rfl) ?_
    refine o_q _ rfl rfl rfl (v_bA rfl Try.underlying27 inf27 inf3 rfl rfl rfl (by repeat (first | exact trivial | refine ⟨rfl, ?_⟩)) (by rfl)) ?_
    refine o_q _ rfl rfl rfl (OpQ.fn (SmpWet_v _ _ _ _) rfl rfl SubRC.sub) ?_
    refine o_q _ rfl rfl rfl (v_move rfl rfl) ?_
    refine o_q _ rfl rfl rfl (v_extract rfl rfl rfl) ?_
    refine o_q _ rfl rfl rfl (v_extract rfl rfl rfl) ?_
    refine o_alloc rfl inf31 rfl rfl rfl rfl rfl (fun b3 => ?_)
    refine o_st rfl inf31 rfl rfl rfl rfl rfl rfl rfl rfl ?_
    refine o_q _ rfl rfl rfl (v_assign rfl rfl) ?_
    refine o_nil ?_
    with_reducible refine r_then ?_
    refine r_seq ?_
    refine r_region ?_
    refine o_q _ rfl rfl rfl (v_ldW rfl Try.underlying26 rfl inf26 rfl rfl) ?_
    refine o_q _ rfl rfl rfl (v_bA rfl Try.underlying27 inf27 inf3 rfl rfl rfl (by repeat (first | exact trivial | refine ⟨rfl, ?_⟩)) (by rfl)) ?_
    refine o_q _ rfl rfl rfl (OpQ.fn (SmpCan_v _ _ _ _) rfl rfl SubRC.sub) ?_
    refine o_q _ rfl rfl rfl (v_move rfl rfl) ?_
    refine o_q _ rfl rfl rfl (v_extract rfl rfl rfl) ?_
    refine o_q _ rfl rfl rfl (v_extract rfl rfl rfl) ?_
    refine o_q _ rfl rfl rfl (v_assign rfl rfl) ?_
    refine o_q _ rfl rfl rfl (v_assign rfl rfl) ?_
    refine o_nil ?_
    with_reducible refine r_then ?_
    refine r_seq ?_
    refine r_region ?_
    refine o_q _ rfl rfl rfl (v_ldW rfl Try.underlying26 rfl inf26 rfl rfl) ?_
    refine o_q _ rfl rfl rfl (OpQ.fn (SmpSoon_v _ _ _ _) rfl rfl SubRC.sub) ?_
    refine o_q _ rfl rfl rfl (v_move rfl rfl) ?_
    refine o_q _ rfl rfl rfl (v_extract rfl rfl rfl) ?_
    refine o_q _ rfl rfl rfl (v_extract rfl rfl rfl) ?_
    refine o_alloc rfl inf27 rfl rfl rfl rfl rfl (fun b7 => ?_)
    refine o_st rfl inf27 rfl rfl rfl rfl rfl rfl rfl rfl ?_
    refine o_q _ rfl rfl rfl (v_assign rfl rfl) ?_
    refine o_nil ?_
    with_reducible refine r_then ?_
    refine r_seq ?_
    refine r_region ?_
    refine o_q _ rfl rfl rfl (v_ldW rfl Try.underlying26 rfl inf26 rfl rfl) ?_
    refine o_q _ rfl rfl rfl (OpQ.fn (SmpClamp_v _ _ _ _) rfl rfl SubRC.sub) ?_
    refine o_q _ rfl rfl rfl (v_move rfl rfl) ?_
    refine o_q _ rfl rfl rfl (v_extract rfl rfl rfl) ?_
    refine o_q _ rfl rfl rfl (v_extract rfl rfl rfl) ?_
    refine o_q _ rfl rfl rfl (v_extract rfl rfl rfl) ?_
    refine o_q _ rfl rfl rfl (v_assign rfl rfl) ?_
    refine o_q _ rfl rfl rfl (v_assign rfl rfl) ?_
    refine o_q _ rfl rfl rfl (v_assign rfl rfl) ?_
    refine o_nil ?_
    with_reducible refine r_then ?_
    refine r_seq ?_
    refine r_region ?_
    refine o_q _ rfl rfl rfl (v_ldW rfl Try.underlying26 rfl inf26 rfl rfl) ?_
    refine o_q _ rfl rfl rfl (v_bA rfl Try.underlying27 inf27 inf3 rfl rfl rfl (by repeat (first | exact trivial | refine ⟨rfl, ?_⟩)) (by rfl)) ?_
    refine o_q _ rfl rfl rfl (v_bA rfl Try.underlying27 inf27 inf3 rfl rfl rfl (by repeat (first | exact trivial | refine ⟨rfl, ?_⟩)) (by rfl)) ?_
    refine o_q _ rfl rfl rfl (v_ldW rfl Try.underlying27 rfl inf27 rfl rfl) ?_
    refine o_lit rfl Try.underlying40 inf27 rfl rfl rfl rfl rfl rfl rfl rfl (by repeat (first | exact trivial | refine ⟨rfl, ?_⟩)) (by rfl) (fun b54 => ?_)
    refine Imp.sealB b54 ?_
    refine Imp.rowN (b := b54) ([⟨0, 3, 5⟩, ⟨0, 3, 5⟩, ⟨-1, -1, -1⟩] : List T3) encT_len rfl ?_
    refine o_fn (BrokenP_r (sampleF 1) ro ho 6 3 (by simp) (by simp) [⟨0, 3, 5⟩, ⟨0, 3, 5⟩, ⟨-1, -1, -1⟩] (some ⟨b54, 0, none⟩) 3 (by simp)) rfl rfl rfl rfl rfl SubRC.sub (fun v55 hv55 => ?_)
    obtain ⟨x55, rfl, hb55⟩ := hv55; obtain rfl := smp_broke hb55; dsimp only
    all_goals
      refine o_q _ rfl rfl rfl (v_move rfl rfl) ?_
      refine o_q _ rfl rfl rfl (v_extract rfl rfl rfl) ?_
      refine o_q _ rfl rfl rfl (v_extract rfl rfl rfl) ?_
      refine o_q _ rfl rfl rfl (v_extract rfl rfl rfl) ?_
      refine o_q _ rfl rfl rfl (v_extract rfl rfl rfl) ?_
      refine o_q _ rfl rfl rfl (v_assign rfl rfl) ?_
      refine o_q _ rfl rfl rfl (v_assign rfl rfl) ?_
      refine o_q _ rfl rfl rfl (v_assign rfl rfl) ?_
      refine o_q _ rfl rfl rfl (v_assign rfl rfl) ?_
      refine o_nil ?_
      with_reducible refine r_then ?_
      refine r_seq ?_
      refine r_region ?_
      refine o_sample 2 rfl rfl rfl rfl rfl (fun ro2 ho2 => ?_)
      all_goals
        refine o_fnown (SmpBest_s ro2 ho2 6 3) rfl rfl rfl rfl rfl SubRC.sub (fun v62 => ?_)
        all_goals
          refine o_q _ rfl rfl rfl (v_move rfl rfl) ?_
          refine o_q _ rfl rfl rfl (v_extract rfl rfl rfl) ?_
          refine o_q _ rfl rfl rfl (v_extract rfl rfl rfl) ?_
          refine o_q _ rfl rfl rfl (v_extract rfl rfl rfl) ?_
          refine o_q _ rfl rfl rfl (v_assign rfl rfl) ?_
          refine o_q _ rfl rfl rfl (v_assign rfl rfl) ?_
          refine o_q _ rfl rfl rfl (v_assign rfl rfl) ?_
          refine o_nil ?_
          with_reducible refine r_then ?_
          refine r_seq ?_
          refine r_region ?_
          refine o_q _ rfl rfl rfl (v_ldW rfl Try.underlying26 rfl inf26 rfl rfl) ?_
          refine o_q _ rfl rfl rfl (OpQ.fn (SmpMen_v _ _ _ _) rfl rfl SubRC.sub) ?_
          refine o_q _ rfl rfl rfl (v_move rfl rfl) ?_
          refine o_q _ rfl rfl rfl (v_extract rfl rfl rfl) ?_
          refine o_q _ rfl rfl rfl (v_extract rfl rfl rfl) ?_
          refine o_q _ rfl rfl rfl (v_extract rfl rfl rfl) ?_
          refine o_q _ rfl rfl rfl (v_assign rfl rfl) ?_
          refine o_q _ rfl rfl rfl (v_assign rfl rfl) ?_
          refine o_q _ rfl rfl rfl (v_assign rfl rfl) ?_
          refine o_nil ?_
          with_reducible refine r_then ?_
          refine r_seq ?_
          refine r_region ?_
          refine o_q _ rfl rfl rfl (v_ldW rfl Try.underlying26 rfl inf26 rfl rfl) ?_
          refine o_q _ rfl rfl rfl (OpQ.fn (SmpSoon2_v _ _ _ _) rfl rfl SubRC.sub) ?_
          refine o_q _ rfl rfl rfl (v_move rfl rfl) ?_
          refine o_q _ rfl rfl rfl (v_extract rfl rfl rfl) ?_
          refine o_q _ rfl rfl rfl (v_extract rfl rfl rfl) ?_
          refine o_alloc rfl inf27 rfl rfl rfl rfl rfl (fun b22 => ?_)
          refine o_st rfl inf27 rfl rfl rfl rfl rfl rfl rfl rfl ?_
          refine o_q _ rfl rfl rfl (v_assign rfl rfl) ?_
          refine o_nil ?_
          with_reducible refine r_then ?_
          refine r_seq ?_
          refine r_seq ?_
          refine r_region_q mixed (by kernel_rfl) ?_
          refine q_q _ rfl rfl rfl (v_ldW rfl Try.underlying31 rfl inf31 rfl rfl) ?_
          refine q_q _ rfl rfl rfl (OpQ.fn (lspan_v _ _) rfl rfl SubRC.sub) ?_
          refine q_q _ rfl rfl rfl (v_cast (v := .bool false) (v_neP rfl rfl rfl guard31 (eq31 _ _ _ _)) rfl) ?_
          refine q_q _ rfl rfl rfl (v_move rfl rfl) ?_
          refine q_g _ rfl rfl rfl rfl (v_move rfl rfl) ?_
          refine q_g _ rfl rfl rfl rfl (v_false (v_neq rfl rfl rfl) (by omega)) ?_
          all_goals
            refine q_q _ rfl rfl rfl (v_pick_f rfl rfl rfl) ?_
            refine q_q _ rfl rfl rfl (v_move rfl rfl) ?_
            refine q_g _ rfl rfl rfl rfl (v_move rfl rfl) ?_
            refine q_g _ rfl rfl rfl rfl (v_false (v_neq rfl rfl rfl) (by omega)) ?_
            all_goals
              refine q_q _ rfl rfl rfl (v_pick_f rfl rfl rfl) ?_
              refine q_q _ rfl rfl rfl (v_move rfl rfl) ?_
              refine q_g _ rfl rfl rfl rfl (v_move rfl rfl) ?_
              refine q_g _ rfl rfl rfl rfl (v_false (v_neq rfl rfl rfl) (by omega)) ?_
              all_goals
                refine q_q _ rfl rfl rfl (v_pick_f rfl rfl rfl) ?_
                refine q_q _ rfl rfl rfl (v_move rfl rfl) ?_
                refine q_g _ rfl rfl rfl rfl (v_ldW rfl Try.underlying27 rfl inf27 rfl rfl) ?_
                refine q_g _ rfl rfl rfl rfl (v_bA rfl Try.underlying27 inf27 inf3 rfl rfl rfl (by repeat (first | exact trivial | refine ⟨rfl, ?_⟩)) (by rfl)) ?_
                refine q_g _ rfl rfl rfl rfl (v_cast (v := .bool false) (v_neP rfl rfl rfl guard27 (eq27 _ _ _ _ _ _)) rfl) ?_
                refine q_q _ rfl rfl rfl (v_pick_f rfl rfl rfl) ?_
                refine q_q _ rfl rfl rfl (v_move rfl rfl) ?_
                refine q_g _ rfl rfl rfl rfl (v_move rfl rfl) ?_
                refine q_g _ rfl rfl rfl rfl (v_false (v_neq rfl rfl rfl) (by omega)) ?_
                all_goals
                  refine q_q _ rfl rfl rfl (v_pick_f rfl rfl rfl) ?_
                  refine q_q _ rfl rfl rfl (v_move rfl rfl) ?_
                  refine q_g _ rfl rfl rfl rfl (v_move rfl rfl) ?_
                  refine q_g _ rfl rfl rfl rfl (v_false (v_neq rfl rfl rfl) (by omega)) ?_
                  all_goals
                    refine q_q _ rfl rfl rfl (v_pick_f rfl rfl rfl) ?_
                    refine q_q _ rfl rfl rfl (v_move rfl rfl) ?_
                    refine q_g _ rfl rfl rfl rfl (v_move rfl rfl) ?_
                    refine q_g _ rfl rfl rfl rfl (v_false (v_neq rfl rfl rfl) (by omega)) ?_
                    all_goals
                      refine q_q _ rfl rfl rfl (v_pick_f rfl rfl rfl) ?_
                      refine q_q _ rfl rfl rfl (v_move rfl rfl) ?_
                      refine q_g _ rfl rfl rfl rfl (v_move rfl rfl) ?_
                      refine q_g _ rfl rfl rfl rfl (v_false (v_neq rfl rfl rfl) (by omega)) ?_
                      all_goals
                        refine q_q _ rfl rfl rfl (v_pick_f rfl rfl rfl) ?_
                        refine q_q _ rfl rfl rfl (v_move rfl rfl) ?_
                        refine q_g _ rfl rfl rfl rfl (v_move rfl rfl) ?_
                        refine q_g _ rfl rfl rfl rfl (v_false (v_neq rfl rfl rfl) (by omega)) ?_
                        all_goals
                          refine q_q _ rfl rfl rfl (v_pick_f rfl rfl rfl) ?_
                          refine q_q _ rfl rfl rfl (v_move rfl rfl) ?_
                          refine q_g _ rfl rfl rfl rfl (v_move rfl rfl) ?_
                          refine q_g _ rfl rfl rfl rfl (v_false (v_neq rfl rfl rfl) (by omega)) ?_
                          all_goals
                            refine q_q _ rfl rfl rfl (v_pick_f rfl rfl rfl) ?_
                            refine q_q _ rfl rfl rfl (v_move rfl rfl) ?_
                            refine q_g _ rfl rfl rfl rfl (v_move rfl rfl) ?_
                            refine q_g _ rfl rfl rfl rfl (v_false (v_neq rfl rfl rfl) (by omega)) ?_
                            all_goals
                              refine q_q _ rfl rfl rfl (v_pick_f rfl rfl rfl) ?_
                              refine q_q _ rfl rfl rfl (v_move rfl rfl) ?_
                              refine q_g _ rfl rfl rfl rfl (v_move rfl rfl) ?_
                              refine q_g _ rfl rfl rfl rfl (v_false (v_neq rfl rfl rfl) (by omega)) ?_
                              all_goals
                                refine q_q _ rfl rfl rfl (v_pick_f rfl rfl rfl) ?_
                                refine q_nil ?_
                                with_reducible refine r_then ?_
                                refine r_cond rfl (fun hc128 => ?_) (fun hc128 => ?_)
                                ·
                                  (exfalso; revert hc128; decide)
                                ·
                                  refine r_skip ?_
                                  with_reducible refine r_then ?_
                                  refine r_seq ?_
                                  refine Imp.settleS v62 encT_len (fun oa17 cp17 hv => ?_)
                                  subst hv
                                  refine r_region ?_
                                  refine o_q _ rfl rfl rfl (v_move rfl rfl) ?_
                                  refine o_q _ rfl rfl rfl (v_true (v_eql rfl rfl rfl) (by omega)) ?_
                                  all_goals
                                    refine o_q _ rfl rfl rfl (v_move rfl rfl) ?_
                                    refine o_g _ rfl rfl rfl rfl (v_move rfl rfl) ?_
                                    refine o_g _ rfl rfl rfl rfl (v_bA rfl Try.underlying27 inf27 inf3 rfl rfl rfl (by repeat (first | exact trivial | refine ⟨rfl, ?_⟩)) (by rfl)) ?_
                                    refine o_g _ rfl rfl rfl rfl (v_bA rfl Try.underlying27 inf27 inf3 rfl rfl rfl (by repeat (first | exact trivial | refine ⟨rfl, ?_⟩)) (by rfl)) ?_
                                    refine o_g _ rfl rfl rfl rfl (v_ldW rfl Try.underlying27 rfl inf27 rfl rfl) ?_
                                    refine o_litG rfl Try.underlying40 inf27 rfl rfl rfl rfl rfl rfl rfl rfl rfl (by repeat (first | exact trivial | refine ⟨rfl, ?_⟩)) (by rfl) (fun b136 => ?_)
                                    refine Imp.sealB b136 ?_
                                    refine Imp.rowN (b := b136) ([⟨0, 3, 5⟩, ⟨0, 3, 5⟩, ⟨-1, -1, -1⟩] : List T3) encT_len rfl ?_
                                    refine o_g _ rfl rfl rfl rfl (v_cast (v := .bool true) (OpQ.fn (Plans_v [⟨0, 3, 5⟩, ⟨0, 3, 5⟩, ⟨-1, -1, -1⟩] [⟨0, 3, 5⟩, ⟨0, 3, 5⟩, ⟨-1, -1, -1⟩] oa17 (some ⟨b136, 0, none⟩) cp17 3 (by simp) (by simp)) rfl rfl SubRC.sub) (congrArg Value.bool (decide_eq_true rfl))) ?_
                                    refine o_q _ rfl rfl rfl (v_pick_t rfl rfl rfl) ?_
                                    refine o_q _ rfl rfl rfl (v_move rfl rfl) ?_
                                    refine o_g _ rfl rfl rfl rfl (v_move rfl rfl) ?_
                                    refine o_g _ rfl rfl rfl rfl (v_true (v_eql rfl rfl rfl) (by omega)) ?_
                                    all_goals
                                      refine o_q _ rfl rfl rfl (v_pick_t rfl rfl rfl) ?_
                                      refine o_q _ rfl rfl rfl (v_move rfl rfl) ?_
                                      refine o_g _ rfl rfl rfl rfl (v_move rfl rfl) ?_
                                      refine o_g _ rfl rfl rfl rfl (v_true (v_eql rfl rfl rfl) (by omega)) ?_
                                      all_goals
                                        refine o_q _ rfl rfl rfl (v_pick_t rfl rfl rfl) ?_
                                        refine o_q _ rfl rfl rfl (v_move rfl rfl) ?_
                                        refine o_g _ rfl rfl rfl rfl (v_move rfl rfl) ?_
                                        refine o_g _ rfl rfl rfl rfl (v_true (v_eql rfl rfl rfl) (by omega)) ?_
                                        all_goals
                                          refine o_q _ rfl rfl rfl (v_pick_t rfl rfl rfl) ?_
                                          refine o_q _ rfl rfl rfl (v_move rfl rfl) ?_
                                          refine o_g _ rfl rfl rfl rfl (v_move rfl rfl) ?_
                                          refine o_g _ rfl rfl rfl rfl (v_true (v_eql rfl rfl rfl) (by omega)) ?_
                                          all_goals
                                            refine o_q _ rfl rfl rfl (v_pick_t rfl rfl rfl) ?_
                                            refine o_q _ rfl rfl rfl (v_move rfl rfl) ?_
                                            refine o_g _ rfl rfl rfl rfl (v_move rfl rfl) ?_
                                            refine o_g _ rfl rfl rfl rfl (v_true (v_eql rfl rfl rfl) (by omega)) ?_
                                            all_goals
                                              refine o_q _ rfl rfl rfl (v_pick_t rfl rfl rfl) ?_
                                              refine o_q _ rfl rfl rfl (v_assign rfl rfl) ?_
                                              refine o_nil ?_
                                              with_reducible refine r_then ?_
                                              refine r_ret ?_
                                              exact r_retv2 (Rd.tmp rfl rfl) rfl SelMC.sel SubRC.sub
theorem WetQ_v (F : Work) (ro ho : Option Addr) (rc hc : Nat) (x a b c y : Int) (hr : F.rain.length ≤ 40) (hh : F.heaps.length ≤ 40) : FnV Try.prog 16 [valF F ro rc ho hc, i64 x, .agg #[i64 a, i64 b, i64 c], i64 y] [rowD ro 2 encS F.rain, rowD ho 3 encH F.heaps] (.tuple #[.agg #[i64 (wetP F x ⟨a, b, c⟩ y).1.lo, i64 (wetP F x ⟨a, b, c⟩ y).1.hi], i64 (wetP F x ⟨a, b, c⟩ y).2]) := by
  rw [wetP_eq]; exact WetR_v F ro ho rc hc x a b c y hr hh
theorem CanQ_v (F : Work) (ro ho : Option Addr) (rc hc : Nat) (x a b c : Int) (hr : F.rain.length ≤ 40) (hh : F.heaps.length ≤ 40) : FnV Try.prog 18 [valF F ro rc ho hc, i64 x, .agg #[i64 a, i64 b, i64 c]] [rowD ro 2 encS F.rain, rowD ho 3 encH F.heaps] (.tuple #[i64 (canP F x ⟨a, b, c⟩).1, i64 (canP F x ⟨a, b, c⟩).2]) := by
  rw [canP_eq]; exact CanR_v F ro ho rc hc x a b c hr hh
theorem SoonQ_v (F : Work) (ro ho : Option Addr) (rc hc : Nat) (x : Int) (hr : F.rain.length ≤ 40) (hh : F.heaps.length ≤ 40) : FnV Try.prog 20 [valF F ro rc ho hc, i64 x] [rowD ro 2 encS F.rain, rowD ho 3 encH F.heaps] (.tuple #[.agg #[i64 (soonP F x).1.a, i64 (soonP F x).1.b, i64 (soonP F x).1.c], i64 (soonP F x).2]) := by
  rw [soonP_eq]; exact SoonR_v F ro ho rc hc x hr hh
theorem ClampQ_v (F : Work) (ro ho : Option Addr) (rc hc : Nat) (hr : F.rain.length ≤ 40) (hh : F.heaps.length ≤ 40) : FnV Try.prog 22 [valF F ro rc ho hc] [rowD ro 2 encS F.rain, rowD ho 3 encH F.heaps] (.tuple #[i64 (clampP F).1, i64 (clampP F).2.1, i64 (clampP F).2.2]) := by
  rw [clampP_eq]; exact ClampR_v F ro ho rc hc hr hh
set_option maxHeartbeats 4000000 in
theorem reads_v (F : Work) (ro ho : Option Addr) (rc hc : Nat) (x a b c y : Int) : FnV Try.prog 3 [valF F ro rc ho hc, i64 x, .agg #[i64 a, i64 b, i64 c], i64 y] [rowD ro 2 encS F.rain, rowD ho 3 encH F.heaps] (.bool true) := by
  refine FnV.intro Try.call3 Try.func3 rfl Try.ntmps3 rfl ?_
  intro W M Rf
  refine r_seq ?_
  refine r_region ?_
  refine o_boxA rfl rfl rfl rfl rfl (fun b4 => ?_)
  refine o_boxA rfl rfl rfl rfl rfl (fun b6 => ?_)
  refine o_q _ rfl rfl rfl (v_assign rfl rfl) ?_
  refine o_nil ?_
  with_reducible refine r_then ?_
  refine r_seq ?_
  refine r_seq ?_
  refine r_region ?_
  refine o_q _ rfl rfl rfl (v_ldW rfl Try.underlying26 rfl inf26 rfl rfl) ?_
  refine o_q _ rfl rfl rfl (OpQ.fn (far_v F ro ho rc hc _ _ _) rfl rfl SubRC.sub) ?_
  refine o_nil ?_
  with_reducible refine r_then ?_
  refine r_condd rfl (fun hc22 => ?_) (fun hc22 => ?_)
  ·
    refine r_seq ?_
    refine r_region ?_
    refine o_q _ rfl rfl rfl (OpQ.fn awake_v rfl rfl SubRC.sub) ?_
    refine o_q _ rfl rfl rfl (v_assign rfl rfl) ?_
    refine o_nil ?_
    with_reducible refine r_then ?_
    refine r_ret ?_
    with_reducible refine r_then_ret ?_
    exact r_retv2 (Rd.tmp rfl rfl) rfl SelMC.sel SubRC.sub
  ·
    refine r_skip ?_
    with_reducible refine r_then ?_
    refine r_seq ?_
    have hr : F.rain.length ≤ 40 := by omega
    have hh : F.heaps.length ≤ 40 := by omega
    refine r_region ?_
    refine o_q _ rfl rfl rfl (v_ldW rfl Try.underlying26 rfl inf26 rfl rfl) ?_
    refine o_q _ rfl rfl rfl (v_move rfl rfl) ?_
    refine o_q _ rfl rfl rfl (v_ldW rfl Try.underlying27 rfl inf27 rfl rfl) ?_
    refine o_q _ rfl rfl rfl (v_move rfl rfl) ?_
    refine o_q _ rfl rfl rfl (OpQ.fn (WetP_v F ro ho rc hc _ _ _ _ _ hr hh) rfl rfl SubRC.sub) ?_
    refine o_q _ rfl rfl rfl (v_move rfl rfl) ?_
    refine o_q _ rfl rfl rfl (v_extract rfl rfl rfl) ?_
    refine o_q _ rfl rfl rfl (v_extract rfl rfl rfl) ?_
    refine o_alloc rfl inf31 rfl rfl rfl rfl rfl (fun b9 => ?_)
    refine o_st rfl inf31 rfl rfl rfl rfl rfl rfl rfl rfl ?_
    refine o_q _ rfl rfl rfl (v_assign rfl rfl) ?_
    refine o_nil ?_
    with_reducible refine r_then ?_
    refine r_seq ?_
    refine r_region ?_
    refine o_q _ rfl rfl rfl (v_ldW rfl Try.underlying26 rfl inf26 rfl rfl) ?_
    refine o_q _ rfl rfl rfl (v_move rfl rfl) ?_
    refine o_q _ rfl rfl rfl (v_ldW rfl Try.underlying27 rfl inf27 rfl rfl) ?_
    refine o_q _ rfl rfl rfl (v_move rfl rfl) ?_
    refine o_q _ rfl rfl rfl (OpQ.fn (WetQ_v F ro ho rc hc _ _ _ _ _ hr hh) rfl rfl SubRC.sub) ?_
    refine o_q _ rfl rfl rfl (v_move rfl rfl) ?_
    refine o_q _ rfl rfl rfl (v_extract rfl rfl rfl) ?_
    refine o_q _ rfl rfl rfl (v_extract rfl rfl rfl) ?_
    refine o_alloc rfl inf31 rfl rfl rfl rfl rfl (fun b11 => ?_)
    refine o_st rfl inf31 rfl rfl rfl rfl rfl rfl rfl rfl ?_
    refine o_q _ rfl rfl rfl (v_assign rfl rfl) ?_
    refine o_nil ?_
    with_reducible refine r_then ?_
    refine r_seq ?_
    refine r_region ?_
    refine o_q _ rfl rfl rfl (v_ldW rfl Try.underlying26 rfl inf26 rfl rfl) ?_
    refine o_q _ rfl rfl rfl (v_move rfl rfl) ?_
    refine o_q _ rfl rfl rfl (v_ldW rfl Try.underlying27 rfl inf27 rfl rfl) ?_
    refine o_q _ rfl rfl rfl (OpQ.fn (CanP_v F ro ho rc hc _ _ _ _ hr hh) rfl rfl SubRC.sub) ?_
    refine o_q _ rfl rfl rfl (v_move rfl rfl) ?_
    refine o_q _ rfl rfl rfl (v_extract rfl rfl rfl) ?_
    refine o_q _ rfl rfl rfl (v_extract rfl rfl rfl) ?_
    refine o_q _ rfl rfl rfl (v_assign rfl rfl) ?_
    refine o_q _ rfl rfl rfl (v_assign rfl rfl) ?_
    refine o_nil ?_
    with_reducible refine r_then ?_
    refine r_seq ?_
    refine r_region ?_
    refine o_q _ rfl rfl rfl (v_ldW rfl Try.underlying26 rfl inf26 rfl rfl) ?_
    refine o_q _ rfl rfl rfl (v_move rfl rfl) ?_
    refine o_q _ rfl rfl rfl (v_ldW rfl Try.underlying27 rfl inf27 rfl rfl) ?_
    refine o_q _ rfl rfl rfl (OpQ.fn (CanQ_v F ro ho rc hc _ _ _ _ hr hh) rfl rfl SubRC.sub) ?_
    refine o_q _ rfl rfl rfl (v_move rfl rfl) ?_
    refine o_q _ rfl rfl rfl (v_extract rfl rfl rfl) ?_
    refine o_q _ rfl rfl rfl (v_extract rfl rfl rfl) ?_
    refine o_q _ rfl rfl rfl (v_assign rfl rfl) ?_
    refine o_q _ rfl rfl rfl (v_assign rfl rfl) ?_
    refine o_nil ?_
    with_reducible refine r_then ?_
    refine r_seq ?_
    refine r_region ?_
    refine o_q _ rfl rfl rfl (v_ldW rfl Try.underlying26 rfl inf26 rfl rfl) ?_
    refine o_q _ rfl rfl rfl (v_move rfl rfl) ?_
    refine o_q _ rfl rfl rfl (OpQ.fn (SoonP_v F ro ho rc hc _ hr hh) rfl rfl SubRC.sub) ?_
    refine o_q _ rfl rfl rfl (v_move rfl rfl) ?_
    refine o_q _ rfl rfl rfl (v_extract rfl rfl rfl) ?_
    refine o_q _ rfl rfl rfl (v_extract rfl rfl rfl) ?_
    refine o_alloc rfl inf27 rfl rfl rfl rfl rfl (fun b17 => ?_)
    refine o_st rfl inf27 rfl rfl rfl rfl rfl rfl rfl rfl ?_
    refine o_q _ rfl rfl rfl (v_assign rfl rfl) ?_
    refine o_nil ?_
    with_reducible refine r_then ?_
    refine r_seq ?_
    refine r_region ?_
    refine o_q _ rfl rfl rfl (v_ldW rfl Try.underlying26 rfl inf26 rfl rfl) ?_
    refine o_q _ rfl rfl rfl (v_move rfl rfl) ?_
    refine o_q _ rfl rfl rfl (OpQ.fn (SoonQ_v F ro ho rc hc _ hr hh) rfl rfl SubRC.sub) ?_
    refine o_q _ rfl rfl rfl (v_move rfl rfl) ?_
    refine o_q _ rfl rfl rfl (v_extract rfl rfl rfl) ?_
    refine o_q _ rfl rfl rfl (v_extract rfl rfl rfl) ?_
    refine o_alloc rfl inf27 rfl rfl rfl rfl rfl (fun b19 => ?_)
    refine o_st rfl inf27 rfl rfl rfl rfl rfl rfl rfl rfl ?_
    refine o_q _ rfl rfl rfl (v_assign rfl rfl) ?_
    refine o_nil ?_
    with_reducible refine r_then ?_
    refine r_seq ?_
    refine r_region ?_
    refine o_q _ rfl rfl rfl (v_ldW rfl Try.underlying31 rfl inf31 rfl rfl) ?_
    refine o_q _ rfl rfl rfl (v_ldW rfl Try.underlying31 rfl inf31 rfl rfl) ?_
    refine o_q _ rfl rfl rfl (v_cast (v := .bool true) (v_eqP rfl rfl rfl guard31 (eq31 _ _ _ _)) (congrArg Value.bool (decide_eq_true rfl))) ?_
    refine o_q _ rfl rfl rfl (v_move rfl rfl) ?_
    refine o_g _ rfl rfl rfl rfl (v_move rfl rfl) ?_
    refine o_g _ rfl rfl rfl rfl (v_move rfl rfl) ?_
    refine o_g _ rfl rfl rfl rfl (v_true (v_eql rfl rfl rfl) (by omega)) ?_
    all_goals
      refine o_q _ rfl rfl rfl (v_pick_t rfl rfl rfl) ?_
      refine o_q _ rfl rfl rfl (v_move rfl rfl) ?_
      refine o_g _ rfl rfl rfl rfl (v_move rfl rfl) ?_
      refine o_g _ rfl rfl rfl rfl (v_move rfl rfl) ?_
      refine o_g _ rfl rfl rfl rfl (v_true (v_eql rfl rfl rfl) (by omega)) ?_
      all_goals
        refine o_q _ rfl rfl rfl (v_pick_t rfl rfl rfl) ?_
        refine o_q _ rfl rfl rfl (v_move rfl rfl) ?_
        refine o_g _ rfl rfl rfl rfl (v_move rfl rfl) ?_
        refine o_g _ rfl rfl rfl rfl (v_move rfl rfl) ?_
        refine o_g _ rfl rfl rfl rfl (v_true (v_eql rfl rfl rfl) (by omega)) ?_
        all_goals
          refine o_q _ rfl rfl rfl (v_pick_t rfl rfl rfl) ?_
          refine o_q _ rfl rfl rfl (v_move rfl rfl) ?_
          refine o_g _ rfl rfl rfl rfl (v_ldW rfl Try.underlying27 rfl inf27 rfl rfl) ?_
          refine o_g _ rfl rfl rfl rfl (v_ldW rfl Try.underlying27 rfl inf27 rfl rfl) ?_
          refine o_g _ rfl rfl rfl rfl (v_cast (v := .bool true) (v_eqP rfl rfl rfl guard27 (eq27 _ _ _ _ _ _)) (congrArg Value.bool (decide_eq_true rfl))) ?_
          refine o_q _ rfl rfl rfl (v_pick_t rfl rfl rfl) ?_
          refine o_q _ rfl rfl rfl (v_move rfl rfl) ?_
          refine o_g _ rfl rfl rfl rfl (v_move rfl rfl) ?_
          refine o_g _ rfl rfl rfl rfl (v_move rfl rfl) ?_
          refine o_g _ rfl rfl rfl rfl (v_true (v_eql rfl rfl rfl) (by omega)) ?_
          all_goals
            refine o_q _ rfl rfl rfl (v_pick_t rfl rfl rfl) ?_
            refine o_q _ rfl rfl rfl (v_move rfl rfl) ?_
            refine o_g _ rfl rfl rfl rfl (OpQ.fn awake_v rfl rfl SubRC.sub) ?_
            refine o_q _ rfl rfl rfl (v_pick_t rfl rfl rfl) ?_
            refine o_q _ rfl rfl rfl (v_assign rfl rfl) ?_
            refine o_nil ?_
            with_reducible refine r_then ?_
            refine r_ret ?_
            exact r_retv2 (Rd.tmp rfl rfl) rfl SelMC.sel SubRC.sub
set_option maxHeartbeats 4000000 in
theorem breaks_v (F : Work) (ro ho : Option Addr) (rc hc : Nat) (l : List T3) (lo : Option Addr) (lc : Nat) : FnV Try.prog 4 [valF F ro rc ho hc, .slice lo l.length lc] [rowD lo 3 encT l, rowD ro 2 encS F.rain, rowD ho 3 encH F.heaps] (.bool true) := by
  refine FnV.intro Try.call4 Try.func4 rfl Try.ntmps4 rfl ?_
  intro W M Rf
  refine r_seq ?_
  refine r_region ?_
  refine o_boxA rfl rfl rfl rfl rfl (fun b2 => ?_)
  refine o_q _ rfl rfl rfl (v_assign rfl rfl) ?_
  refine o_nil ?_
  with_reducible refine r_then ?_
  refine r_seq ?_
  refine r_seq ?_
  refine r_region ?_
  refine o_q _ rfl rfl rfl (v_ldW rfl Try.underlying26 rfl inf26 rfl rfl) ?_
  refine o_q _ rfl rfl rfl (v_move rfl rfl) ?_
  refine o_q _ rfl rfl rfl (OpQ.fn (far_v F ro ho rc hc _ _ _) rfl rfl SubRC.sub) ?_
  refine o_nil ?_
  with_reducible refine r_then ?_
  refine r_condd rfl (fun hc21 => ?_) (fun hc21 => ?_)
  ·
    refine r_seq ?_
    refine r_region ?_
    refine o_q _ rfl rfl rfl (OpQ.fn awake_v rfl rfl SubRC.sub) ?_
    refine o_q _ rfl rfl rfl (v_assign rfl rfl) ?_
    refine o_nil ?_
    with_reducible refine r_then ?_
    refine r_ret ?_
    with_reducible refine r_then_ret ?_
    exact r_retv2 (Rd.tmp rfl rfl) rfl SelMC.sel SubRC.sub
  ·
    refine r_skip ?_
    with_reducible refine r_then ?_
    refine r_seq ?_
    have hr : F.rain.length ≤ 40 := by omega
    have hh : F.heaps.length ≤ 40 := by omega
    have hl : l.length ≤ 40 := by omega
    refine r_region ?_
    refine o_q _ rfl rfl rfl (v_ldW rfl Try.underlying26 rfl inf26 rfl rfl) ?_
    refine o_q _ rfl rfl rfl (OpQ.fn (ClampP_v F ro ho rc hc hr hh) rfl rfl SubRC.sub) ?_
    refine o_q _ rfl rfl rfl (v_move rfl rfl) ?_
    refine o_q _ rfl rfl rfl (v_extract rfl rfl rfl) ?_
    refine o_q _ rfl rfl rfl (v_extract rfl rfl rfl) ?_
    refine o_q _ rfl rfl rfl (v_extract rfl rfl rfl) ?_
    refine o_q _ rfl rfl rfl (v_assign rfl rfl) ?_
    refine o_q _ rfl rfl rfl (v_assign rfl rfl) ?_
    refine o_q _ rfl rfl rfl (v_assign rfl rfl) ?_
    refine o_nil ?_
    with_reducible refine r_then ?_
    refine r_seq ?_
    refine r_region ?_
    refine o_q _ rfl rfl rfl (v_ldW rfl Try.underlying26 rfl inf26 rfl rfl) ?_
    refine o_q _ rfl rfl rfl (OpQ.fn (ClampQ_v F ro ho rc hc hr hh) rfl rfl SubRC.sub) ?_
    refine o_q _ rfl rfl rfl (v_move rfl rfl) ?_
    refine o_q _ rfl rfl rfl (v_extract rfl rfl rfl) ?_
    refine o_q _ rfl rfl rfl (v_extract rfl rfl rfl) ?_
    refine o_q _ rfl rfl rfl (v_extract rfl rfl rfl) ?_
    refine o_q _ rfl rfl rfl (v_assign rfl rfl) ?_
    refine o_q _ rfl rfl rfl (v_assign rfl rfl) ?_
    refine o_q _ rfl rfl rfl (v_assign rfl rfl) ?_
    refine o_nil ?_
    with_reducible refine r_then ?_
    refine r_seq ?_
    refine r_region ?_
    refine o_q _ rfl rfl rfl (v_ldW rfl Try.underlying26 rfl inf26 rfl rfl) ?_
    refine o_q _ rfl rfl rfl (v_move rfl rfl) ?_
    refine o_fn (BrokenP_r F ro ho rc hc hr hh l lo lc hl) rfl rfl rfl rfl rfl SubRC.sub (fun v38 hv38 => ?_)
    obtain ⟨x38, rfl, hb38⟩ := hv38
    all_goals
      refine o_q _ rfl rfl rfl (v_move rfl rfl) ?_
      refine o_q _ rfl rfl rfl (v_extract rfl rfl rfl) ?_
      refine o_q _ rfl rfl rfl (v_extract rfl rfl rfl) ?_
      refine o_q _ rfl rfl rfl (v_extract rfl rfl rfl) ?_
      refine o_q _ rfl rfl rfl (v_extract rfl rfl rfl) ?_
      refine o_q _ rfl rfl rfl (v_assign rfl rfl) ?_
      refine o_q _ rfl rfl rfl (v_assign rfl rfl) ?_
      refine o_q _ rfl rfl rfl (v_assign rfl rfl) ?_
      refine o_q _ rfl rfl rfl (v_assign rfl rfl) ?_
      refine o_nil ?_
      with_reducible refine r_then ?_
      refine r_seq ?_
      refine r_region ?_
      refine o_q _ rfl rfl rfl (v_ldW rfl Try.underlying26 rfl inf26 rfl rfl) ?_
      refine o_q _ rfl rfl rfl (v_move rfl rfl) ?_
      refine o_fn (BrokenR_r F ro ho rc hc hr hh l lo lc hl) rfl rfl rfl rfl rfl SubRC.sub (fun v46 hv46 => ?_)
      obtain ⟨x46, rfl, hb46⟩ := hv46; obtain rfl := BrokeR_uniq (BrokeP_R hb38) hb46
      all_goals
        refine o_q _ rfl rfl rfl (v_move rfl rfl) ?_
        refine o_q _ rfl rfl rfl (v_extract rfl rfl rfl) ?_
        refine o_q _ rfl rfl rfl (v_extract rfl rfl rfl) ?_
        refine o_q _ rfl rfl rfl (v_extract rfl rfl rfl) ?_
        refine o_q _ rfl rfl rfl (v_extract rfl rfl rfl) ?_
        refine o_q _ rfl rfl rfl (v_assign rfl rfl) ?_
        refine o_q _ rfl rfl rfl (v_assign rfl rfl) ?_
        refine o_q _ rfl rfl rfl (v_assign rfl rfl) ?_
        refine o_q _ rfl rfl rfl (v_assign rfl rfl) ?_
        refine o_nil ?_
        with_reducible refine r_then ?_
        refine r_seq ?_
        refine r_region ?_
        refine o_q _ rfl rfl rfl (v_move rfl rfl) ?_
        refine o_q _ rfl rfl rfl (v_move rfl rfl) ?_
        refine o_q _ rfl rfl rfl (v_true (v_eql rfl rfl rfl) (by omega)) ?_
        all_goals
          refine o_q _ rfl rfl rfl (v_move rfl rfl) ?_
          refine o_g _ rfl rfl rfl rfl (v_move rfl rfl) ?_
          refine o_g _ rfl rfl rfl rfl (v_move rfl rfl) ?_
          refine o_g _ rfl rfl rfl rfl (v_true (v_eql rfl rfl rfl) (by omega)) ?_
          all_goals
            refine o_q _ rfl rfl rfl (v_pick_t rfl rfl rfl) ?_
            refine o_q _ rfl rfl rfl (v_move rfl rfl) ?_
            refine o_g _ rfl rfl rfl rfl (v_move rfl rfl) ?_
            refine o_g _ rfl rfl rfl rfl (v_move rfl rfl) ?_
            refine o_g _ rfl rfl rfl rfl (v_true (v_eql rfl rfl rfl) (by omega)) ?_
            all_goals
              refine o_q _ rfl rfl rfl (v_pick_t rfl rfl rfl) ?_
              refine o_q _ rfl rfl rfl (v_move rfl rfl) ?_
              refine o_g _ rfl rfl rfl rfl (v_move rfl rfl) ?_
              refine o_g _ rfl rfl rfl rfl (v_move rfl rfl) ?_
              refine o_g _ rfl rfl rfl rfl (v_true (v_eql rfl rfl rfl) (by omega)) ?_
              all_goals
                refine o_q _ rfl rfl rfl (v_pick_t rfl rfl rfl) ?_
                refine o_q _ rfl rfl rfl (v_move rfl rfl) ?_
                refine o_g _ rfl rfl rfl rfl (v_move rfl rfl) ?_
                refine o_g _ rfl rfl rfl rfl (v_move rfl rfl) ?_
                refine o_g _ rfl rfl rfl rfl (v_true (v_eql rfl rfl rfl) (by omega)) ?_
                all_goals
                  refine o_q _ rfl rfl rfl (v_pick_t rfl rfl rfl) ?_
                  refine o_q _ rfl rfl rfl (v_move rfl rfl) ?_
                  refine o_g _ rfl rfl rfl rfl (v_move rfl rfl) ?_
                  refine o_g _ rfl rfl rfl rfl (v_move rfl rfl) ?_
                  refine o_g _ rfl rfl rfl rfl (v_true (v_eql rfl rfl rfl) (by omega)) ?_
                  all_goals
                    refine o_q _ rfl rfl rfl (v_pick_t rfl rfl rfl) ?_
                    refine o_q _ rfl rfl rfl (v_move rfl rfl) ?_
                    refine o_g _ rfl rfl rfl rfl (v_move rfl rfl) ?_
                    refine o_g _ rfl rfl rfl rfl (v_move rfl rfl) ?_
                    refine o_g _ rfl rfl rfl rfl (v_true (v_eql rfl rfl rfl) (by omega)) ?_
                    all_goals
                      refine o_q _ rfl rfl rfl (v_pick_t rfl rfl rfl) ?_
                      refine o_q _ rfl rfl rfl (v_move rfl rfl) ?_
                      refine o_g _ rfl rfl rfl rfl (OpQ.fn awake_v rfl rfl SubRC.sub) ?_
                      refine o_q _ rfl rfl rfl (v_pick_t rfl rfl rfl) ?_
                      refine o_q _ rfl rfl rfl (v_assign rfl rfl) ?_
                      refine o_nil ?_
                      with_reducible refine r_then ?_
                      refine r_ret ?_
                      exact r_retv2 (Rd.tmp rfl rfl) rfl SelMC.sel SubRC.sub
end Go.Proofs.Ytienjlmnakbfmaa

namespace Go.G
variable {P : Program} {W : World} {n : Nat} {D : List Deferred} {L : Tm} {M : List Res} {R : List Fact} {Q : Exit → Act → World → Prop} {o : Oper}
/-- It hands back v, and turns one resource into another. -/
abbrev FnC (P : Program) (k : FuncId) (args : List Value) (r : Res) (R0 : List Fact) (v : Value) (r' : Res) : Prop := FnS P k args [r] R0 (fun e M' R' => e = .returned v ∧ M' = [r'] ∧ R' = [])
theorem FnC.intro {k : FuncId} {args : List Value} {r r' : Res} {R0 : List Fact} {v : Value} {fn : Func} {c : Code} (he : ∀ (ag : Array Value) (w : World), (callFunc k ag).run P w = .ok (.enter k ag) w)
    (hf : P.funcs[k]? = some fn) (hb : fn.body = some c) (hn : fn.ntmps = n) (ha : Nat.ble args.length n = true)
    (h : ∀ W Mf Rf, Imp W n [] (argsL args 0) (r :: Mf) (R0 ++ Rf) (c.wp P (bodyPost P fn (RetE W Mf (R0 ++ Rf) (fun e M' R' => e = .returned v ∧ M' = [r'] ∧ R' = []))))) : FnC P k args r R0 v r' := FnS.intro he hf hb hn ha h
theorem p_fnc {ops : Array Oper} {K : List Spc → Prop} {rest : List Oper} {acc : List Spc} {k : FuncId} {args : List Value} {r r' : Res} {R0 : List Fact} {v : Value} {f : Operand} {xs : List Operand} {ts : Array TypeId} {vs : List Value} {d : Nat}
    (h : FnC P k args r R0 v r') (ho : o.op = .call { callee := .value f, args := xs.toArray, argTypes := ts }) (first captured : List Value) (hf : ev L f = some (.func (.func k) first.toArray captured.toArray))
    (hx : evs L xs = some vs) (ha : first ++ vs ++ captured = args) (hg : o.guard = none) (hdst : o.dst = some d) (hd : Nat.blt d n = true) (hs : SubR R R0)
    (hr : ParO P W n M R ops K rest (acc ++ [Spc.qc v [r] [r']]) ((d, v) :: L)) : ParO P W n M R ops K (o :: rest) acc L := by
  refine ⟨Spc.qc v [r] [r'], by simp [hdst, hd], .inl ⟨.inl hg, ?_⟩, by simpa [addL, Spc.qc, hdst] using hr⟩
  intro Mx Rx a w h1 h2
  have h2 : St W (Mx ++ ([r] ++ M)) (Rx ++ R) w := h2
  rw [exec_call first captured ho (h1.ev hf) (h1.evs hx) h.enter, ha]
  have h3 : St W ([r] ++ (Mx ++ M)) (R0 ++ (Rx ++ R)) w := (h2.perm (by
    rw [← List.append_assoc, ← List.append_assoc]
    exact List.perm_append_comm.append_right M)).both (fun φ hφ => List.mem_append_right _ (hs φ hφ))
  refine ⟨rfl, (h.calls W (Mx ++ M) (Rx ++ R) w h3).mono ?_⟩
  rintro e w' ⟨M', R', ⟨rfl, rfl, rfl⟩, hw'⟩
  refine ⟨v, rfl, rfl, ?_⟩
  exact hw'.weak (fun φ hφ => List.mem_append_right _ (List.mem_append_right _ hφ))
theorem f_qc1 {X : Act → World → Prop} {os : List Oper} {ss : List Spc} {v : Value} {pre : List Res} {r' : Res} {d : Nat} (hdst : o.dst = some d) (h : Fin W n D X os ss ((d, v) :: L) (r' :: M) R) : Fin W n D X (o :: os) (Spc.qc v pre [r'] :: ss) L M R := f_qc hdst h
theorem o_fnc {ops : Array Oper} {rest : List Oper} {k : FuncId} {args : List Value} {r r' : Res} {M1 : List Res} {R0 : List Fact} {v : Value} {f : Operand} {xs : List Operand} {ts : Array TypeId} {vs : List Value} {d : Nat}
    (h : FnC P k args r R0 v r') (ho : o.op = .call { callee := .value f, args := xs.toArray, argTypes := ts }) (first captured : List Value) (hf : ev L f = some (.func (.func k) first.toArray captured.toArray))
    (hx : evs L xs = some vs) (ha : first ++ vs ++ captured = args) (hg : o.guard = none) (hdst : o.dst = some d) (hd : Nat.blt d n = true) [hM : DelC M r M1] (hs : SubR R R0)
    (hret : Imp W n D ((d, v) :: L) (r' :: M1) R (wpList P ops Q rest)) : Imp W n D L M R (wpList P ops Q (o :: rest)) := by
  refine o_call h ho first captured hf hx ha hg (by simp [okD, hdst, hd]) (SelM.pick hM.del SelM.refl) hs ?_ ?_ ?_
  · rintro u M' R' ⟨he, rfl, rfl⟩
    cases he
    rw [hdst]
    exact hret
  · rintro c M' R' ⟨he, _⟩; cases he
  · rintro M' R' ⟨he, _⟩; cases he
theorem r_parC1 {id : Nat} {l : List Oper} {M0 : List Res} (r : Res) [hM : DelC M0 r M] (m : Nat) (hm : P.follows .mixedOrders = true) (hpb : parB (l.take m) (l.drop m) = true) (hfr : freshB L (l.take m) = true)
    (h : ParO P W n M R l.toArray (fun ss => preOf ss = [r] ∧ Fin W n D (wpList P l.toArray Q (l.drop m)) (l.take m) ss L M R) (l.take m) [] L) : Imp W n D L M0 R ((Code.region id l.toArray true).wp P Q) :=
  r_parC [r] m (SelM.pick hM.del SelM.refl) hm hpb hfr h
end Go.G

namespace Foot4
open Go Go.G
def T3.put (t : T3) (k : Nat) (x : Int) : T3 := if k = 0 then ⟨x, t.b, t.c⟩ else if k = 1 then ⟨t.a, x, t.c⟩ else ⟨t.a, t.b, x⟩
theorem put_enc {t : T3} {k : Nat} {x : Int} (h : k < 3) : splice (encT t) (0 + k * 1) [i64 x] = encT (t.put k x) := by
  obtain rfl | rfl | rfl : k = 0 ∨ k = 1 ∨ k = 2 := by omega
  all_goals rfl
/-- A plan, by a number: what is left of the number, from the step i on. -/
def madeF (rl : Nat) : Nat → Nat → T3 → Int → Nat → T3
  | 0, _, p, _, _ => p
  | f + 1, i, p, last, m =>
    if (rl : Int) ≤ last + 1 + (m % 3 : Nat) ∨ m / 3 % 5 = 4 then p
    else madeF rl f (i + 1) (p.put i (last + 1 + (m % 3 : Nat))) (last + 1 + (m % 3 : Nat)) (m / 3 / 2)
def madeP (rl m : Nat) : T3 := madeF rl 3 0 noneT (-1) m
theorem madeF_stop {rl f i : Nat} {p : T3} {last : Int} {m : Nat} (h : (rl : Int) ≤ last + 1 + (m % 3 : Nat) ∨ m / 3 % 5 = 4) : madeF rl (f + 1) i p last m = p := if_pos h
theorem madeF_go {rl f i : Nat} {p : T3} {last : Int} {m : Nat} (h : ¬ ((rl : Int) ≤ last + 1 + (m % 3 : Nat) ∨ m / 3 % 5 = 4)) : madeF rl (f + 1) i p last m = madeF rl f (i + 1) (p.put i (last + 1 + (m % 3 : Nat))) (last + 1 + (m % 3 : Nat)) (m / 3 / 2) := if_neg h
theorem made_plan (rl m : Nat) : IsPlan rl (madeP rl m) := by
  have h3 : ∀ m : Nat, m % 3 < 3 := fun m => Nat.mod_lt _ (by omega)
  have key : ∀ a b c : Int, -1 ≤ a → (a < rl ∨ a = -1) → (b = -1 ∨ (0 ≤ a ∧ a < b ∧ b < rl)) → (c = -1 ∨ (0 ≤ b ∧ b < c ∧ c < rl)) → IsPlan rl ⟨a, b, c⟩ := by
    intro a b c h1 h2 h4 h5
    refine ⟨fun k hk => ?_, .inr (.inl rfl), ord1.2 ?_, ord2.2 ?_⟩
    · obtain rfl | rfl | rfl : k = 0 ∨ k = 1 ∨ k = 2 := by omega
      · show -1 ≤ a ∧ a ≤ (rl : Int) - 1; omega
      · show -1 ≤ b ∧ b ≤ (rl : Int) - 1; omega
      · show -1 ≤ c ∧ c ≤ (rl : Int) - 1; omega
    · show b < 0 ∨ 0 ≤ a ∧ a < b; omega
    · show c < 0 ∨ 0 ≤ b ∧ b < c; omega
  have q0 : ∀ x : Int, noneT.put 0 x = ⟨x, -1, -1⟩ := fun _ => rfl
  have q1 : ∀ a b c x : Int, (⟨a, b, c⟩ : T3).put 1 x = ⟨a, x, c⟩ := fun _ _ _ _ => rfl
  have q2 : ∀ a b c x : Int, (⟨a, b, c⟩ : T3).put 2 x = ⟨a, b, x⟩ := fun _ _ _ _ => rfl
  unfold madeP
  simp only [madeF, Nat.zero_add, Nat.reduceAdd, q0, q1, q2]
  split
  · exact key _ _ _ (by decide) (.inr rfl) (.inl rfl) (.inl rfl)
  · rename_i h0
    split
    · exact key _ _ _ (by omega) (.inl (by omega)) (.inl rfl) (.inl rfl)
    · rename_i h1
      split
      · exact key _ _ _ (by omega) (.inl (by omega)) (.inr ⟨by omega, by omega, by omega⟩) (.inl rfl)
      · rename_i h2
        exact key _ _ _ (by omega) (.inl (by omega)) (.inr ⟨by omega, by omega, by omega⟩) (.inr ⟨by omega, by omega, by omega⟩)
@[reducible] def encI (x : Int) : List Value := [i64 x]
@[reducible] def encU (x : Int) : List Value := [.int .u16 x]
def U16s (by_ : List Int) : Prop := ∀ x ∈ by_, 0 ≤ x ∧ x ≤ 65535
def drawP (by_ : List Int) (k : Nat) (s : Span) : Int :=
  if (by_.length : Int) = 0 then s.lo else s.lo + (by_.getD (k % by_.length) 0 + 47 * k).tmod (s.hi - s.lo + 1)
theorem drawP_in {by_ : List Int} (hu : U16s by_) {k : Nat} {s : Span} (h : s.lo ≤ s.hi) : s.lo ≤ drawP by_ k s ∧ drawP by_ k s ≤ s.hi := by
  unfold drawP
  split
  · omega
  · have h0 : 0 ≤ by_.getD (k % by_.length) 0 := by
      by_cases hl : k % by_.length < by_.length
      · have hm : by_.getD (k % by_.length) 0 ∈ by_ := by simp [List.getD_eq_getElem?_getD, hl]
        exact (hu _ hm).1
      · simp [List.getD_eq_getElem?_getD, List.getElem?_eq_none (by omega : by_.length ≤ k % by_.length)]
    have h1 := Int.tmod_nonneg (s.hi - s.lo + 1) (show 0 ≤ by_.getD (k % by_.length) 0 + 47 * (k : Int) by omega)
    have h2 := Int.tmod_lt_of_pos (by_.getD (k % by_.length) 0 + 47 * (k : Int)) (show 0 < s.hi - s.lo + 1 by omega)
    omega
/-- A truth: how much it rains, how wet heaps are at first. -/
structure Tru where
  rain : List Int
  first : List Int
def rainTo (F : Work) (f : Nat → Span → Int) (k : Nat) : List Int := (List.range k).map fun i => f (i + 1) (F.rain.getD i default)
def firstTo (F : Work) (f : Nat → Span → Int) (k : Nat) : List Int := (List.range k).map fun i => f (F.rain.length + i + 1) ⟨(F.heaps.getD i default).lo, (F.heaps.getD i default).hi⟩
def truF (F : Work) (f : Nat → Span → Int) : Tru := ⟨rainTo F f F.rain.length, firstTo F f F.heaps.length⟩
theorem rainTo_next {F : Work} {f : Nat → Span → Int} {k : Nat} : rainTo F f k ++ [f (k + 1) (F.rain.getD k default)] = rainTo F f (k + 1) := by simp [rainTo, List.range_succ]
theorem firstTo_next {F : Work} {f : Nat → Span → Int} {k : Nat} : firstTo F f k ++ [f (F.rain.length + k + 1) ⟨(F.heaps.getD k default).lo, (F.heaps.getD k default).hi⟩] = firstTo F f (k + 1) := by simp [firstTo, List.range_succ]
theorem rainTo_len {F : Work} {f : Nat → Span → Int} {k : Nat} : (rainTo F f k).length = k := by simp [rainTo]
theorem firstTo_len {F : Work} {f : Nat → Span → Int} {k : Nat} : (firstTo F f k).length = k := by simp [firstTo]
abbrev trulyT (F : Work) (by_ : List Int) : Tru := truF F (drawP by_)
abbrev endsT (F : Work) (wettest : Bool) : Tru := truF F (fun _ s => if wettest then s.hi else s.lo)
@[reducible] def valT (t : Tru) (ra fa : Option Addr) (rc fc : Nat) : Value := .agg #[.slice ra t.rain.length rc, .slice fa t.first.length fc]
/-- A truth that fits. -/
structure GoodT (F : Work) (t : Tru) : Prop where
  rl : t.rain.length = F.rain.length
  fl : t.first.length = F.heaps.length
  rain : ∀ k, k < F.rain.length → (F.rain.getD k default).lo ≤ t.rain.getD k 0 ∧ t.rain.getD k 0 ≤ (F.rain.getD k default).hi
  first : ∀ k, k < F.heaps.length → (F.heaps.getD k default).lo ≤ t.first.getD k 0 ∧ t.first.getD k 0 ≤ (F.heaps.getD k default).hi
theorem good_truF {F : Work} (hg : GoodF F) {f : Nat → Span → Int} (hf : ∀ k s, s.lo ≤ s.hi → s.lo ≤ f k s ∧ f k s ≤ s.hi) : GoodT F (truF F f) := by
  refine ⟨rainTo_len, firstTo_len, fun k hk => ?_, fun k hk => ?_⟩
  · have e : (truF F f).rain.getD k 0 = f (k + 1) (F.rain.getD k default) := by simp [truF, rainTo, List.getD_eq_getElem?_getD, hk]
    rw [e]
    exact hf _ _ (hg.2.2.2.1 k hk).2.1
  · have e : (truF F f).first.getD k 0 = f (F.rain.length + k + 1) ⟨(F.heaps.getD k default).lo, (F.heaps.getD k default).hi⟩ := by simp [truF, firstTo, List.getD_eq_getElem?_getD, hk]
    rw [e]
    exact hf _ ⟨_, _⟩ (hg.2.2.2.2.2 k hk).1.2.1
theorem good_truly {F : Work} (hg : GoodF F) {by_ : List Int} (hu : U16s by_) : GoodT F (trulyT F by_) := good_truF hg (fun _ _ h => drawP_in hu h)
theorem good_ends {F : Work} (hg : GoodF F) (b : Bool) : GoodT F (endsT F b) := good_truF hg (fun _ s h => by cases b <;> simp <;> omega)
/-- How wet a heap is, and how many steps are done, in a truth. -/
def wS (F : Work) (t : Tru) (heap : Nat) (p : T3) : Nat → Int × Nat
  | 0 => (t.first.getD heap 0, 0)
  | d + 1 =>
    let s := wS F t heap p d
    let k := if s.2 < 3 ∧ p.at s.2 = d then s.2 + 1 else s.2
    (if k < 3 then step s.1 (t.rain.getD d 0) (F.dr.at k) else s.1, k)
def wetT (F : Work) (t : Tru) (heap : Nat) (p : T3) (d : Nat) : Int := (wS F t heap p d).1
def wetL (F : Work) (t : Tru) (heap : Nat) (p : T3) (k : Nat) : List Int := (List.range (k + 1)).map (wetT F t heap p)
theorem wetL_next {F : Work} {t : Tru} {heap : Nat} {p : T3} {k : Nat} : wetL F t heap p k ++ [wetT F t heap p (k + 1)] = wetL F t heap p (k + 1) := by
  unfold wetL; rw [List.range_succ (n := k + 1)]; simp
theorem wetL_len {F : Work} {t : Tru} {heap : Nat} {p : T3} {k : Nat} : (wetL F t heap p k).length = k + 1 := by simp [wetL]
theorem wetL_at {F : Work} {t : Tru} {heap : Nat} {p : T3} {k d : Nat} (h : d ≤ k) : (wetL F t heap p k).getD d 0 = wetT F t heap p d := by simp [wetL, List.getD_eq_getElem?_getD, show d < k + 1 from by omega]
theorem wS_le {F : Work} {t : Tru} {heap : Nat} {p : T3} : ∀ d, (wS F t heap p d).2 ≤ 3
  | 0 => Nat.zero_le _
  | d + 1 => by
    have := wS_le (F := F) (t := t) (heap := heap) (p := p) d
    simp only [wS]
    split <;> omega
theorem wetT_bd {F : Work} (hg : GoodF F) {t : Tru} (ht : GoodT F t) {heap : Nat} (hh : heap < F.heaps.length) {p : T3} : ∀ d, d ≤ F.rain.length → 0 ≤ wetT F t heap p d ∧ wetT F t heap p d ≤ 60 + 10 * d
  | 0, _ => by
    have h1 := (hg.2.2.2.2.2 heap hh).1
    have h2 := ht.first heap hh
    show 0 ≤ t.first.getD heap 0 ∧ t.first.getD heap 0 ≤ 60 + 10 * ((0 : Nat) : Int)
    omega
  | d + 1, hd => by
    have ih := wetT_bd hg ht hh (p := p) d (by omega)
    have h1 := hg.2.2.2.1 d (by omega)
    have h2 := ht.rain d (by omega)
    unfold wetT at ih ⊢
    simp only [wS]
    generalize hk : (if (wS F t heap p d).2 < 3 ∧ p.at (wS F t heap p d).2 = d then (wS F t heap p d).2 + 1 else (wS F t heap p d).2) = k
    split
    · have h3 := hg.bnd.dr k
      have := step_bd ih.1 ih.2 (show 0 ≤ t.rain.getD d 0 by omega) (by omega) h3.1
      omega
    · omega
def keepsB (F : Work) (t : Tru) (heap : Nat) (p : T3) (i : Nat) : Prop := p.at i < 0 ∨ wetT F t heap p (p.at i).toNat ≤ F.lim.at i
instance (F : Work) (t : Tru) (heap : Nat) (p : T3) (i : Nat) : Decidable (keepsB F t heap p i) := by unfold keepsB; infer_instance
def keepsT (F : Work) (t : Tru) (heap : Nat) (p : T3) : Prop := ∀ i, i < 3 → keepsB F t heap p i
instance (F : Work) (t : Tru) (heap : Nat) (p : T3) : Decidable (keepsT F t heap p) := by unfold keepsT; infer_instance
theorem encI_len (x : Int) : (encI x).length = 1 := rfl
end Foot4
namespace Foot4
open Go Go.G
section
variable {F : Work} {t : Tru} {heap : Nat} {p : T3} {k w : Nat} {n : Int}
theorem wS_1 (hs : wS F t heap p k = (n, w)) (h1 : w < 3 ∧ p.at w = k) (h2 : w + 1 < 3) : wS F t heap p (k + 1) = (step n (t.rain.getD k 0) (F.dr.at (w + 1)), w + 1) := by simp only [wS, hs, if_pos h1, if_pos h2]
theorem wS_2 (hs : wS F t heap p k = (n, w)) (h1 : w < 3 ∧ p.at w = k) (h2 : ¬ w + 1 < 3) : wS F t heap p (k + 1) = (n, w + 1) := by simp only [wS, hs, if_pos h1, if_neg h2]
theorem wS_3 (hs : wS F t heap p k = (n, w)) (h1 : ¬ (w < 3 ∧ p.at w = k)) (h2 : w < 3) : wS F t heap p (k + 1) = (step n (t.rain.getD k 0) (F.dr.at w), w) := by simp only [wS, hs, if_neg h1, if_pos h2]
theorem wS_4 (hs : wS F t heap p k = (n, w)) (h1 : ¬ (w < 3 ∧ p.at w = k)) (h2 : ¬ w < 3) : wS F t heap p (k + 1) = (n, w) := by simp only [wS, hs, if_neg h1, if_neg h2]
end
end Foot4

namespace Go.Proofs.Ytienjlmnakbfmaa
open Go.G Foot4
set_option maxRecDepth 1000000
attribute [local irreducible] G.ParO G.Fin
set_option maxHeartbeats 4000000 in
theorem fine_v (F : Work) (ro ho : Option Addr) (rc hc : Nat) : FnV Try.prog 31 [valF F ro rc ho hc] [rowD ro 2 encS F.rain, rowD ho 3 encH F.heaps] (.bool (decide (GoodF F))) := by
  refine FnV.intro Try.call31 Try.func31 rfl Try.ntmps31 rfl ?_
  intro W M Rf
  refine r_seq ?_
  refine r_region ?_
  refine o_boxA rfl rfl rfl rfl rfl (fun b1 => ?_)
  refine o_q _ rfl rfl rfl (v_assign rfl rfl) ?_
  refine o_nil ?_
  with_reducible refine r_then ?_
  refine r_seq ?_
  refine r_region ?_
  refine o_q _ rfl rfl rfl (v_ldW rfl Try.underlying26 rfl inf26 rfl rfl) ?_
  refine o_test rfl rfl rfl (OpQ.fn (far_v F ro ho rc hc _ _ _) rfl rfl SubRC.sub) (fun h4 => ?_) (fun h4 => ?_)
  all_goals
    refine o_q _ rfl rfl rfl (v_not rfl rfl) ?_
    refine o_q _ rfl rfl rfl (v_move rfl rfl) ?_
    first | refine o_gn rfl rfl rfl rfl ?_ | refine o_g _ rfl rfl rfl rfl (v_ldW rfl Try.underlying26 rfl inf26 rfl rfl) ?_
    first | refine o_gn rfl rfl rfl rfl ?_ | refine o_g _ rfl rfl rfl rfl (OpQ.fn (Foot_v F ro ho rc hc (by omega) (by omega)) rfl rfl SubRC.sub) ?_
    first | refine o_q _ rfl rfl rfl (v_pick_t rfl rfl rfl) ?_ | refine o_q _ rfl rfl rfl (v_pick_f rfl rfl rfl) ?_
    refine o_q _ rfl rfl rfl (v_assign rfl rfl) ?_
    refine o_nil ?_
    with_reducible refine r_then ?_
    refine r_ret ?_
    first
    | exact r_retv2 (Rd.tmp rfl rfl) rfl SelMC.sel SubRC.sub
    | exact r_retv2 (Rd.tmp rfl rfl) (congrArg Value.bool (decide_eq_false (fun g => by have := g.1; have := g.2.2.1; omega)).symm) SelMC.sel SubRC.sub
set_option maxHeartbeats 4000000 in
theorem inside_v (x lo hi : Int) : FnV Try.prog 35 [i64 x, .agg #[i64 lo, i64 hi]] [] (.bool (decide (lo ≤ x ∧ x ≤ hi))) := by
  refine FnV.intro Try.call35 Try.func35 rfl Try.ntmps35 rfl ?_
  intro W M Rf
  refine r_seq ?_
  refine r_region ?_
  refine o_boxA rfl rfl rfl rfl rfl (fun b3 => ?_)
  refine o_q _ rfl rfl rfl (v_assign rfl rfl) ?_
  refine o_nil ?_
  with_reducible refine r_then ?_
  refine r_seq ?_
  refine r_region ?_
  refine o_q _ rfl rfl rfl (v_fieldAddr rfl Try.underlying31 inf3 rfl rfl rfl rfl) ?_
  refine o_q _ rfl rfl rfl (v_ld1 rfl Try.underlying3 rfl rfl rfl) ?_
  refine o_q _ rfl rfl rfl (v_move rfl rfl) ?_
  refine o_test rfl rfl rfl (v_leq rfl rfl rfl) (fun h8 => ?_) (fun h8 => ?_)
  all_goals
    refine o_q _ rfl rfl rfl (v_move rfl rfl) ?_
    first | refine o_gn rfl rfl rfl rfl ?_ | refine o_g _ rfl rfl rfl rfl (v_move rfl rfl) ?_
    first | refine o_gn rfl rfl rfl rfl ?_ | refine o_g _ rfl rfl rfl rfl (v_fieldAddr rfl Try.underlying31 inf3 rfl rfl rfl rfl) ?_
    first | refine o_gn rfl rfl rfl rfl ?_ | refine o_g _ rfl rfl rfl rfl (v_ld1 rfl Try.underlying3 rfl rfl rfl) ?_
    first | refine o_gn rfl rfl rfl rfl ?_ | refine o_gtest rfl rfl rfl rfl (v_leq rfl rfl rfl) (fun h13 => ?_) (fun h13 => ?_)
    all_goals
      first | refine o_q _ rfl rfl rfl (v_pick_t rfl rfl rfl) ?_ | refine o_q _ rfl rfl rfl (v_pick_f rfl rfl rfl) ?_
      refine o_q _ rfl rfl rfl (v_assign rfl rfl) ?_
      refine o_nil ?_
      with_reducible refine r_then ?_
      refine r_ret ?_
      first | exact r_retv2 (Rd.tmp rfl rfl) (congrArg Value.bool (decide_eq_true (by omega)).symm) SelMC.sel SubRC.sub | exact r_retv2 (Rd.tmp rfl rfl) (congrArg Value.bool (decide_eq_false (by omega)).symm) SelMC.sel SubRC.sub
theorem tmod_nat {a b : Nat} : ((a : Int)).tmod (b : Int) = ((a % b : Nat) : Int) := by
  rw [Int.tmod_eq_emod_of_nonneg (by omega)]; rfl
theorem tdiv_nat {a b : Nat} : ((a : Int)).tdiv (b : Int) = ((a / b : Nat) : Int) := by
  rw [Int.tdiv_eq_ediv_of_nonneg (by omega)]; rfl
set_option maxHeartbeats 4000000 in
theorem made_v (F : Work) (ro ho : Option Addr) (rc hc : Nat) (m0 : Nat) (hm : m0 ≤ 65535) (hr : F.rain.length ≤ 40) : FnV Try.prog 32 [valF F ro rc ho hc, i64 m0] [rowD ro 2 encS F.rain, rowD ho 3 encH F.heaps] (.agg #[i64 (madeP F.rain.length m0).a, i64 (madeP F.rain.length m0).b, i64 (madeP F.rain.length m0).c]) := by
  refine FnV.intro Try.call32 Try.func32 rfl Try.ntmps32 rfl ?_
  intro W M Rf
  refine r_seq ?_
  refine r_region ?_
  refine o_boxA rfl rfl rfl rfl rfl (fun b2 => ?_)
  refine o_alloc rfl inf27 rfl rfl rfl rfl rfl (fun b4 => ?_)
  refine o_nil ?_
  with_reducible refine r_then ?_
  refine r_seq ?_
  refine r_region ?_
  refine o_q _ rfl rfl rfl (OpQ.fn None_v rfl rfl SubRC.sub) ?_
  refine o_alloc rfl inf27 rfl rfl rfl rfl rfl (fun b5 => ?_)
  refine o_st rfl inf27 rfl rfl rfl rfl rfl rfl rfl rfl ?_
  refine o_nil ?_
  with_reducible refine r_then ?_
  refine r_seq ?_
  refine r_region ?_
  refine o_q _ rfl rfl rfl (v_assign rfl rfl) ?_
  refine o_nil ?_
  with_reducible refine r_then ?_
  refine r_seq ?_
  refine r_seq ?_
  refine r_region ?_
  refine o_q _ rfl rfl rfl (v_move rfl rfl) ?_
  refine o_nil ?_
  with_reducible refine r_then ?_
  refine r_block ?_
  refine r_loop (ι := Nat × T3 × Int × Nat) (fun gh => gh.1 ≤ 3 ∧ madeF F.rain.length (3 - gh.1) gh.1 gh.2.1 gh.2.2.1 gh.2.2.2 = madeP F.rain.length m0 ∧ gh.2.2.2 ≤ 65535 ∧ -1 ≤ gh.2.2.1 ∧ gh.2.2.1 ≤ 41) (fun gh => [(1, i64 gh.2.2.2), (2, pt b2 0), (4, pt b4 0), (5, pt b5 0), (6, i64 gh.2.2.1), (10, i64 gh.1)]) (fun gh => bx b5 27 (encT gh.2.1) :: bx b4 27 [i64 0, i64 0, i64 0] :: bx b2 26 (cellsF F ro rc ho hc) :: M) (fun gh => [rowD ro 2 encS F.rain, rowD ho 3 encH F.heaps] ++ Rf) (fun gh => 3 - gh.1) (0, noneT, -1, m0) ?_ ?_ ?_
  ·
    refine Imp.box_to b5 (encT noneT) rfl ?_
    refine Imp.box_to b4 [i64 0, i64 0, i64 0] rfl ?_
    exact r_here (by repeat (first | exact FSub.nil | refine FSub.cons rfl ?_)) SelMC.sel SubRC.sub
  ·
    exact ⟨by omega, rfl, hm, show (-1 : Int) ≤ -1 by decide, show (-1 : Int) ≤ 41 by decide⟩
  ·
    rintro ⟨i, p, last, m⟩ hI0
    dsimp only at hI0
    dsimp only
    have hI1 : i ≤ 3 := hI0.1
    have hm3 : m ≤ 65535 := hI0.2.2.1
    have hla : -1 ≤ last ∧ last ≤ 41 := hI0.2.2.2
    refine r_seq ?_
    refine r_region ?_
    refine o_q _ rfl rfl rfl (v_lss rfl rfl rfl) ?_
    refine o_nil ?_
    with_reducible refine r_then ?_
    refine r_seq ?_
    refine r_condd rfl (fun hc11 => ?_) (fun hc11 => ?_)
    ·
      refine r_skip ?_
      with_reducible refine r_then ?_
      refine r_seq ?_
      refine r_block ?_
      refine r_seq ?_
      refine r_region ?_
      refine o_q _ rfl rfl rfl (v_move rfl rfl) ?_
      refine o_q _ rfl rfl rfl (v_assign rfl rfl) ?_
      refine o_nil ?_
      with_reducible refine r_then ?_
      refine r_seq ?_
      refine r_region ?_
      refine o_q _ rfl rfl rfl (v_move rfl rfl) ?_
      refine o_q _ rfl rfl rfl (v_add rfl rfl rfl (by omega)) ?_
      refine o_q _ rfl rfl rfl (v_move rfl rfl) ?_
      refine o_q _ rfl rfl rfl (v_cast (v := i64 ((m % 3 : Nat) : Int)) (v_rem rfl rfl rfl (by decide)) (congrArg (Value.int .i64) (tmod_nat (a := m) (b := 3)))) ?_
      refine o_q _ rfl rfl rfl (v_add rfl rfl rfl (by omega)) ?_
      refine o_q _ rfl rfl rfl (v_assign rfl rfl) ?_
      refine o_nil ?_
      with_reducible refine r_then ?_
      refine r_seq ?_
      refine r_region ?_
      refine o_q _ rfl rfl rfl (v_move rfl rfl) ?_
      refine o_q _ rfl rfl rfl (v_cast (v := i64 ((m / 3 : Nat) : Int)) (v_quo rfl rfl rfl (by decide) (by rw [show ((m : Nat) : Int).tdiv 3 = ((m / 3 : Nat) : Int) from tdiv_nat (a := m) (b := 3)]; omega)) (congrArg (Value.int .i64) (tdiv_nat (a := m) (b := 3)))) ?_
      refine o_q _ rfl rfl rfl (v_assign rfl rfl) ?_
      refine o_nil ?_
      with_reducible refine r_then ?_
      refine r_seq ?_
      refine r_seq ?_
      refine r_region ?_
      refine o_q _ rfl rfl rfl (v_move rfl rfl) ?_
      refine o_q _ rfl rfl rfl (v_fieldAddr rfl Try.underlying26 inf22 rfl rfl rfl rfl) ?_
      refine o_q _ rfl rfl rfl (v_ld1 rfl Try.underlying22 rfl rfl rfl) ?_
      refine o_q _ rfl rfl rfl (v_len rfl rfl Try.underlying22 rfl) ?_
      refine o_test rfl rfl rfl (v_geq rfl rfl rfl) (fun h24 => ?_) (fun h24 => ?_)
      all_goals
        refine o_q _ rfl rfl rfl (v_move rfl rfl) ?_
        first | refine o_gn rfl rfl rfl rfl ?_ | refine o_g _ rfl rfl rfl rfl (v_move rfl rfl) ?_
        first | refine o_gn rfl rfl rfl rfl ?_ | refine o_g _ rfl rfl rfl rfl (v_cast (v := i64 (((m / 3) % 5 : Nat) : Int)) (v_rem rfl rfl rfl (by decide)) (congrArg (Value.int .i64) (tmod_nat (a := (m / 3)) (b := 5)))) ?_
        first | refine o_gn rfl rfl rfl rfl ?_ | refine o_gtest rfl rfl rfl rfl (v_eql rfl rfl rfl) (fun h28 => ?_) (fun h28 => ?_)
        all_goals
          first | refine o_q _ rfl rfl rfl (v_pick_t rfl rfl rfl) ?_ | refine o_q _ rfl rfl rfl (v_pick_f rfl rfl rfl) ?_
          refine o_nil ?_
          with_reducible refine r_then ?_
          refine r_cond rfl (fun hc29 => ?_) (fun hc29 => ?_)
          ·
            first
            | (exfalso; revert hc29; decide)
            | skip
              refine r_exit ?_
              with_reducible refine r_then_exit ?_; (refine r_in_past (by decide) ?_); refine r_then_exit ?_; refine r_then_exit ?_; refine r_in_here ?_; refine r_then ?_
              refine r_seq ?_
              refine r_region ?_
              refine o_q _ rfl rfl rfl (v_ldW rfl Try.underlying27 rfl inf27 rfl rfl) ?_
              refine o_st rfl inf27 rfl rfl rfl rfl rfl rfl rfl rfl ?_
              refine o_nil ?_
              with_reducible refine r_then ?_
              refine r_ret ?_
              have hp : p = madeP F.rain.length m0 := by
                rw [← hI0.2.1]
                by_cases h3 : i = 3
                · subst h3; rfl
                · rw [show 3 - i = (3 - (i + 1)) + 1 from by omega]; exact (madeF_stop (by omega)).symm
              subst hp
              exact r_retv2 (Rd.one rfl (RdI.cellW Try.underlying27 rfl inf27 rfl rfl)) rfl SelMC.sel SubRC.sub
          ·
            first
            | (exfalso; revert hc29; decide)
            | skip
              refine r_skip ?_
              with_reducible refine r_then ?_
              refine r_seq ?_
              refine r_region ?_
              refine o_q _ rfl rfl rfl (v_move rfl rfl) ?_
              refine o_q _ rfl rfl rfl (v_move rfl rfl) ?_
              refine o_q _ rfl rfl rfl (v_move rfl rfl) ?_
              refine o_q _ rfl rfl rfl (v_indexAddrAn rfl Try.underlying27 inf3 rfl rfl (by omega)) ?_
              refine o_st (B := 27) (vs := encT p) rfl inf3 rfl rfl rfl rfl rfl rfl rfl (ble1 (by show i < 3; omega)) ?_
              refine o_q _ rfl rfl rfl (v_assign rfl rfl) ?_
              refine o_nil ?_
              with_reducible refine r_then ?_
              refine r_region ?_
              refine o_q _ rfl rfl rfl (v_move rfl rfl) ?_
              refine o_q _ rfl rfl rfl (v_cast (v := i64 (((m / 3) / 2 : Nat) : Int)) (v_quo rfl rfl rfl (by decide) (by rw [show (((m / 3) : Nat) : Int).tdiv 2 = (((m / 3) / 2 : Nat) : Int) from tdiv_nat (a := (m / 3)) (b := 2)]; omega)) (congrArg (Value.int .i64) (tdiv_nat (a := (m / 3)) (b := 2)))) ?_
              refine o_q _ rfl rfl rfl (v_assign rfl rfl) ?_
              refine o_nil ?_
              with_reducible refine r_in_normal ?_; refine r_then ?_
              refine r_region ?_
              refine o_q _ rfl rfl rfl (v_add rfl rfl rfl (by omega)) ?_
              refine o_q _ rfl rfl rfl (v_move rfl rfl) ?_
              refine o_nil ?_
              with_reducible refine r_then ?_
              exact r_next ((i + 1, p.put i (last + 1 + (m % 3 : Nat)), last + 1 + (m % 3 : Nat), m / 3 / 2)) (by refine Imp.box_to b5 (encT (p.put i (last + 1 + (m % 3 : Nat)))) (put_enc (by omega)) ?_; exact r_here (by repeat (first | exact FSub.nil | refine FSub.cons rfl ?_)) SelMC.sel SubRC.sub) (by exact ⟨by show i + 1 ≤ 3; omega, by rw [← hI0.2.1, show 3 - i = (3 - (i + 1)) + 1 from by omega]; exact (madeF_go (by omega)).symm, by show m / 3 / 2 ≤ 65535; omega, by show -1 ≤ last + 1 + ((m % 3 : Nat) : Int); omega, by show last + 1 + ((m % 3 : Nat) : Int) ≤ 41; omega⟩) (by first | omega | (show _ - (_ + 1) < _ - _; omega))
    ·
      refine r_exit ?_
      with_reducible refine r_then_exit ?_; refine r_then_exit ?_; refine r_in_here ?_; refine r_then ?_
      refine r_seq ?_
      refine r_region ?_
      refine o_q _ rfl rfl rfl (v_ldW rfl Try.underlying27 rfl inf27 rfl rfl) ?_
      refine o_st rfl inf27 rfl rfl rfl rfl rfl rfl rfl rfl ?_
      refine o_nil ?_
      with_reducible refine r_then ?_
      refine r_ret ?_
      have hp : p = madeP F.rain.length m0 := by
        rw [← hI0.2.1]
        by_cases h3 : i = 3
        · subst h3; rfl
        · rw [show 3 - i = (3 - (i + 1)) + 1 from by omega]; exact (madeF_stop (by omega)).symm
      subst hp
      exact r_retv2 (Rd.one rfl (RdI.cellW Try.underlying27 rfl inf27 rfl rfl)) rfl SelMC.sel SubRC.sub
theorem u16_at {bys : List Int} (hu : U16s bys) (i : Nat) : 0 ≤ bys.getD i 0 ∧ bys.getD i 0 ≤ 65535 := by
  by_cases hl : i < bys.length
  · have hm : bys.getD i 0 ∈ bys := by simp [List.getD_eq_getElem?_getD, hl]
    exact hu _ hm
  · simp [List.getD_eq_getElem?_getD, List.getElem?_eq_none (by omega : bys.length ≤ i)]
theorem drawP_0 {bys : List Int} {k : Nat} {s : Span} (h : (bys.length : Int) = 0) : drawP bys k s = s.lo := if_pos h
theorem drawP_1 {bys : List Int} {k : Nat} {s : Span} (h : ¬ (bys.length : Int) = 0) : drawP bys k s = s.lo + (bys.getD (k % bys.length) 0 + 47 * k).tmod (s.hi - s.lo + 1) := if_neg h
set_option maxHeartbeats 4000000 in
theorem draw1_c (bys : List Int) (ba : Option Addr) (bc : Nat) (hu : U16s bys) (hbl : bys.length ≤ 9223372036854775807) (ab bb k : Nat) (s : Span) (hk : k ≤ 1000) (hs : s.lo ≤ s.hi) (h0 : -1000 ≤ s.lo) (h1 : s.hi ≤ 1000) : FnC Try.prog 102 [.agg #[i64 s.lo, i64 s.hi], pt ab 0, pt bb 0] (bx ab 3 [i64 k]) [boxF bb 50 [.slice ba bys.length bc], rowD ba 1 encU bys] (i64 (drawP bys (k + 1) s)) (bx ab 3 [i64 ((k + 1 : Nat) : Int)]) := by
  refine FnC.intro Try.call102 Try.func102 rfl Try.ntmps102 rfl ?_
  intro W M Rf
  refine r_seq ?_
  refine r_region ?_
  refine o_boxA rfl rfl rfl rfl rfl (fun b3 => ?_)
  refine o_q _ rfl rfl rfl (v_assign rfl rfl) ?_
  refine o_nil ?_
  with_reducible refine r_then ?_
  refine r_seq ?_
  refine Imp.box_to ab [i64 k] rfl ?_
  refine r_region ?_
  refine o_q _ rfl rfl rfl (v_ld1 rfl Try.underlying3 rfl rfl rfl) ?_
  refine o_q _ rfl rfl rfl (v_add rfl rfl rfl (by omega)) ?_
  refine o_st rfl inf3 rfl rfl rfl rfl rfl rfl rfl rfl ?_
  refine o_nil ?_
  with_reducible refine r_then ?_
  refine r_seq ?_
  refine r_seq ?_
  refine r_region ?_
  refine o_q _ rfl rfl rfl (v_lf1 rfl Try.underlying50 rfl rfl rfl) ?_
  refine o_q _ rfl rfl rfl (v_len rfl rfl Try.underlying50 rfl) ?_
  refine o_q _ rfl rfl rfl (v_eql rfl rfl rfl) ?_
  refine o_nil ?_
  with_reducible refine r_then ?_
  refine r_condd rfl (fun hc9 => ?_) (fun hc9 => ?_)
  ·
    refine r_seq ?_
    refine Imp.box_to ab [i64 ((k + 1 : Nat) : Int)] rfl ?_
    refine r_region ?_
    refine o_q _ rfl rfl rfl (v_fieldAddr rfl Try.underlying31 inf3 rfl rfl rfl rfl) ?_
    refine o_q _ rfl rfl rfl (v_ld1 rfl Try.underlying3 rfl rfl rfl) ?_
    refine o_q _ rfl rfl rfl (v_assign rfl rfl) ?_
    refine o_nil ?_
    with_reducible refine r_then ?_
    refine r_ret ?_
    with_reducible refine r_then_ret ?_
    exact r_rete [bx ab 3 [i64 ((k + 1 : Nat) : Int)]] [] (Rd.tmp rfl rfl) ⟨congrArg Ending.returned (congrArg (Value.int .i64) (drawP_0 (by assumption)).symm), rfl, rfl⟩ SelMC.sel SubRC.sub
  ·
    refine r_skip ?_
    with_reducible refine r_then ?_
    refine r_seq ?_
    have hpos : 0 < bys.length := by omega
    have hlt : (k + 1) % bys.length < bys.length := Nat.mod_lt _ hpos
    have hat := u16_at hu ((k + 1) % bys.length)
    refine Imp.box_to ab [i64 ((k + 1 : Nat) : Int)] rfl ?_
    refine r_region_q mixed (by kernel_rfl) ?_
    refine q_q _ rfl rfl rfl (v_fieldAddr rfl Try.underlying31 inf3 rfl rfl rfl rfl) ?_
    refine q_q _ rfl rfl rfl (v_ld1 rfl Try.underlying3 rfl rfl rfl) ?_
    refine q_q _ rfl rfl rfl (v_lf1 rfl Try.underlying50 rfl rfl rfl) ?_
    refine q_q _ rfl rfl rfl (v_ld1 rfl Try.underlying3 rfl rfl rfl) ?_
    refine q_q _ rfl rfl rfl (v_lf1 rfl Try.underlying50 rfl rfl rfl) ?_
    refine q_q _ rfl rfl rfl (v_len rfl rfl Try.underlying50 rfl) ?_
    refine q_q _ rfl rfl rfl (v_cast (v := i64 (((k + 1) % bys.length : Nat) : Int)) (v_rem rfl rfl rfl (by omega)) (congrArg (Value.int .i64) (tmod_nat (a := k + 1) (b := bys.length)))) ?_
    refine q_q _ rfl rfl rfl (v_indexAddrSn rfl Try.underlying50 inf49 rfl rfl rfl (by omega) rfl) ?_
    refine q_q _ rfl rfl rfl (v_loadE1 (v := .int .u16 (bys.getD ((k + 1) % bys.length) 0)) rfl Try.underlying49 rfl rfl hlt rfl rfl) ?_
    refine q_q _ rfl rfl rfl (v_conv rfl Try.underlying49 Try.underlying3 rfl (IntWalk.i64_in _ (by omega))) ?_
    refine q_q _ rfl rfl rfl (v_ld1 rfl Try.underlying3 rfl rfl rfl) ?_
    refine q_q _ rfl rfl rfl (v_mul rfl rfl rfl (by omega)) ?_
    refine q_q _ rfl rfl rfl (v_add rfl rfl rfl (by omega)) ?_
    refine q_q _ rfl rfl rfl (v_fieldAddr rfl Try.underlying31 inf3 rfl rfl rfl rfl) ?_
    refine q_q _ rfl rfl rfl (v_ld1 rfl Try.underlying3 rfl rfl rfl) ?_
    refine q_q _ rfl rfl rfl (v_fieldAddr rfl Try.underlying31 inf3 rfl rfl rfl rfl) ?_
    refine q_q _ rfl rfl rfl (v_ld1 rfl Try.underlying3 rfl rfl rfl) ?_
    refine q_q _ rfl rfl rfl (v_sub rfl rfl rfl (by omega)) ?_
    refine q_q _ rfl rfl rfl (v_add rfl rfl rfl (by omega)) ?_
    refine q_q _ rfl rfl rfl (v_rem rfl rfl rfl (by omega)) ?_
    refine q_q _ rfl rfl rfl (v_add rfl rfl rfl (by have h2 := Int.tmod_nonneg (s.hi - s.lo + 1) (show 0 ≤ (bys.getD ((k + 1) % bys.length) 0) + 47 * ((k + 1 : Nat) : Int) by omega); have h3 := Int.tmod_lt_of_pos ((bys.getD ((k + 1) % bys.length) 0) + 47 * ((k + 1 : Nat) : Int)) (show 0 < s.hi - s.lo + 1 by omega); omega)) ?_
    refine q_q _ rfl rfl rfl (v_assign rfl rfl) ?_
    refine q_nil ?_
    with_reducible refine r_then ?_
    refine r_ret ?_
    exact r_rete [bx ab 3 [i64 ((k + 1 : Nat) : Int)]] [] (Rd.tmp rfl rfl) ⟨congrArg Ending.returned (congrArg (Value.int .i64) (drawP_1 (by assumption)).symm), rfl, rfl⟩ SelMC.sel SubRC.sub
end Go.Proofs.Ytienjlmnakbfmaa

namespace Go.Proofs.Ytienjlmnakbfmaa
open Go.G Foot4
set_option maxRecDepth 1000000
attribute [local irreducible] G.ParO G.Fin
set_option maxHeartbeats 4000000 in
theorem draws_s (bys : List Int) (ba : Option Addr) (bc : Nat) : FnS Try.prog 76 [.slice ba bys.length bc] [] [] (fun e M' R' => ∃ ab bb, e = .returned (.func (.func 102) #[] #[pt ab 0, pt bb 0]) ∧ M' = [bx ab 3 [i64 ((0 : Nat) : Int)]] ∧ R' = [boxF bb 50 [.slice ba bys.length bc]]) := by
  refine FnS.intro0 Try.call76 Try.func76 rfl Try.ntmps76 rfl ?_
  intro W M Rf
  refine r_seq ?_
  refine r_region ?_
  refine o_box1 rfl rfl rfl rfl rfl rfl (fun b1 => ?_)
  refine o_q _ rfl rfl rfl (v_assign rfl rfl) ?_
  refine o_nil ?_
  with_reducible refine r_then ?_
  refine r_seq ?_
  refine r_region ?_
  refine o_alloc rfl inf3 rfl rfl rfl rfl rfl (fun b3 => ?_)
  refine o_st rfl inf3 rfl rfl rfl rfl rfl rfl rfl rfl ?_
  refine o_nil ?_
  with_reducible refine r_then ?_
  refine r_seq ?_
  refine Imp.sealB b1 ?_
  refine r_region ?_
  refine o_q _ rfl rfl rfl (v_makeFunc rfl rfl rfl) ?_
  refine o_q _ rfl rfl rfl (v_assign rfl rfl) ?_
  refine o_nil ?_
  with_reducible refine r_then ?_
  refine r_ret ?_
  refine Imp.box_to b3 [i64 ((0 : Nat) : Int)] rfl ?_
  exact r_rete [bx b3 3 [i64 ((0 : Nat) : Int)]] [boxF b1 50 [.slice ba bys.length bc]] (Rd.tmp rfl rfl) ⟨b3, b1, rfl, rfl, rfl⟩ SelMC.sel SubRC.sub
theorem o_draws {W : World} {n : Nat} {D : List Deferred} {L : Tm} {M : List Res} {R : List Fact} {Q : Exit → Act → World → Prop} {o : Oper} {ops : Array Oper} {rest : List Oper} {xs : List Operand} {ts : Array TypeId} {d : Nat} (bys : List Int) (ba : Option Addr) (bc : Nat)
    (ho : o.op = .call { callee := .value (.func 76), args := xs.toArray, argTypes := ts }) (hx : evs L xs = some [.slice ba bys.length bc]) (hg : o.guard = none) (hdst : o.dst = some d) (hd : Nat.blt d n = true)
    (hret : ∀ ab bb, Imp W n D ((d, .func (.func 102) #[] #[pt ab 0, pt bb 0]) :: L) (bx ab 3 [i64 ((0 : Nat) : Int)] :: M) (boxF bb 50 [.slice ba bys.length bc] :: R) (wpList Try.prog ops Q rest)) : Imp W n D L M R (wpList Try.prog ops Q (o :: rest)) := by
  refine o_call (draws_s bys ba bc) ho [] [] rfl hx (by simp) hg (by simp [okD, hdst, hd]) SelM.refl SubR.nil ?_ ?_ ?_
  · rintro v M' R' ⟨ab, bb, he, rfl, rfl⟩
    cases he
    rw [hdst]
    exact hret ab bb
  · rintro c M' R' ⟨ab, bb, he, _⟩; cases he
  · rintro M' R' ⟨ab, bb, he, _⟩; cases he
set_option maxHeartbeats 4000000 in
theorem truly_r (F : Work) (ro ho : Option Addr) (rc0 hc : Nat) (hg : GoodF F) (bys : List Int) (ba : Option Addr) (bc : Nat) (hu : U16s bys) (hbl : bys.length ≤ 9223372036854775807) : FnR Try.prog 33 [valF F ro rc0 ho hc, .slice ba bys.length bc] [rowD ba 1 encU bys, rowD ro 2 encS F.rain, rowD ho 3 encH F.heaps] (fun v => ∃ ra rc fa fc, v = valT (trulyT F bys) ra fa rc fc) (fun v => [rowD (adrAt v 0) 1 encI (trulyT F bys).rain, rowD (adrAt v 1) 1 encI (trulyT F bys).first]) := by
  refine FnR.intro Try.call33 Try.func33 rfl Try.ntmps33 rfl ?_
  intro W M Rf
  refine r_seq ?_
  refine r_region ?_
  refine o_boxA rfl rfl rfl rfl rfl (fun b2 => ?_)
  refine o_alloc rfl inf54 rfl rfl rfl rfl rfl (fun b4 => ?_)
  refine o_nil ?_
  with_reducible refine r_then ?_
  refine r_seq ?_
  refine r_region ?_
  refine o_q _ rfl rfl rfl (v_move rfl rfl) ?_
  refine o_draws bys ba bc rfl rfl rfl rfl rfl (fun ab bb => ?_)
  all_goals
    refine o_q _ rfl rfl rfl (v_assign rfl rfl) ?_
    refine o_nil ?_
    with_reducible refine r_then ?_
    refine r_seq ?_
    refine r_seq ?_
    refine r_region ?_
    refine o_q _ rfl rfl rfl (v_fieldAddr rfl Try.underlying26 inf22 rfl rfl rfl rfl) ?_
    refine o_q _ rfl rfl rfl (v_ld1 rfl Try.underlying22 rfl rfl rfl) ?_
    refine o_q _ rfl rfl rfl (v_len rfl rfl Try.underlying22 rfl) ?_
    refine o_q _ rfl rfl rfl (v_move rfl rfl) ?_
    refine o_nil ?_
    with_reducible refine r_then ?_
    refine r_block ?_
    refine r_loop (ι := Nat × Value) (fun gh => gh.1 ≤ F.rain.length) (fun gh => [(2, pt b2 0), (4, pt b4 0), (5, .func (.func 102) #[] #[pt ab 0, pt bb 0]), (13, .slice ro F.rain.length rc0), (14, i64 F.rain.length), (15, i64 gh.1)]) (fun gh => ownL gh.2 3 1 encI (rainTo F (drawP bys) gh.1) :: bx b4 54 [gh.2, .slice none 0 0] :: bx ab 3 [i64 ((gh.1 : Nat) : Int)] :: bx b2 26 (cellsF F ro rc0 ho hc) :: M) (fun gh => boxF bb 50 [.slice ba bys.length bc] :: ([rowD ba 1 encU bys, rowD ro 2 encS F.rain, rowD ho 3 encH F.heaps] ++ Rf)) (fun gh => F.rain.length - gh.1) (0, .slice none 0 0) ?_ ?_ ?_
    ·
      refine Imp.nilL 3 1 encI ?_
      refine Imp.own_to (.slice none 0 0) (rainTo F (drawP bys) 0) rfl ?_
      refine Imp.box_to b4 [.slice none 0 0, .slice none 0 0] rfl ?_
      exact r_here (by repeat (first | exact FSub.nil | refine FSub.cons rfl ?_)) SelMC.sel SubRC.sub
    ·
      exact Nat.zero_le _
    ·
      rintro ⟨k, va⟩ hI0
      dsimp only at hI0
      dsimp only
      have hI : k ≤ F.rain.length := hI0
      have hln := rainTo_len (F := F) (f := (drawP bys)) (k := k)
      have hb := hg.bnd
      have hl3 := hg.2.2.1
      have hl8 := hb.len
      have hsp : k < F.rain.length → _ := fun h => hg.2.2.2.1 k h
      refine r_seq ?_
      refine r_region ?_
      refine o_q _ rfl rfl rfl (v_lss rfl rfl rfl) ?_
      refine o_nil ?_
      with_reducible refine r_then ?_
      refine r_seq ?_
      refine r_condd rfl (fun hc16 => ?_) (fun hc16 => ?_)
      ·
        refine r_skip ?_
        with_reducible refine r_then ?_
        refine r_seq ?_
        refine r_block ?_
        refine r_seq ?_
        refine r_region ?_
        refine o_q _ rfl rfl rfl (v_indexAddrSn rfl Try.underlying22 inf31 rfl rfl rfl (by omega) rfl) ?_
        refine o_q _ rfl rfl rfl (v_loadEN rfl Try.underlying31 rfl inf31 rfl (by omega) rfl rfl rfl) ?_
        refine o_alloc rfl inf31 rfl rfl rfl rfl rfl (fun b7 => ?_)
        refine o_st rfl inf31 rfl rfl rfl rfl rfl rfl rfl rfl ?_
        refine o_nil ?_
        with_reducible refine r_then ?_
        refine r_parC1 (bx ab 3 [i64 ((k : Nat) : Int)]) 6 mixed (by kernel_rfl) (by rfl) ?_
        refine p_q _ rfl rfl rfl (fun _ _ => v_fieldAddr rfl Try.underlying54 inf52 rfl rfl rfl rfl) ?_
        refine p_q _ rfl rfl rfl (fun _ _ => v_ld1 rfl Try.underlying52 rfl rfl rfl) ?_
        refine p_q _ rfl rfl rfl (fun _ _ => v_move rfl rfl) ?_
        refine p_q _ rfl rfl rfl (fun _ _ => v_ldW rfl Try.underlying31 rfl inf31 rfl rfl) ?_
        refine p_fnc (draw1_c bys ba bc hu hbl ab bb k (F.rain.getD k default) (by omega) (by have := hsp (by omega); omega) (by have := hsp (by omega); omega) (by have := hsp (by omega); omega)) rfl [] [pt ab 0, pt bb 0] rfl rfl rfl rfl rfl rfl SubRC.sub ?_
        refine p_lit rfl Try.underlying52 inf3 rfl rfl rfl rfl rfl rfl rfl rfl (by repeat (first | exact trivial | refine ⟨rfl, ?_⟩)) (by rfl) ?_
        refine p_nil2 (by simp only [List.nil_append, List.cons_append]; rfl) rfl ?_
        refine f_q rfl ?_
        refine f_q rfl ?_
        refine f_q rfl ?_
        refine f_q rfl ?_
        refine f_qc1 rfl ?_
        refine f_lit rfl (fun b24 => ?_)
        refine f_nil ?_
        refine o_app1F ((((drawP bys)) (k + 1) (F.rain.getD k default))) rfl Try.underlying52 inf3 rfl (by rfl) (by rfl) rfl rfl rfl rfl rfl (by rfl) (by rfl) (by rfl) (by first | omega | (constructor <;> first | omega | decide)) (fun v25 => ?_)
        refine Imp.own_is v25 (fun hs => ?_)
        obtain ⟨oan, cpn, rfl⟩ := hs
        refine o_q _ rfl rfl rfl (v_fieldAddr rfl Try.underlying54 inf52 rfl rfl rfl rfl) ?_
        refine o_st rfl inf52 rfl rfl rfl rfl rfl rfl rfl rfl ?_
        refine o_nil ?_
        with_reducible refine r_in_normal ?_; refine r_then ?_
        refine r_region ?_
        refine o_q _ rfl rfl rfl (v_add rfl rfl rfl (by omega)) ?_
        refine o_q _ rfl rfl rfl (v_move rfl rfl) ?_
        refine o_nil ?_
        with_reducible refine r_then ?_
        exact r_next ((k + 1, (.slice oan (rainTo F (drawP bys) k ++ [((drawP bys)) (k + 1) (F.rain.getD k default)]).length cpn))) (by refine Imp.own_to (.slice oan (rainTo F (drawP bys) k ++ [((drawP bys)) (k + 1) (F.rain.getD k default)]).length cpn) (rainTo F (drawP bys) (k + 1)) rainTo_next ?_; refine Imp.box_to b4 [(.slice oan (rainTo F (drawP bys) k ++ [((drawP bys)) (k + 1) (F.rain.getD k default)]).length cpn), .slice none 0 0] rfl ?_; exact r_here (by repeat (first | exact FSub.nil | refine FSub.cons rfl ?_)) SelMC.sel SubRC.sub) (by first | omega | (show _ + 1 ≤ _; omega)) (by first | omega | (show _ - (_ + 1) < _ - _; omega))
      ·
        refine r_exit ?_
        with_reducible refine r_then_exit ?_; refine r_then_exit ?_; refine r_in_here ?_; refine r_then ?_
        refine r_seq ?_
        refine r_seq ?_
        have hkr : k = F.rain.length := by omega
        refine r_region ?_
        refine o_q _ rfl rfl rfl (v_fieldAddr rfl Try.underlying26 inf24 rfl rfl rfl rfl) ?_
        refine o_q _ rfl rfl rfl (v_ld1 rfl Try.underlying24 rfl rfl rfl) ?_
        refine o_q _ rfl rfl rfl (v_len rfl rfl Try.underlying24 rfl) ?_
        refine o_q _ rfl rfl rfl (v_move rfl rfl) ?_
        refine o_nil ?_
        with_reducible refine r_then ?_
        refine r_block ?_
        refine r_loop (ι := Nat × Value) (fun gh => gh.1 ≤ F.heaps.length) (fun gh => [(2, pt b2 0), (4, pt b4 0), (5, .func (.func 102) #[] #[pt ab 0, pt bb 0]), (29, .slice ho F.heaps.length hc), (30, i64 F.heaps.length), (31, i64 gh.1)]) (fun gh => ownL va 3 1 encI (rainTo F (drawP bys) F.rain.length) :: ownL gh.2 3 1 encI (firstTo F (drawP bys) gh.1) :: bx b4 54 [va, gh.2] :: bx ab 3 [i64 (((F.rain.length + gh.1) : Nat) : Int)] :: bx b2 26 (cellsF F ro rc0 ho hc) :: M) (fun gh => boxF bb 50 [.slice ba bys.length bc] :: ([rowD ba 1 encU bys, rowD ro 2 encS F.rain, rowD ho 3 encH F.heaps] ++ Rf)) (fun gh => F.heaps.length - gh.1) (0, .slice none 0 0) ?_ ?_ ?_
        ·
          refine Imp.own_to va (rainTo F (drawP bys) F.rain.length) (by rw [hkr]) ?_
          refine Imp.nilL 3 1 encI ?_
          refine Imp.own_to (.slice none 0 0) (firstTo F (drawP bys) 0) rfl ?_
          refine Imp.box_to b4 [va, .slice none 0 0] rfl ?_
          refine Imp.box_to ab [i64 ((F.rain.length + 0 : Nat) : Int)] (by rw [hkr]; rfl) ?_
          exact r_here (by repeat (first | exact FSub.nil | refine FSub.cons rfl ?_)) SelMC.sel SubRC.sub
        ·
          exact Nat.zero_le _
        ·
          rintro ⟨k, v⟩ hI1
          dsimp only at hI1
          dsimp only
          have hI : k ≤ F.heaps.length := hI1
          have hln := firstTo_len (F := F) (f := (drawP bys)) (k := k)
          have hb := hg.bnd
          have hl3 := hg.2.2.1
          have hl8 := hb.len
          have hsp : k < F.heaps.length → _ := fun h => (hg.2.2.2.2.2 k h).1
          refine r_seq ?_
          refine r_region ?_
          refine o_q _ rfl rfl rfl (v_lss rfl rfl rfl) ?_
          refine o_nil ?_
          with_reducible refine r_then ?_
          refine r_seq ?_
          refine r_condd rfl (fun hc32 => ?_) (fun hc32 => ?_)
          ·
            refine r_skip ?_
            with_reducible refine r_then ?_
            refine r_seq ?_
            refine r_block ?_
            refine r_seq ?_
            refine r_region ?_
            refine o_q _ rfl rfl rfl (v_indexAddrSn rfl Try.underlying24 inf73 rfl rfl rfl (by omega) rfl) ?_
            refine o_q _ rfl rfl rfl (v_loadEN rfl Try.underlying73 rfl inf73 rfl (by omega) rfl rfl rfl) ?_
            refine o_alloc rfl inf73 rfl rfl rfl rfl rfl (fun b9 => ?_)
            refine o_st rfl inf73 rfl rfl rfl rfl rfl rfl rfl rfl ?_
            refine o_nil ?_
            with_reducible refine r_then ?_
            refine r_parC1 (bx ab 3 [i64 (((F.rain.length + k) : Nat) : Int)]) 7 mixed (by kernel_rfl) (by rfl) ?_
            refine p_q _ rfl rfl rfl (fun _ _ => v_fieldAddr rfl Try.underlying54 inf52 rfl rfl rfl rfl) ?_
            refine p_q _ rfl rfl rfl (fun _ _ => v_ld1 rfl Try.underlying52 rfl rfl rfl) ?_
            refine p_q _ rfl rfl rfl (fun _ _ => v_move rfl rfl) ?_
            refine p_q _ rfl rfl rfl (fun _ _ => v_fieldAddr rfl Try.underlying73 inf31 rfl rfl rfl rfl) ?_
            refine p_q _ rfl rfl rfl (fun _ _ => v_ldN rfl Try.underlying31 rfl inf31 rfl rfl rfl) ?_
            refine p_fnc (draw1_c bys ba bc hu hbl ab bb (F.rain.length + k) (⟨(F.heaps.getD k default).lo, (F.heaps.getD k default).hi⟩ : Span) (by omega) (by have := hsp (by omega); exact this.2.1) (by have := hsp (by omega); show -1000 ≤ (F.heaps.getD k default).lo; omega) (by have := hsp (by omega); show (F.heaps.getD k default).hi ≤ 1000; omega)) rfl [] [pt ab 0, pt bb 0] rfl rfl rfl rfl rfl rfl SubRC.sub ?_
            refine p_lit rfl Try.underlying52 inf3 rfl rfl rfl rfl rfl rfl rfl rfl (by repeat (first | exact trivial | refine ⟨rfl, ?_⟩)) (by rfl) ?_
            refine p_nil2 (by simp only [List.nil_append, List.cons_append]; rfl) rfl ?_
            refine f_q rfl ?_
            refine f_q rfl ?_
            refine f_q rfl ?_
            refine f_q rfl ?_
            refine f_q rfl ?_
            refine f_qc1 rfl ?_
            refine f_lit rfl (fun b41 => ?_)
            refine f_nil ?_
            refine o_app1F ((((drawP bys)) (F.rain.length + k + 1) (⟨(F.heaps.getD k default).lo, (F.heaps.getD k default).hi⟩ : Span))) rfl Try.underlying52 inf3 rfl (by rfl) (by rfl) rfl rfl rfl rfl rfl (by rfl) (by rfl) (by rfl) (by first | omega | (constructor <;> first | omega | decide)) (fun v42 => ?_)
            refine Imp.own_is v42 (fun hs => ?_)
            obtain ⟨oan, cpn, rfl⟩ := hs
            refine o_q _ rfl rfl rfl (v_fieldAddr rfl Try.underlying54 inf52 rfl rfl rfl rfl) ?_
            refine o_st rfl inf52 rfl rfl rfl rfl rfl rfl rfl rfl ?_
            refine o_nil ?_
            with_reducible refine r_in_normal ?_; refine r_then ?_
            refine r_region ?_
            refine o_q _ rfl rfl rfl (v_add rfl rfl rfl (by omega)) ?_
            refine o_q _ rfl rfl rfl (v_move rfl rfl) ?_
            refine o_nil ?_
            with_reducible refine r_then ?_
            exact r_next ((k + 1, (.slice oan (firstTo F (drawP bys) k ++ [((drawP bys)) (F.rain.length + k + 1) (⟨(F.heaps.getD k default).lo, (F.heaps.getD k default).hi⟩ : Span)]).length cpn))) (by refine Imp.own_to (.slice oan (firstTo F (drawP bys) k ++ [((drawP bys)) (F.rain.length + k + 1) (⟨(F.heaps.getD k default).lo, (F.heaps.getD k default).hi⟩ : Span)]).length cpn) (firstTo F (drawP bys) (k + 1)) firstTo_next ?_; refine Imp.box_to b4 [va, (.slice oan (firstTo F (drawP bys) k ++ [((drawP bys)) (F.rain.length + k + 1) (⟨(F.heaps.getD k default).lo, (F.heaps.getD k default).hi⟩ : Span)]).length cpn)] rfl ?_; exact r_here (by repeat (first | exact FSub.nil | refine FSub.cons rfl ?_)) SelMC.sel SubRC.sub) (by first | omega | (show _ + 1 ≤ _; omega)) (by first | omega | (show _ - (_ + 1) < _ - _; omega))
          ·
            refine r_exit ?_
            with_reducible refine r_then_exit ?_; refine r_then_exit ?_; refine r_in_here ?_; refine r_then ?_
            refine r_seq ?_
            refine Imp.own_to va (trulyT F bys).rain rfl ?_
            refine Imp.own_to v (trulyT F bys).first (by rw [show k = F.heaps.length from by omega]; rfl) ?_
            refine Imp.settleS va encI_len (fun ra rc hva => ?_)
            subst hva
            refine Imp.settleS v encI_len (fun fa fc hv => ?_)
            subst hv
            refine Imp.box_to b4 [.slice ra (trulyT F bys).rain.length rc, .slice fa (trulyT F bys).first.length fc] rfl ?_
            refine r_region ?_
            refine o_q _ rfl rfl rfl (v_ldW rfl Try.underlying54 rfl inf54 rfl rfl) ?_
            refine o_st rfl inf54 rfl rfl rfl rfl rfl rfl rfl rfl ?_
            refine o_nil ?_
            with_reducible refine r_then ?_
            refine r_ret ?_
            exact r_retr (Rd.one rfl (RdI.cellW Try.underlying54 rfl inf54 rfl rfl)) ⟨ra, rc, fa, fc, rfl⟩ SelMC.sel (by show SubR _ ([rowD ra 1 encI (trulyT F bys).rain, rowD fa 1 encI (trulyT F bys).first] ++ _); exact SubRC.sub)
set_option maxHeartbeats 4000000 in
theorem ends1_v (wb : Nat) (b : Bool) (s : Span) : FnV Try.prog 81 [.agg #[i64 s.lo, i64 s.hi], pt wb 0] [boxF wb 4 [.bool b]] (i64 (if b then s.hi else s.lo)) := by
  refine FnV.intro Try.call81 Try.func81 rfl Try.ntmps81 rfl ?_
  intro W M Rf
  refine r_seq ?_
  refine r_region ?_
  refine o_boxA rfl rfl rfl rfl rfl (fun b2 => ?_)
  refine o_q _ rfl rfl rfl (v_assign rfl rfl) ?_
  refine o_nil ?_
  with_reducible refine r_then ?_
  refine r_seq ?_
  refine r_seq ?_
  refine r_region ?_
  refine o_q _ rfl rfl rfl (v_lf1 rfl Try.underlying4 rfl rfl rfl) ?_
  refine o_nil ?_
  with_reducible refine r_then ?_
  refine r_cond rfl (fun hc4 => ?_) (fun hc4 => ?_)
  ·
    refine r_seq ?_
    refine r_region ?_
    refine o_q _ rfl rfl rfl (v_fieldAddr rfl Try.underlying31 inf3 rfl rfl rfl rfl) ?_
    refine o_q _ rfl rfl rfl (v_ld1 rfl Try.underlying3 rfl rfl rfl) ?_
    refine o_q _ rfl rfl rfl (v_assign rfl rfl) ?_
    refine o_nil ?_
    with_reducible refine r_then ?_
    refine r_ret ?_
    with_reducible refine r_then_ret ?_
    (have e : b = true := by assumption
     subst e; exact r_retv2 (Rd.tmp rfl rfl) rfl SelMC.sel SubRC.sub)
  ·
    refine r_skip ?_
    with_reducible refine r_then ?_
    refine r_seq ?_
    refine r_region ?_
    refine o_q _ rfl rfl rfl (v_fieldAddr rfl Try.underlying31 inf3 rfl rfl rfl rfl) ?_
    refine o_q _ rfl rfl rfl (v_ld1 rfl Try.underlying3 rfl rfl rfl) ?_
    refine o_q _ rfl rfl rfl (v_assign rfl rfl) ?_
    refine o_nil ?_
    with_reducible refine r_then ?_
    refine r_ret ?_
    (have e : b = false := by assumption
     subst e; exact r_retv2 (Rd.tmp rfl rfl) rfl SelMC.sel SubRC.sub)
set_option maxHeartbeats 4000000 in
theorem ends_r (F : Work) (ro ho : Option Addr) (rc0 hc : Nat) (hg : GoodF F) (b : Bool) : FnR Try.prog 41 [valF F ro rc0 ho hc, .bool b] [rowD ro 2 encS F.rain, rowD ho 3 encH F.heaps] (fun v => ∃ ra rc fa fc, v = valT (endsT F b) ra fa rc fc) (fun v => [rowD (adrAt v 0) 1 encI (endsT F b).rain, rowD (adrAt v 1) 1 encI (endsT F b).first]) := by
  refine FnR.intro Try.call41 Try.func41 rfl Try.ntmps41 rfl ?_
  intro W M Rf
  refine r_seq ?_
  refine r_region ?_
  refine o_boxA rfl rfl rfl rfl rfl (fun b2 => ?_)
  refine o_box1 rfl rfl rfl rfl rfl rfl (fun b3 => ?_)
  refine o_alloc rfl inf54 rfl rfl rfl rfl rfl (fun b4 => ?_)
  refine o_nil ?_
  with_reducible refine r_then ?_
  refine r_seq ?_
  refine r_region ?_
  refine o_q _ rfl rfl rfl (v_makeFunc rfl rfl rfl) ?_
  refine o_q _ rfl rfl rfl (v_assign rfl rfl) ?_
  refine o_nil ?_
  with_reducible refine r_then ?_
  refine r_seq ?_
  refine r_seq ?_
  refine Imp.sealB b3 ?_
  refine r_region ?_
  refine o_q _ rfl rfl rfl (v_fieldAddr rfl Try.underlying26 inf22 rfl rfl rfl rfl) ?_
  refine o_q _ rfl rfl rfl (v_ld1 rfl Try.underlying22 rfl rfl rfl) ?_
  refine o_q _ rfl rfl rfl (v_len rfl rfl Try.underlying22 rfl) ?_
  refine o_q _ rfl rfl rfl (v_move rfl rfl) ?_
  refine o_nil ?_
  with_reducible refine r_then ?_
  refine r_block ?_
  refine r_loop (ι := Nat × Value) (fun gh => gh.1 ≤ F.rain.length) (fun gh => [(2, pt b2 0), (4, pt b4 0), (5, .func (.func 81) #[] #[pt b3 0]), (12, .slice ro F.rain.length rc0), (13, i64 F.rain.length), (14, i64 gh.1)]) (fun gh => ownL gh.2 3 1 encI (rainTo F (fun _ (s : Span) => if b then s.hi else s.lo) gh.1) :: bx b4 54 [gh.2, .slice none 0 0] :: bx b2 26 (cellsF F ro rc0 ho hc) :: M) (fun gh => boxF b3 4 [.bool b] :: ([rowD ro 2 encS F.rain, rowD ho 3 encH F.heaps] ++ Rf)) (fun gh => F.rain.length - gh.1) (0, .slice none 0 0) ?_ ?_ ?_
  ·
    refine Imp.nilL 3 1 encI ?_
    refine Imp.own_to (.slice none 0 0) (rainTo F (fun _ (s : Span) => if b then s.hi else s.lo) 0) rfl ?_
    refine Imp.box_to b4 [.slice none 0 0, .slice none 0 0] rfl ?_
    exact r_here (by repeat (first | exact FSub.nil | refine FSub.cons rfl ?_)) SelMC.sel SubRC.sub
  ·
    exact Nat.zero_le _
  ·
    rintro ⟨k, va⟩ hI0
    dsimp only at hI0
    dsimp only
    have hI : k ≤ F.rain.length := hI0
    have hln := rainTo_len (F := F) (f := (fun _ (s : Span) => if b then s.hi else s.lo)) (k := k)
    have hb := hg.bnd
    have hl3 := hg.2.2.1
    have hl8 := hb.len
    have hsp : k < F.rain.length → _ := fun h => hg.2.2.2.1 k h
    refine r_seq ?_
    refine r_region ?_
    refine o_q _ rfl rfl rfl (v_lss rfl rfl rfl) ?_
    refine o_nil ?_
    with_reducible refine r_then ?_
    refine r_seq ?_
    refine r_condd rfl (fun hc15 => ?_) (fun hc15 => ?_)
    ·
      refine r_skip ?_
      with_reducible refine r_then ?_
      refine r_seq ?_
      refine r_block ?_
      refine r_seq ?_
      refine r_region ?_
      refine o_q _ rfl rfl rfl (v_indexAddrSn rfl Try.underlying22 inf31 rfl rfl rfl (by omega) rfl) ?_
      refine o_q _ rfl rfl rfl (v_loadEN rfl Try.underlying31 rfl inf31 rfl (by omega) rfl rfl rfl) ?_
      refine o_alloc rfl inf31 rfl rfl rfl rfl rfl (fun b7 => ?_)
      refine o_st rfl inf31 rfl rfl rfl rfl rfl rfl rfl rfl ?_
      refine o_nil ?_
      with_reducible refine r_then ?_
      refine r_par' 6 mixed (by kernel_rfl) (by rfl) ?_
      refine p_q _ rfl rfl rfl (fun _ _ => v_fieldAddr rfl Try.underlying54 inf52 rfl rfl rfl rfl) ?_
      refine p_q _ rfl rfl rfl (fun _ _ => v_ld1 rfl Try.underlying52 rfl rfl rfl) ?_
      refine p_q _ rfl rfl rfl (fun _ _ => v_move rfl rfl) ?_
      refine p_q _ rfl rfl rfl (fun _ _ => v_ldW rfl Try.underlying31 rfl inf31 rfl rfl) ?_
      refine p_q _ rfl rfl rfl (fun _ _ => OpQ.call (ends1_v b3 b (F.rain.getD k default)) rfl [] [pt b3 0] rfl rfl rfl SubRC.sub) ?_
      refine p_lit rfl Try.underlying52 inf3 rfl rfl rfl rfl rfl rfl rfl rfl (by repeat (first | exact trivial | refine ⟨rfl, ?_⟩)) (by rfl) ?_
      refine p_nil2 (by simp only [List.nil_append, List.cons_append]; rfl) rfl ?_
      refine f_q rfl ?_
      refine f_q rfl ?_
      refine f_q rfl ?_
      refine f_q rfl ?_
      refine f_q rfl ?_
      refine f_lit rfl (fun b23 => ?_)
      refine f_nil ?_
      refine o_app1F ((((fun _ (s : Span) => if b then s.hi else s.lo)) (k + 1) (F.rain.getD k default))) rfl Try.underlying52 inf3 rfl (by rfl) (by rfl) rfl rfl rfl rfl rfl (by rfl) (by rfl) (by rfl) (by first | omega | (constructor <;> first | omega | decide)) (fun v24 => ?_)
      refine Imp.own_is v24 (fun hs => ?_)
      obtain ⟨oan, cpn, rfl⟩ := hs
      refine o_q _ rfl rfl rfl (v_fieldAddr rfl Try.underlying54 inf52 rfl rfl rfl rfl) ?_
      refine o_st rfl inf52 rfl rfl rfl rfl rfl rfl rfl rfl ?_
      refine o_nil ?_
      with_reducible refine r_in_normal ?_; refine r_then ?_
      refine r_region ?_
      refine o_q _ rfl rfl rfl (v_add rfl rfl rfl (by omega)) ?_
      refine o_q _ rfl rfl rfl (v_move rfl rfl) ?_
      refine o_nil ?_
      with_reducible refine r_then ?_
      exact r_next ((k + 1, (.slice oan (rainTo F (fun _ (s : Span) => if b then s.hi else s.lo) k ++ [((fun _ (s : Span) => if b then s.hi else s.lo)) (k + 1) (F.rain.getD k default)]).length cpn))) (by refine Imp.own_to (.slice oan (rainTo F (fun _ (s : Span) => if b then s.hi else s.lo) k ++ [((fun _ (s : Span) => if b then s.hi else s.lo)) (k + 1) (F.rain.getD k default)]).length cpn) (rainTo F (fun _ (s : Span) => if b then s.hi else s.lo) (k + 1)) rainTo_next ?_; refine Imp.box_to b4 [(.slice oan (rainTo F (fun _ (s : Span) => if b then s.hi else s.lo) k ++ [((fun _ (s : Span) => if b then s.hi else s.lo)) (k + 1) (F.rain.getD k default)]).length cpn), .slice none 0 0] rfl ?_; exact r_here (by repeat (first | exact FSub.nil | refine FSub.cons rfl ?_)) SelMC.sel SubRC.sub) (by first | omega | (show _ + 1 ≤ _; omega)) (by first | omega | (show _ - (_ + 1) < _ - _; omega))
    ·
      refine r_exit ?_
      with_reducible refine r_then_exit ?_; refine r_then_exit ?_; refine r_in_here ?_; refine r_then ?_
      refine r_seq ?_
      refine r_seq ?_
      have hkr : k = F.rain.length := by omega
      refine r_region ?_
      refine o_q _ rfl rfl rfl (v_fieldAddr rfl Try.underlying26 inf24 rfl rfl rfl rfl) ?_
      refine o_q _ rfl rfl rfl (v_ld1 rfl Try.underlying24 rfl rfl rfl) ?_
      refine o_q _ rfl rfl rfl (v_len rfl rfl Try.underlying24 rfl) ?_
      refine o_q _ rfl rfl rfl (v_move rfl rfl) ?_
      refine o_nil ?_
      with_reducible refine r_then ?_
      refine r_block ?_
      refine r_loop (ι := Nat × Value) (fun gh => gh.1 ≤ F.heaps.length) (fun gh => [(2, pt b2 0), (4, pt b4 0), (5, .func (.func 81) #[] #[pt b3 0]), (28, .slice ho F.heaps.length hc), (29, i64 F.heaps.length), (30, i64 gh.1)]) (fun gh => ownL va 3 1 encI (rainTo F (fun _ (s : Span) => if b then s.hi else s.lo) F.rain.length) :: ownL gh.2 3 1 encI (firstTo F (fun _ (s : Span) => if b then s.hi else s.lo) gh.1) :: bx b4 54 [va, gh.2] :: bx b2 26 (cellsF F ro rc0 ho hc) :: M) (fun gh => boxF b3 4 [.bool b] :: ([rowD ro 2 encS F.rain, rowD ho 3 encH F.heaps] ++ Rf)) (fun gh => F.heaps.length - gh.1) (0, .slice none 0 0) ?_ ?_ ?_
      ·
        refine Imp.own_to va (rainTo F (fun _ (s : Span) => if b then s.hi else s.lo) F.rain.length) (by rw [hkr]) ?_
        refine Imp.nilL 3 1 encI ?_
        refine Imp.own_to (.slice none 0 0) (firstTo F (fun _ (s : Span) => if b then s.hi else s.lo) 0) rfl ?_
        refine Imp.box_to b4 [va, .slice none 0 0] rfl ?_
        exact r_here (by repeat (first | exact FSub.nil | refine FSub.cons rfl ?_)) SelMC.sel SubRC.sub
      ·
        exact Nat.zero_le _
      ·
        rintro ⟨k, v⟩ hI1
        dsimp only at hI1
        dsimp only
        have hI : k ≤ F.heaps.length := hI1
        have hln := firstTo_len (F := F) (f := (fun _ (s : Span) => if b then s.hi else s.lo)) (k := k)
        have hb := hg.bnd
        have hl3 := hg.2.2.1
        have hl8 := hb.len
        have hsp : k < F.heaps.length → _ := fun h => (hg.2.2.2.2.2 k h).1
        refine r_seq ?_
        refine r_region ?_
        refine o_q _ rfl rfl rfl (v_lss rfl rfl rfl) ?_
        refine o_nil ?_
        with_reducible refine r_then ?_
        refine r_seq ?_
        refine r_condd rfl (fun hc31 => ?_) (fun hc31 => ?_)
        ·
          refine r_skip ?_
          with_reducible refine r_then ?_
          refine r_seq ?_
          refine r_block ?_
          refine r_seq ?_
          refine r_region ?_
          refine o_q _ rfl rfl rfl (v_indexAddrSn rfl Try.underlying24 inf73 rfl rfl rfl (by omega) rfl) ?_
          refine o_q _ rfl rfl rfl (v_loadEN rfl Try.underlying73 rfl inf73 rfl (by omega) rfl rfl rfl) ?_
          refine o_alloc rfl inf73 rfl rfl rfl rfl rfl (fun b9 => ?_)
          refine o_st rfl inf73 rfl rfl rfl rfl rfl rfl rfl rfl ?_
          refine o_nil ?_
          with_reducible refine r_then ?_
          refine r_par' 7 mixed (by kernel_rfl) (by rfl) ?_
          refine p_q _ rfl rfl rfl (fun _ _ => v_fieldAddr rfl Try.underlying54 inf52 rfl rfl rfl rfl) ?_
          refine p_q _ rfl rfl rfl (fun _ _ => v_ld1 rfl Try.underlying52 rfl rfl rfl) ?_
          refine p_q _ rfl rfl rfl (fun _ _ => v_move rfl rfl) ?_
          refine p_q _ rfl rfl rfl (fun _ _ => v_fieldAddr rfl Try.underlying73 inf31 rfl rfl rfl rfl) ?_
          refine p_q _ rfl rfl rfl (fun _ _ => v_ldN rfl Try.underlying31 rfl inf31 rfl rfl rfl) ?_
          refine p_q _ rfl rfl rfl (fun _ _ => OpQ.call (ends1_v b3 b (⟨(F.heaps.getD k default).lo, (F.heaps.getD k default).hi⟩ : Span)) rfl [] [pt b3 0] rfl rfl rfl SubRC.sub) ?_
          refine p_lit rfl Try.underlying52 inf3 rfl rfl rfl rfl rfl rfl rfl rfl (by repeat (first | exact trivial | refine ⟨rfl, ?_⟩)) (by rfl) ?_
          refine p_nil2 (by simp only [List.nil_append, List.cons_append]; rfl) rfl ?_
          refine f_q rfl ?_
          refine f_q rfl ?_
          refine f_q rfl ?_
          refine f_q rfl ?_
          refine f_q rfl ?_
          refine f_q rfl ?_
          refine f_lit rfl (fun b40 => ?_)
          refine f_nil ?_
          refine o_app1F ((((fun _ (s : Span) => if b then s.hi else s.lo)) (F.rain.length + k + 1) (⟨(F.heaps.getD k default).lo, (F.heaps.getD k default).hi⟩ : Span))) rfl Try.underlying52 inf3 rfl (by rfl) (by rfl) rfl rfl rfl rfl rfl (by rfl) (by rfl) (by rfl) (by first | omega | (constructor <;> first | omega | decide)) (fun v41 => ?_)
          refine Imp.own_is v41 (fun hs => ?_)
          obtain ⟨oan, cpn, rfl⟩ := hs
          refine o_q _ rfl rfl rfl (v_fieldAddr rfl Try.underlying54 inf52 rfl rfl rfl rfl) ?_
          refine o_st rfl inf52 rfl rfl rfl rfl rfl rfl rfl rfl ?_
          refine o_nil ?_
          with_reducible refine r_in_normal ?_; refine r_then ?_
          refine r_region ?_
          refine o_q _ rfl rfl rfl (v_add rfl rfl rfl (by omega)) ?_
          refine o_q _ rfl rfl rfl (v_move rfl rfl) ?_
          refine o_nil ?_
          with_reducible refine r_then ?_
          exact r_next ((k + 1, (.slice oan (firstTo F (fun _ (s : Span) => if b then s.hi else s.lo) k ++ [((fun _ (s : Span) => if b then s.hi else s.lo)) (F.rain.length + k + 1) (⟨(F.heaps.getD k default).lo, (F.heaps.getD k default).hi⟩ : Span)]).length cpn))) (by refine Imp.own_to (.slice oan (firstTo F (fun _ (s : Span) => if b then s.hi else s.lo) k ++ [((fun _ (s : Span) => if b then s.hi else s.lo)) (F.rain.length + k + 1) (⟨(F.heaps.getD k default).lo, (F.heaps.getD k default).hi⟩ : Span)]).length cpn) (firstTo F (fun _ (s : Span) => if b then s.hi else s.lo) (k + 1)) firstTo_next ?_; refine Imp.box_to b4 [va, (.slice oan (firstTo F (fun _ (s : Span) => if b then s.hi else s.lo) k ++ [((fun _ (s : Span) => if b then s.hi else s.lo)) (F.rain.length + k + 1) (⟨(F.heaps.getD k default).lo, (F.heaps.getD k default).hi⟩ : Span)]).length cpn)] rfl ?_; exact r_here (by repeat (first | exact FSub.nil | refine FSub.cons rfl ?_)) SelMC.sel SubRC.sub) (by first | omega | (show _ + 1 ≤ _; omega)) (by first | omega | (show _ - (_ + 1) < _ - _; omega))
        ·
          refine r_exit ?_
          with_reducible refine r_then_exit ?_; refine r_then_exit ?_; refine r_in_here ?_; refine r_then ?_
          refine r_seq ?_
          refine Imp.own_to va (endsT F b).rain rfl ?_
          refine Imp.own_to v (endsT F b).first (by rw [show k = F.heaps.length from by omega]; rfl) ?_
          refine Imp.settleS va encI_len (fun ra rc hva => ?_)
          subst hva
          refine Imp.settleS v encI_len (fun fa fc hv => ?_)
          subst hv
          refine Imp.box_to b4 [.slice ra (endsT F b).rain.length rc, .slice fa (endsT F b).first.length fc] rfl ?_
          refine r_region ?_
          refine o_q _ rfl rfl rfl (v_ldW rfl Try.underlying54 rfl inf54 rfl rfl) ?_
          refine o_st rfl inf54 rfl rfl rfl rfl rfl rfl rfl rfl ?_
          refine o_nil ?_
          with_reducible refine r_then ?_
          refine r_ret ?_
          exact r_retr (Rd.one rfl (RdI.cellW Try.underlying54 rfl inf54 rfl rfl)) ⟨ra, rc, fa, fc, rfl⟩ SelMC.sel (by show SubR _ ([rowD ra 1 encI (endsT F b).rain, rowD fa 1 encI (endsT F b).first] ++ _); exact SubRC.sub)
set_option maxHeartbeats 4000000 in
theorem twet_r (F : Work) (ro ho : Option Addr) (rc0 hc : Nat) (hg : GoodF F) (t : Tru) (ra fa : Option Addr) (rc fc : Nat) (ht : GoodT F t) (heap : Nat) (hh : heap < F.heaps.length) (a b c : Int) : FnR Try.prog 34 [valT t ra fa rc fc, valF F ro rc0 ho hc, i64 heap, .agg #[i64 a, i64 b, i64 c]] [rowD ra 1 encI t.rain, rowD fa 1 encI t.first, rowD ro 2 encS F.rain, rowD ho 3 encH F.heaps] (isSl (wetL F t heap ⟨a, b, c⟩ F.rain.length).length) (fun v => [rowD (adr v) 1 encI (wetL F t heap ⟨a, b, c⟩ F.rain.length)]) := by
  refine FnR.intro Try.call34 Try.func34 rfl Try.ntmps34 rfl ?_
  intro W M Rf
  refine r_seq ?_
  refine r_region ?_
  refine o_boxA rfl rfl rfl rfl rfl (fun b4 => ?_)
  refine o_boxA rfl rfl rfl rfl rfl (fun b5 => ?_)
  refine o_boxA rfl rfl rfl rfl rfl (fun b7 => ?_)
  refine o_q _ rfl rfl rfl (v_assign rfl rfl) ?_
  refine o_nil ?_
  with_reducible refine r_then ?_
  refine r_seq ?_
  refine r_region ?_
  refine o_q _ rfl rfl rfl (v_fieldAddr rfl Try.underlying54 inf52 rfl rfl rfl rfl) ?_
  refine o_q _ rfl rfl rfl (v_ld1 rfl Try.underlying52 rfl rfl rfl) ?_
  refine o_q _ rfl rfl rfl (v_move rfl rfl) ?_
  refine o_q _ rfl rfl rfl (v_indexAddrSn rfl Try.underlying52 inf3 rfl rfl rfl (by rw [ht.fl]; omega) rfl) ?_
  refine o_q _ rfl rfl rfl (v_loadE1 rfl Try.underlying3 rfl rfl (by rw [ht.fl]; omega) rfl rfl) ?_
  refine o_q _ rfl rfl rfl (v_assign rfl rfl) ?_
  refine o_q _ rfl rfl rfl (v_assign rfl rfl) ?_
  refine o_nil ?_
  with_reducible refine r_then ?_
  refine r_seq ?_
  refine Imp.nilL 3 1 encI ?_
  refine r_region ?_
  refine o_q _ rfl rfl rfl (v_move rfl rfl) ?_
  refine o_q _ rfl rfl rfl (v_move rfl rfl) ?_
  refine o_lit rfl Try.underlying52 inf3 rfl rfl rfl rfl rfl rfl rfl rfl (by repeat (first | exact trivial | refine ⟨rfl, ?_⟩)) (by rfl) (fun b20 => ?_)
  refine o_app1 ((t.first.getD heap 0)) rfl Try.underlying52 inf3 rfl (by rfl) (by rfl) rfl rfl rfl rfl rfl (by rfl) (by rfl) (by rfl) (by first | omega | (constructor <;> first | omega | decide)) (fun v21 => ?_)
  refine o_q _ rfl rfl rfl (v_assign rfl rfl) ?_
  refine o_nil ?_
  with_reducible refine r_then ?_
  refine r_seq ?_
  refine r_seq ?_
  refine Imp.own_to v21 (wetL F t heap ⟨a, b, c⟩ 0) rfl ?_
  refine r_region ?_
  refine o_q _ rfl rfl rfl (v_fieldAddr rfl Try.underlying54 inf52 rfl rfl rfl rfl) ?_
  refine o_q _ rfl rfl rfl (v_ld1 rfl Try.underlying52 rfl rfl rfl) ?_
  refine o_q _ rfl rfl rfl (v_len rfl rfl Try.underlying52 rfl) ?_
  refine o_q _ rfl rfl rfl (v_move rfl rfl) ?_
  refine o_nil ?_
  with_reducible refine r_then ?_
  refine r_block ?_
  refine r_loop (ι := Nat × Value) (fun gh => gh.1 ≤ F.rain.length) (fun gh => [(4, pt b4 0), (5, pt b5 0), (7, pt b7 0), (8, gh.2), (9, i64 (wS F t heap ⟨a, b, c⟩ gh.1).1), (10, i64 (wS F t heap ⟨a, b, c⟩ gh.1).2), (23, .slice ra t.rain.length rc), (24, i64 t.rain.length), (25, i64 gh.1)]) (fun gh => ownL gh.2 3 1 encI (wetL F t heap ⟨a, b, c⟩ gh.1) :: bx b7 27 [i64 a, i64 b, i64 c] :: bx b5 26 (cellsF F ro rc0 ho hc) :: bx b4 54 [.slice ra t.rain.length rc, .slice fa t.first.length fc] :: M) (fun gh => [rowD ra 1 encI t.rain, rowD fa 1 encI t.first, rowD ro 2 encS F.rain, rowD ho 3 encH F.heaps] ++ Rf) (fun gh => F.rain.length - gh.1) (0, v21) ?_ ?_ ?_
  ·
    exact r_here (by repeat (first | exact FSub.nil | refine FSub.cons rfl ?_)) SelMC.sel SubRC.sub
  ·
    exact Nat.zero_le _
  ·
    rintro ⟨k, v⟩ hI0
    dsimp only at hI0
    dsimp only
    have hI : k ≤ F.rain.length := hI0
    have hrl := ht.rl
    have hwl := wetL_len (F := F) (t := t) (heap := heap) (p := ⟨a, b, c⟩) (k := k)
    have hb := hg.bnd
    have hl8 := hb.len
    have hw3 := wS_le (F := F) (t := t) (heap := heap) (p := ⟨a, b, c⟩) k
    have hwb := Foot4.wetT_bd hg ht hh (p := ⟨a, b, c⟩) k hI
    unfold Foot4.wetT at hwb
    have hrn : k < F.rain.length → (F.rain.getD k default).lo ≤ t.rain.getD k default ∧ t.rain.getD k default ≤ (F.rain.getD k default).hi := fun h => ht.rain k h
    have hsp : k < F.rain.length → _ := fun h => hg.2.2.2.1 k h
    have hdr := fun j => hb.dr j
    generalize hws : (wS F t heap ⟨a, b, c⟩ k) = ws at *
    obtain ⟨wn, wk⟩ := ws
    dsimp only at *
    refine r_seq ?_
    refine r_region ?_
    refine o_q _ rfl rfl rfl (v_lss rfl rfl rfl) ?_
    refine o_nil ?_
    with_reducible refine r_then ?_
    refine r_seq ?_
    refine r_condd rfl (fun hc26 => ?_) (fun hc26 => ?_)
    ·
      refine r_skip ?_
      with_reducible refine r_then ?_
      refine r_seq ?_
      refine r_block ?_
      refine r_seq ?_
      refine r_region ?_
      refine o_q _ rfl rfl rfl (v_move rfl rfl) ?_
      refine o_q _ rfl rfl rfl (v_indexAddrSn rfl Try.underlying52 inf3 rfl rfl rfl (by omega) rfl) ?_
      refine o_q _ rfl rfl rfl (v_loadE1 rfl Try.underlying3 rfl rfl (by omega) rfl rfl) ?_
      refine o_q _ rfl rfl rfl (v_assign rfl rfl) ?_
      refine o_q _ rfl rfl rfl (v_assign rfl rfl) ?_
      refine o_nil ?_
      with_reducible refine r_then ?_
      refine r_seq ?_
      refine r_seq ?_
      refine r_region ?_
      refine o_q _ rfl rfl rfl (v_move rfl rfl) ?_
      refine o_test rfl rfl rfl (v_lss rfl rfl rfl) (fun h31 => ?_) (fun h31 => ?_)
      all_goals
        refine o_q _ rfl rfl rfl (v_move rfl rfl) ?_
        first | refine o_gn rfl rfl rfl rfl ?_ | refine o_g _ rfl rfl rfl rfl (v_move rfl rfl) ?_
        first | refine o_gn rfl rfl rfl rfl ?_ | refine o_g _ rfl rfl rfl rfl (v_indexAddrAn rfl Try.underlying27 inf3 rfl rfl (by omega)) ?_
        first | refine o_gn rfl rfl rfl rfl ?_ | refine o_g _ rfl rfl rfl rfl (v_ld1 rfl Try.underlying3 rfl rfl (t3_atn (by omega))) ?_
        first | refine o_gn rfl rfl rfl rfl ?_ | refine o_g _ rfl rfl rfl rfl (v_move rfl rfl) ?_
        first | refine o_gn rfl rfl rfl rfl ?_ | refine o_gtest rfl rfl rfl rfl (v_eql rfl rfl rfl) (fun h37 => ?_) (fun h37 => ?_)
        all_goals
          first | refine o_q _ rfl rfl rfl (v_pick_t rfl rfl rfl) ?_ | refine o_q _ rfl rfl rfl (v_pick_f rfl rfl rfl) ?_
          refine o_nil ?_
          with_reducible refine r_then ?_
          refine r_cond rfl (fun hc38 => ?_) (fun hc38 => ?_)
          ·
            first
            | (exfalso; revert hc38; decide)
            | skip
              refine r_region ?_
              refine o_q _ rfl rfl rfl (v_move rfl rfl) ?_
              refine o_q _ rfl rfl rfl (v_add rfl rfl rfl (by omega)) ?_
              refine o_q _ rfl rfl rfl (v_assign rfl rfl) ?_
              refine o_nil ?_
              with_reducible refine r_then ?_
              refine r_seq ?_
              refine r_seq ?_
              refine r_region ?_
              refine o_q _ rfl rfl rfl (v_move rfl rfl) ?_
              refine o_q _ rfl rfl rfl (v_lss rfl rfl rfl) ?_
              refine o_nil ?_
              with_reducible refine r_then ?_
              refine r_condd rfl (fun hc42 => ?_) (fun hc42 => ?_)
              ·
                refine r_region ?_
                refine o_q _ rfl rfl rfl (v_move rfl rfl) ?_
                refine o_q _ rfl rfl rfl (v_move rfl rfl) ?_
                refine o_q _ rfl rfl rfl (v_add rfl rfl rfl (by omega)) ?_
                refine o_q _ rfl rfl rfl (v_move rfl rfl) ?_
                refine o_q _ rfl rfl rfl (v_fieldAddr rfl Try.underlying26 inf23 rfl rfl rfl rfl) ?_
                refine o_q _ rfl rfl rfl (v_indexAddrA rfl Try.underlying23 inf3 rfl rfl (by omega)) ?_
                refine o_q _ rfl rfl rfl (v_ld1 rfl Try.underlying3 rfl rfl (F_drn (by omega))) ?_
                refine o_q _ rfl rfl rfl (v_sub rfl rfl rfl (by have h1 := hdr ((wk : Int) + 1).toNat; have h2 := hdr wk; have h3 := hdr ((wk : Int)).toNat; omega)) ?_
                refine o_q _ rfl rfl rfl (v_max2 rfl rfl rfl) ?_
                refine o_q _ rfl rfl rfl (v_assign rfl rfl) ?_
                refine o_nil ?_
                with_reducible refine r_then ?_
                refine r_region ?_
                refine o_q _ rfl rfl rfl (v_move rfl rfl) ?_
                refine o_q _ rfl rfl rfl (v_move rfl rfl) ?_
                refine o_lit rfl Try.underlying52 inf3 rfl rfl rfl rfl rfl rfl rfl rfl (by repeat (first | exact trivial | refine ⟨rfl, ?_⟩)) (by rfl) (fun b54 => ?_)
                refine o_app1 (_) rfl Try.underlying52 inf3 rfl (by rfl) (by rfl) rfl rfl rfl rfl rfl (by rfl) (by rfl) (by rfl) (by first | omega | (constructor <;> first | omega | decide)) (fun v55 => ?_)
                refine o_q _ rfl rfl rfl (v_assign rfl rfl) ?_
                refine o_nil ?_
                with_reducible refine r_in_normal ?_; refine r_then ?_
                refine r_region ?_
                refine o_q _ rfl rfl rfl (v_add rfl rfl rfl (by omega)) ?_
                refine o_q _ rfl rfl rfl (v_move rfl rfl) ?_
                refine o_nil ?_
                with_reducible refine r_then ?_
                exact r_next ((k + 1, v55)) (by have e := wS_1 hws (by omega) (by omega); refine Imp.own_to v55 (wetL F t heap ⟨a, b, c⟩ (k + 1)) (by rw [← wetL_next]; unfold Foot4.wetT; rw [e] <;> rfl) ?_; exact r_here (by repeat (first | exact FSub.nil | refine FSub.cons rfl ?_ | refine FSub.cons2 rfl (congrArg (Value.int .i64) (by rw [e] <;> rfl)) ?_)) SelMC.sel SubRC.sub) (by first | omega | (show _ + 1 ≤ _; omega)) (by first | omega | (show _ - (_ + 1) < _ - _; omega))
              ·
                refine r_skip ?_
                with_reducible refine r_then ?_
                refine r_region ?_
                refine o_q _ rfl rfl rfl (v_move rfl rfl) ?_
                refine o_q _ rfl rfl rfl (v_move rfl rfl) ?_
                refine o_lit rfl Try.underlying52 inf3 rfl rfl rfl rfl rfl rfl rfl rfl (by repeat (first | exact trivial | refine ⟨rfl, ?_⟩)) (by rfl) (fun b54 => ?_)
                refine o_app1 (_) rfl Try.underlying52 inf3 rfl (by rfl) (by rfl) rfl rfl rfl rfl rfl (by rfl) (by rfl) (by rfl) (by first | omega | (constructor <;> first | omega | decide)) (fun v55 => ?_)
                refine o_q _ rfl rfl rfl (v_assign rfl rfl) ?_
                refine o_nil ?_
                with_reducible refine r_in_normal ?_; refine r_then ?_
                refine r_region ?_
                refine o_q _ rfl rfl rfl (v_add rfl rfl rfl (by omega)) ?_
                refine o_q _ rfl rfl rfl (v_move rfl rfl) ?_
                refine o_nil ?_
                with_reducible refine r_then ?_
                exact r_next ((k + 1, v55)) (by have e := wS_2 hws (by omega) (by omega); refine Imp.own_to v55 (wetL F t heap ⟨a, b, c⟩ (k + 1)) (by rw [← wetL_next]; unfold Foot4.wetT; rw [e] <;> rfl) ?_; exact r_here (by repeat (first | exact FSub.nil | refine FSub.cons rfl ?_ | refine FSub.cons2 rfl (congrArg (Value.int .i64) (by rw [e] <;> rfl)) ?_)) SelMC.sel SubRC.sub) (by first | omega | (show _ + 1 ≤ _; omega)) (by first | omega | (show _ - (_ + 1) < _ - _; omega))
          ·
            first
            | (exfalso; revert hc38; decide)
            | skip
              refine r_skip ?_
              with_reducible refine r_then ?_
              refine r_seq ?_
              refine r_seq ?_
              refine r_region ?_
              refine o_q _ rfl rfl rfl (v_move rfl rfl) ?_
              refine o_q _ rfl rfl rfl (v_lss rfl rfl rfl) ?_
              refine o_nil ?_
              with_reducible refine r_then ?_
              refine r_condd rfl (fun hc42 => ?_) (fun hc42 => ?_)
              ·
                first
                | (exfalso; omega)
                | skip
                  refine r_region ?_
                  refine o_q _ rfl rfl rfl (v_move rfl rfl) ?_
                  refine o_q _ rfl rfl rfl (v_move rfl rfl) ?_
                  refine o_q _ rfl rfl rfl (v_add rfl rfl rfl (by omega)) ?_
                  refine o_q _ rfl rfl rfl (v_move rfl rfl) ?_
                  refine o_q _ rfl rfl rfl (v_fieldAddr rfl Try.underlying26 inf23 rfl rfl rfl rfl) ?_
                  refine o_q _ rfl rfl rfl (v_indexAddrAn rfl Try.underlying23 inf3 rfl rfl (by omega)) ?_
                  refine o_q _ rfl rfl rfl (v_ld1 rfl Try.underlying3 rfl rfl (F_drn (by omega))) ?_
                  refine o_q _ rfl rfl rfl (v_sub rfl rfl rfl (by have h1 := hdr ((wk : Int) + 1).toNat; have h2 := hdr wk; have h3 := hdr ((wk : Int)).toNat; omega)) ?_
                  refine o_q _ rfl rfl rfl (v_max2 rfl rfl rfl) ?_
                  refine o_q _ rfl rfl rfl (v_assign rfl rfl) ?_
                  refine o_nil ?_
                  with_reducible refine r_then ?_
                  refine r_region ?_
                  refine o_q _ rfl rfl rfl (v_move rfl rfl) ?_
                  refine o_q _ rfl rfl rfl (v_move rfl rfl) ?_
                  refine o_lit rfl Try.underlying52 inf3 rfl rfl rfl rfl rfl rfl rfl rfl (by repeat (first | exact trivial | refine ⟨rfl, ?_⟩)) (by rfl) (fun b54 => ?_)
                  refine o_app1 (_) rfl Try.underlying52 inf3 rfl (by rfl) (by rfl) rfl rfl rfl rfl rfl (by rfl) (by rfl) (by rfl) (by first | omega | (constructor <;> first | omega | decide)) (fun v55 => ?_)
                  refine o_q _ rfl rfl rfl (v_assign rfl rfl) ?_
                  refine o_nil ?_
                  with_reducible refine r_in_normal ?_; refine r_then ?_
                  refine r_region ?_
                  refine o_q _ rfl rfl rfl (v_add rfl rfl rfl (by omega)) ?_
                  refine o_q _ rfl rfl rfl (v_move rfl rfl) ?_
                  refine o_nil ?_
                  with_reducible refine r_then ?_
                  exact r_next ((k + 1, v55)) (by have e := wS_3 hws (by omega) (by omega); refine Imp.own_to v55 (wetL F t heap ⟨a, b, c⟩ (k + 1)) (by rw [← wetL_next]; unfold Foot4.wetT; rw [e] <;> rfl) ?_; exact r_here (by repeat (first | exact FSub.nil | refine FSub.cons rfl ?_ | refine FSub.cons2 rfl (congrArg (Value.int .i64) (by rw [e] <;> rfl)) ?_)) SelMC.sel SubRC.sub) (by first | omega | (show _ + 1 ≤ _; omega)) (by first | omega | (show _ - (_ + 1) < _ - _; omega))
              ·
                first
                | (exfalso; omega)
                | skip
                  refine r_skip ?_
                  with_reducible refine r_then ?_
                  refine r_region ?_
                  refine o_q _ rfl rfl rfl (v_move rfl rfl) ?_
                  refine o_q _ rfl rfl rfl (v_move rfl rfl) ?_
                  refine o_lit rfl Try.underlying52 inf3 rfl rfl rfl rfl rfl rfl rfl rfl (by repeat (first | exact trivial | refine ⟨rfl, ?_⟩)) (by rfl) (fun b54 => ?_)
                  refine o_app1 (_) rfl Try.underlying52 inf3 rfl (by rfl) (by rfl) rfl rfl rfl rfl rfl (by rfl) (by rfl) (by rfl) (by first | omega | (constructor <;> first | omega | decide)) (fun v55 => ?_)
                  refine o_q _ rfl rfl rfl (v_assign rfl rfl) ?_
                  refine o_nil ?_
                  with_reducible refine r_in_normal ?_; refine r_then ?_
                  refine r_region ?_
                  refine o_q _ rfl rfl rfl (v_add rfl rfl rfl (by omega)) ?_
                  refine o_q _ rfl rfl rfl (v_move rfl rfl) ?_
                  refine o_nil ?_
                  with_reducible refine r_then ?_
                  exact r_next ((k + 1, v55)) (by have e := wS_4 hws (by omega) (by omega); refine Imp.own_to v55 (wetL F t heap ⟨a, b, c⟩ (k + 1)) (by rw [← wetL_next]; unfold Foot4.wetT; rw [e] <;> rfl) ?_; exact r_here (by repeat (first | exact FSub.nil | refine FSub.cons rfl ?_ | refine FSub.cons2 rfl (congrArg (Value.int .i64) (by rw [e] <;> rfl)) ?_)) SelMC.sel SubRC.sub) (by first | omega | (show _ + 1 ≤ _; omega)) (by first | omega | (show _ - (_ + 1) < _ - _; omega))
    ·
      refine r_exit ?_
      with_reducible refine r_then_exit ?_; refine r_then_exit ?_; refine r_in_here ?_; refine r_then ?_
      refine r_seq ?_
      refine r_region ?_
      refine o_q _ rfl rfl rfl (v_move rfl rfl) ?_
      refine o_q _ rfl rfl rfl (v_assign rfl rfl) ?_
      refine o_nil ?_
      with_reducible refine r_then ?_
      refine r_ret ?_
      refine Imp.own_to v (wetL F t heap ⟨a, b, c⟩ F.rain.length) (by rw [show k = F.rain.length from by omega]) ?_
      refine Imp.settleL v encI_len (fun hsl => ?_)
      exact r_retr (Rd.tmp rfl rfl) hsl SelMC.sel SubRC.sub
end Go.Proofs.Ytienjlmnakbfmaa

namespace Go.Proofs.Ytienjlmnakbfmaa
open Go.G Foot4
set_option maxRecDepth 1000000
attribute [local irreducible] G.ParO G.Fin
set_option maxHeartbeats 4000000 in
theorem keeps_v (F : Work) (ro ho : Option Addr) (rc0 hc : Nat) (hg : GoodF F) (t : Tru) (ra fa : Option Addr) (rc fc : Nat) (ht : GoodT F t) (heap : Nat) (hh : heap < F.heaps.length) (a b c : Int) (hp : ∀ j, j < 3 → (⟨a, b, c⟩ : T3).at j ≤ (F.rain.length : Int)) : FnV Try.prog 36 [valT t ra fa rc fc, valF F ro rc0 ho hc, i64 heap, .agg #[i64 a, i64 b, i64 c]] [rowD ra 1 encI t.rain, rowD fa 1 encI t.first, rowD ro 2 encS F.rain, rowD ho 3 encH F.heaps] (.bool (decide (keepsT F t heap ⟨a, b, c⟩))) := by
  refine FnV.intro Try.call36 Try.func36 rfl Try.ntmps36 rfl ?_
  intro W M Rf
  refine r_seq ?_
  refine r_region ?_
  refine o_boxA rfl rfl rfl rfl rfl (fun b4 => ?_)
  refine o_boxA rfl rfl rfl rfl rfl (fun b5 => ?_)
  refine o_boxA rfl rfl rfl rfl rfl (fun b7 => ?_)
  refine o_q _ rfl rfl rfl (v_assign rfl rfl) ?_
  refine o_nil ?_
  with_reducible refine r_then ?_
  refine r_seq ?_
  refine r_region ?_
  refine o_q _ rfl rfl rfl (v_ldW rfl Try.underlying54 rfl inf54 rfl rfl) ?_
  refine o_q _ rfl rfl rfl (v_ldW rfl Try.underlying26 rfl inf26 rfl rfl) ?_
  refine o_q _ rfl rfl rfl (v_move rfl rfl) ?_
  refine o_q _ rfl rfl rfl (v_ldW rfl Try.underlying27 rfl inf27 rfl rfl) ?_
  refine o_fns (twet_r F ro ho rc0 hc hg t ra fa rc fc ht heap hh _ _ _) rfl rfl rfl rfl rfl SubRC.sub (fun oa16 cp16 => ?_)
  refine o_q _ rfl rfl rfl (v_assign rfl rfl) ?_
  refine o_nil ?_
  with_reducible refine r_then ?_
  refine r_seq ?_
  refine r_seq ?_
  have hwl := wetL_len (F := F) (t := t) (heap := heap) (p := ⟨a, b, c⟩) (k := F.rain.length)
  refine r_region ?_
  refine o_q _ rfl rfl rfl (v_ldW rfl Try.underlying27 rfl inf27 rfl rfl) ?_
  refine o_q _ rfl rfl rfl (v_move rfl rfl) ?_
  refine o_nil ?_
  with_reducible refine r_then ?_
  refine r_block ?_
  refine r_loop (ι := Nat) (fun j => j ≤ 3 ∧ ∀ i, i < j → keepsB F t heap ⟨a, b, c⟩ i) (fun j => [(5, pt b5 0), (9, .slice oa16 (wetL F t heap ⟨a, b, c⟩ F.rain.length).length cp16), (17, .agg #[i64 a, i64 b, i64 c]), (18, i64 j)]) (fun j => bx b5 26 (cellsF F ro rc0 ho hc) :: M) (fun j => rowD oa16 1 encI (wetL F t heap ⟨a, b, c⟩ F.rain.length) :: ([rowD ra 1 encI t.rain, rowD fa 1 encI t.first, rowD ro 2 encS F.rain, rowD ho 3 encH F.heaps] ++ Rf)) (fun j => 3 - j) 0 ?_ ?_ ?_
  ·
    exact r_here (by repeat (first | exact FSub.nil | refine FSub.cons rfl ?_)) SelMC.sel SubRC.sub
  ·
    exact ⟨Nat.zero_le _, fun h hh => absurd hh (by omega)⟩
  ·
    rintro j hI0
    have hpj := fun h => hp j h
    have hat : (⟨a, b, c⟩ : T3).at j ≤ (F.rain.length : Int) → 0 ≤ (⟨a, b, c⟩ : T3).at j → (wetL F t heap ⟨a, b, c⟩ F.rain.length).getD ((⟨a, b, c⟩ : T3).at j).toNat default = Foot4.wetT F t heap ⟨a, b, c⟩ ((⟨a, b, c⟩ : T3).at j).toNat := fun h1 h2 => wetL_at (by omega)
    refine r_seq ?_
    refine r_region ?_
    refine o_q _ rfl rfl rfl (v_lss rfl rfl rfl) ?_
    refine o_nil ?_
    with_reducible refine r_then ?_
    refine r_seq ?_
    refine r_condd rfl (fun hc19 => ?_) (fun hc19 => ?_)
    ·
      refine r_skip ?_
      with_reducible refine r_then ?_
      refine r_seq ?_
      refine r_block ?_
      refine r_seq ?_
      refine r_region ?_
      refine o_q _ rfl rfl rfl (v_move rfl rfl) ?_
      refine o_q _ rfl rfl rfl (v_indexV rfl Try.underlying27 inf3 Try.underlying3 rfl rfl rfl (by omega) (by first | rfl | exact t3_atv (by omega))) ?_
      refine o_q _ rfl rfl rfl (v_assign rfl rfl) ?_
      refine o_q _ rfl rfl rfl (v_assign rfl rfl) ?_
      refine o_nil ?_
      with_reducible refine r_then ?_
      refine r_seq ?_
      refine r_region_q mixed (by kernel_rfl) ?_
      refine q_q _ rfl rfl rfl (v_move rfl rfl) ?_
      refine q_test rfl rfl rfl (v_geq rfl rfl rfl) (fun h23 => ?_) (fun h23 => ?_)
      all_goals
        refine q_q _ rfl rfl rfl (v_move rfl rfl) ?_
        first | refine q_gn rfl rfl rfl rfl ?_ | refine q_g _ rfl rfl rfl rfl (v_move rfl rfl) ?_
        first | refine q_gn rfl rfl rfl rfl ?_ | refine q_g _ rfl rfl rfl rfl (v_move rfl rfl) ?_
        first | refine q_gn rfl rfl rfl rfl ?_ | refine q_g _ rfl rfl rfl rfl (v_indexAddrS rfl Try.underlying52 inf3 rfl rfl rfl (by omega) (by omega) rfl) ?_
        first | refine q_gn rfl rfl rfl rfl ?_ | refine q_g _ rfl rfl rfl rfl (v_loadE1 rfl Try.underlying3 rfl rfl (by omega) rfl rfl) ?_
        first | refine q_gn rfl rfl rfl rfl ?_ | refine q_g _ rfl rfl rfl rfl (v_move rfl rfl) ?_
        first | refine q_gn rfl rfl rfl rfl ?_ | refine q_g _ rfl rfl rfl rfl (v_fieldAddr rfl Try.underlying26 inf23 rfl rfl rfl rfl) ?_
        first | refine q_gn rfl rfl rfl rfl ?_ | refine q_g _ rfl rfl rfl rfl (v_indexAddrAn rfl Try.underlying23 inf3 rfl rfl (by omega)) ?_
        first | refine q_gn rfl rfl rfl rfl ?_ | refine q_g _ rfl rfl rfl rfl (v_ld1 rfl Try.underlying3 rfl rfl (F_limn (by omega))) ?_
        first | refine q_gn rfl rfl rfl rfl ?_ | refine q_gtest rfl rfl rfl rfl (v_gtr rfl rfl rfl) (fun h33 => ?_) (fun h33 => ?_)
        all_goals
          first | refine q_q _ rfl rfl rfl (v_pick_t rfl rfl rfl) ?_ | refine q_q _ rfl rfl rfl (v_pick_f rfl rfl rfl) ?_
          refine q_nil ?_
          with_reducible refine r_then ?_
          refine r_cond rfl (fun hc34 => ?_) (fun hc34 => ?_)
          ·
            first
            | (exfalso; revert hc34; decide)
            | skip
              refine r_seq ?_
              refine r_region ?_
              refine o_q _ rfl rfl rfl (v_assign rfl rfl) ?_
              refine o_nil ?_
              with_reducible refine r_then ?_
              refine r_ret ?_
              with_reducible refine r_in_ret ?_; refine r_then_ret ?_; refine r_then_ret ?_; refine r_in_ret ?_; refine r_then_ret ?_
              exact r_retv2 (Rd.tmp rfl rfl) (congrArg Value.bool (decide_eq_false (fun hk => by
                have := hk j (by omega)
                rcases this with h1 | h1
                · omega
                · rw [← hat (by omega) (by omega)] at h1; omega)).symm) SelMC.sel SubRC.sub
          ·
            first
            | (exfalso; revert hc34; decide)
            | skip
              refine r_skip ?_
              with_reducible refine r_in_normal ?_; refine r_then ?_
              refine r_region ?_
              refine o_q _ rfl rfl rfl (v_add rfl rfl rfl (by omega)) ?_
              refine o_q _ rfl rfl rfl (v_move rfl rfl) ?_
              refine o_nil ?_
              with_reducible refine r_then ?_
              refine r_next (j + 1) ?_ ?_ ?_
              ·
                exact r_here (by repeat (first | exact FSub.nil | refine FSub.cons rfl ?_)) SelMC.sel SubRC.sub
              ·
                exact ⟨by omega, all_step hI0.2 (by first | exact .inl (by omega) | exact .inr (by rw [← hat (by omega) (by omega)]; omega))⟩
              ·
                omega
    ·
      refine r_exit ?_
      with_reducible refine r_then_exit ?_; refine r_then_exit ?_; refine r_in_here ?_; refine r_then ?_
      refine r_seq ?_
      refine r_region ?_
      refine o_q _ rfl rfl rfl (v_assign rfl rfl) ?_
      refine o_nil ?_
      with_reducible refine r_then ?_
      refine r_ret ?_
      exact r_retv2 (Rd.tmp rfl rfl) (congrArg Value.bool (decide_eq_true (fun i hi => hI0.2 i (by omega))).symm) SelMC.sel SubRC.sub
end Go.Proofs.Ytienjlmnakbfmaa

namespace Go.G
variable {P : Program} {W : World} {n : Nat} {D : List Deferred} {L : Tm} {M : List Res} {R : List Fact} {Q : Exit → Act → World → Prop} {o : Oper}
theorem run_eqB {T : TypeId} {a b : Bool} (hT : P.underlying T = some .bool) (w : World) : (Op.equal T (.bool a) (.bool b)).run P w = .ok (a == b) w := by
  show (Op.equalIn (9999 + 1) T (.bool a) (.bool b)).run P w = _
  unfold Op.equalIn
  simp only [Sem.run_bind, run_underlying hT, Result.andThen_ok, Sem.run_pure]
theorem v_eqlB {T u : TypeId} {x y : Operand} {a b c : Bool} (ho : o.op = .binOp .eql T x y u) (hT : P.underlying T = some .bool) (hx : ev L x = some (.bool a)) (hy : ev L y = some (.bool b)) (hc : (a == b) = c) : OpQ P W n L M R o (.bool c) :=
  OpQ.of_value fun f w h1 _ => by
    have e1 := h1.ev hx
    have e2 := h1.ev hy
    have hb1 : (binOp .eql T (.bool a) (.bool b)).run P w = .ok (.bool c) w := by
      show Sem.run P (do pure (Value.bool (← Op.equal T (.bool a) (.bool b)))) w = _
      simp only [Sem.run_bind, run_eqB hT, Result.andThen_ok, Sem.run_pure, hc]
    unfold execOp
    simp [ho, e1, e2, eqGuard, hb1]
theorem v_neqB {T u : TypeId} {x y : Operand} {a b c : Bool} (ho : o.op = .binOp .neq T x y u) (hT : P.underlying T = some .bool) (hx : ev L x = some (.bool a)) (hy : ev L y = some (.bool b)) (hc : (!(a == b)) = c) : OpQ P W n L M R o (.bool c) :=
  OpQ.of_value fun f w h1 _ => by
    have e1 := h1.ev hx
    have e2 := h1.ev hy
    have hb1 : (binOp .neq T (.bool a) (.bool b)).run P w = .ok (.bool c) w := by
      show Sem.run P (do pure (Value.bool (!(← Op.equal T (.bool a) (.bool b))))) w = _
      simp only [Sem.run_bind, run_eqB hT, Result.andThen_ok, Sem.run_pure, hc]
    unfold execOp
    simp [ho, e1, e2, eqGuard, hb1]
theorem v_shrn {t u : TypeId} {x y : Operand} {a h : Nat} (ho : o.op = .binOp .shr t x y u) (hx : ev L x = some (.int .i64 (a : Int))) (hy : ev L y = some (.int .i64 (h : Int))) (ha : a < 2 ^ 62) (hh : h < 62) : OpQ P W n L M R o (.int .i64 ((a >>> h : Nat) : Int)) :=
  OpQ.of_value fun f w h1 _ => by
    have hle : a >>> h ≤ a := Nat.shiftRight_le a h
    have hw : IntKind.wrap .i64 ((a >>> h : Nat) : Int) = ((a >>> h : Nat) : Int) := by
      generalize a >>> h = q at hle ⊢
      rw [IntKind.wrap_i64]; omega
    have h2 : ¬ ((h : Int) < 0) := by omega
    have h3 : min h 64 = h := by omega
    have hs : (Op.shift .shr .i64 (a : Int) .i64 (h : Int)).run P w = .ok (.int .i64 ((a >>> h : Nat) : Int)) w := by
      unfold Op.shift
      rw [if_neg h2]
      have e : ((a : Int).fdiv (2 ^ (min (h : Int).toNat IntKind.i64.bits))) = ((a >>> h : Nat) : Int) := by
        rw [show (h : Int).toNat = h from by simp, show IntKind.i64.bits = 64 from rfl, h3, Nat.shiftRight_eq_div_pow, Int.fdiv_eq_ediv_of_nonneg _ (by exact Int.le_of_lt (Int.pow_pos (by decide)))]
        simp
      simp only [e, hw, Sem.run_pure]
    have hb : (binOp .shr t (.int .i64 (a : Int)) (.int .i64 (h : Int))).run P w = .ok (.int .i64 ((a >>> h : Nat) : Int)) w := hs
    simp [execOp, ho, h1.ev hx, h1.ev hy, eqGuard, hb]
theorem v_andn {t u : TypeId} {x y : Operand} {a b : Nat} (ho : o.op = .binOp .and t x y u) (hx : ev L x = some (.int .i64 (a : Int))) (hy : ev L y = some (.int .i64 (b : Int))) (ha : a < 2 ^ 62) (hb : b < 2 ^ 62) : OpQ P W n L M R o (.int .i64 ((a &&& b : Nat) : Int)) :=
  OpQ.of_value fun f w h1 _ => by
    have hlt : a &&& b ≤ a := Nat.and_le_left
    have hw : IntKind.wrap .i64 ((a &&& b : Nat) : Int) = ((a &&& b : Nat) : Int) := by
      rw [IntKind.wrap_i64]; omega
    have hs : (Op.intBits .and .i64 (a : Int) (b : Int)).run P w = .ok (.int .i64 ((a &&& b : Nat) : Int)) w := by
      unfold Op.intBits
      have e1 : (BitVec.ofInt IntKind.i64.bits (a : Int) &&& BitVec.ofInt IntKind.i64.bits (b : Int)).toNat = a &&& b := by
        have h64 : IntKind.i64.bits = 64 := rfl
        rw [BitVec.toNat_and]
        simp only [BitVec.ofInt_natCast, BitVec.toNat_ofNat, h64]
        rw [Nat.mod_eq_of_lt (by omega), Nat.mod_eq_of_lt (by omega)]
      simp only [e1, hw, Sem.run_pure]
    have hb2 : (binOp .and t (.int .i64 (a : Int)) (.int .i64 (b : Int))).run P w = .ok (.int .i64 ((a &&& b : Nat) : Int)) w := hs
    simp [execOp, ho, h1.ev hx, h1.ev hy, eqGuard, hb2]
theorem f_sl {α : Type} {X : Act → World → Prop} {os : List Oper} {ss : List Spc} {m sz : Nat} {enc : α → List Value} {ys : List α} {d : Nat} (hdst : o.dst = some d) (h : ∀ oa cap, Fin W n D X os ss ((d, .slice oa m cap) :: L) M (rowD oa sz enc ys :: R)) : Fin W n D X (o :: os) (Spc.g (isSl m) (fun _ => []) (fun v => [rowD (adr v) sz enc ys]) :: ss) L M R :=
  f_gf hdst (fun v hv => by
    obtain ⟨oa, cap, rfl⟩ := hv
    exact h oa cap)
/-- A slice that is made, in the free part: known from then on. -/
abbrev Spc.mk' {α : Type} (l c sz : Nat) (enc : α → List Value) (z0 : α) : Spc := Spc.g (fun v => v = .slice (some ⟨sblk v, 0, none⟩) (List.replicate l z0).length c) (fun _ => []) (fun v => [rowD (some ⟨sblk v, 0, none⟩) sz enc (List.replicate l z0)])
theorem p_make {α : Type} {enc : α → List Value} {ops : Array Oper} {K : List Spc → Prop} {rest : List Oper} {acc : List Spc} {t e : TypeId} {i : TypeInfo} {z : Value} {x y : Operand} {l c d : Nat} {sz : Nat} (z0 : α) (henc : ∀ x, (enc x).length = sz) (ho : o.op = .makeSlice t x y) (ht : P.underlying t = some (.slice e)) (hi : P.info? e = some i) (hz : i.zero = some z) (hsz : i.size = sz) (hzs : z.cells.size = sz) (hz0 : enc z0 = z.cells.toList)
    (hg : o.guard = none) (hdst : o.dst = some d) (hd : Nat.blt d n = true) (hx : ev L x = some (.int .i64 (l : Int))) (hy : ev L y = some (.int .i64 (c : Int))) (hlc : l ≤ c) (hbd : c ≤ 1000000 ∧ i.bytes ≤ 1000000)
    (h : ParO P W n M R ops K rest (acc ++ [Spc.mk' l c sz enc z0]) L) : ParO P W n M R ops K (o :: rest) acc L := by
  refine ⟨Spc.mk' l c sz enc z0, by simp [hdst, hd], .inl ⟨.inl hg, ?_⟩, by simpa [addL, Spc.g] using h⟩
  intro Mx Rx a w g1 g3
  have g3 : St W (Mx ++ M) (Rx ++ R) w := g3
  have hby : (i.bytes : Int) * (c : Int) ≤ 281474976710656 := by
    have h1 : i.bytes * c ≤ 1000000 * 1000000 := Nat.mul_le_mul hbd.2 hbd.1
    have h2 : ((i.bytes * c : Nat) : Int) ≤ 281474976710656 := by omega
    rwa [Int.natCast_mul] at h2
  have hr := run_make (P := P) w t e i z ht hi hz .i64 .i64 l c (by omega) (by omega) hby (by omega)
  have key : ∀ ρ : Operand → Value, ρ x = .int .i64 (l : Int) → ρ y = .int .i64 (c : Int) → (execOp ρ o).run P w = .ok (.value (.slice (some ⟨w.heap.size, 0, none⟩) l c)) (w.alloc (.cells (madeCells z.cells (c * i.size)) e)) := by
    intro ρ e1 e2
    unfold execOp
    simp only [Int.toNat_natCast] at hr
    simp only [ho, e1, e2, Sem.run_bind, hr, Result.andThen_ok, Sem.run_pure]
  rw [key _ (g1.ev hx) (g1.ev hy)]
  refine ⟨by show _ = Value.slice (some ⟨w.heap.size, 0, none⟩) (List.replicate l z0).length c; rw [List.length_replicate], ?_⟩
  have h4 := (g3.push (.cells (madeCells z.cells (c * i.size)) e)).seal_
  refine (h4.derive (ψ := rowD (some ⟨w.heap.size, 0, none⟩) sz enc (List.replicate l z0)) fun V hV => ?_).weak ?_
  · obtain ⟨s, hs, hp⟩ := hV (sealed (bl w.heap.size (.cells (madeCells z.cells (c * i.size)) e))) (by simp)
    have hs' : s = [(w.heap.size, .cells (madeCells z.cells (c * i.size)) e (0, 0))] := hs
    subst hs'
    refine .inr ⟨w.heap.size, 0, _, e, (0, 0), rfl, hp (w.heap.size, .cells (madeCells z.cells (c * i.size)) e (0, 0)) (by simp), fun p j hp hj => ?_⟩
    have hpl : p < l := by simpa using hp
    have hfl := made_flat (enc := enc) (z := z.cells) hz0 l
    have e1 := flat_at henc (List.replicate l z0) p j hp hj
    rw [Nat.zero_add, ← e1, ← hfl, hzs, hsz]
    have hlt : p * sz + j < l * sz := by
      have : (p + 1) * sz ≤ l * sz := Nat.mul_le_mul_right _ hpl
      rw [Nat.add_mul] at this; omega
    have hlt2 : l * sz ≤ c * sz := Nat.mul_le_mul_right _ hlc
    unfold madeCells
    simp [hlt, show p * sz + j < c * sz from by omega]
  · intro φ hφ
    rcases List.mem_append.1 hφ with h | h
    · have : φ = rowD (some ⟨w.heap.size, 0, none⟩) sz enc (List.replicate l z0) := by simpa [Spc.fs, Spc.g, sblk] using h
      subst this; simp
    · exact List.mem_cons_of_mem _ (List.mem_cons_of_mem _ h)
theorem f_make {α : Type} {X : Act → World → Prop} {os : List Oper} {ss : List Spc} {l c sz : Nat} {enc : α → List Value} {z0 : α} {d : Nat} (hdst : o.dst = some d) (h : ∀ b, Fin W n D X os ss ((d, .slice (some ⟨b, 0, none⟩) (List.replicate l z0).length c) :: L) M (rowD (some ⟨b, 0, none⟩) sz enc (List.replicate l z0) :: R)) : Fin W n D X (o :: os) (Spc.mk' l c sz enc z0 :: ss) L M R :=
  f_gf hdst (fun v hv => by
    have := h (sblk v)
    rw [← (show v = .slice (some ⟨sblk v, 0, none⟩) (List.replicate l z0).length c from hv)] at this
    exact this)
end Go.G

namespace Go.G
variable {P : Program} {W : World} {n : Nat} {D : List Deferred} {L : Tm} {M : List Res} {R : List Fact} {Q : Exit → Act → World → Prop} {o : Oper}
theorem p_stu {ops : Array Oper} {K : List Spc → Prop} {rest : List Oper} {acc : List Spc} {T B : TypeId} {x : Nat} {y : Operand} {zs : List Value} {v : Value} {i : TypeInfo} (j : Nat) {oj : Oper} (hg : o.guard = none) (hdst : o.dst = none) (ho : o.op = .store T (.tmp x) y) (hi : P.info? T = some i)
    (hoj : ops[j]? = some oj) (hx : oj.dst.getD 1000000 = x) (hsj : acc[j]? = some (Spc.g isPt (boxAt B zs) (fun _ => []))) (hdep : depOn o j = true) (hy : ∀ u, ev ((x, u) :: L) y = some v) (hc : v.cells.toList = zs) (hsz : zs.length = i.size) (h1 : oneCells zs = true) (hsp : splice zs 0 zs = zs)
    (h : ParO P W n M R ops K rest (acc ++ [Spc.u]) L) : ParO P W n M R ops K (o :: rest) acc L := by
  refine p_upd hg hdst hoj hsj rfl hdep (fun u hu => ?_) h
  obtain ⟨b, rfl⟩ := hu
  rw [hx]
  intro Mx Rx a w g1 g3
  have g3 : St W (Mx ++ (bx b B zs :: M)) (Rx ++ R) w := g3
  obtain ⟨w', hr, hw'⟩ := run_storeCells' (P := P) zs 0 0 (b := b) (T := B) (vs := zs) (M' := Mx ++ (bx b B zs :: M)) g3 (by rw [Nat.zero_add, hsp]; exact ⟨Mx, M, rfl, rfl⟩) (oneCells_mem h1) (by simp)
  have hcs : v.cells.size = i.size := by rw [← hsz, ← hc]; simp
  have hxe : ev ((x, pt b 0) :: L) (.tmp x) = some (pt b 0) := by simp [ev, look_cons_eq]
  have hrun : (execOp a.eval o).run P w = .ok .skip w' := by
    simp [execOp, ho, g1.ev hxe, g1.ev (hy _), Instr.storeAt, pt, Instr.sureAddr, storeVar, run_sizeOf' hi, hcs, hc, hr]
  rw [hrun]
  refine ⟨rfl, ?_⟩
  refine hw'.perm ?_
  show (Mx ++ (bx b B zs :: M)).Perm ([bx b B zs] ++ (Mx ++ M))
  exact List.perm_middle
/-- An operation that uses a slice that was made before it. -/
theorem p_depMk {α : Type} {ops : Array Oper} {K : List Spc → Prop} {rest : List Oper} {acc : List Spc} {d x : Nat} {v : Value} (j : Nat) {oj : Oper} {l c sz : Nat} {enc : α → List Value} {z0 : α} (hoj : ops[j]? = some oj) (hx : oj.dst.getD 1000000 = x) (hsj : acc[j]? = some (Spc.mk' l c sz enc z0)) (hdep : depOn o j = true) (hg : o.guard = none) (hdst : o.dst = some d) (hd : Nat.blt d n = true)
    (ho : ∀ b Mx Rx, OpQ P W n ((x, .slice (some ⟨b, 0, none⟩) (List.replicate l z0).length c) :: L) (Mx ++ M) (Rx ++ (rowD (some ⟨b, 0, none⟩) sz enc (List.replicate l z0) :: R)) o v) (h : ParO P W n M R ops K rest (acc ++ [Spc.q v]) ((d, v) :: L)) : ParO P W n M R ops K (o :: rest) acc L :=
  p_dep j hoj hsj rfl hdep hg hdst hd (fun u hu Mx Rx => by
    have := ho (sblk u) Mx Rx
    rw [← (show u = .slice (some ⟨sblk u, 0, none⟩) (List.replicate l z0).length c from hu), ← hx] at this
    exact this) h
end Go.G

namespace Foot4
open Go Go.G
theorem adv_cases (p : T3) (d : Int) : (adv p d 0 = 0 ∧ ¬ (0 ≤ p.a ∧ p.a ≤ d)) ∨ (adv p d 0 = 1 ∧ (0 ≤ p.a ∧ p.a ≤ d) ∧ ¬ (0 ≤ p.b ∧ p.b ≤ d)) ∨ (adv p d 0 = 2 ∧ (0 ≤ p.a ∧ p.a ≤ d) ∧ (0 ≤ p.b ∧ p.b ≤ d) ∧ ¬ (0 ≤ p.c ∧ p.c ≤ d)) ∨ (adv p d 0 = 3 ∧ (0 ≤ p.a ∧ p.a ≤ d) ∧ (0 ≤ p.b ∧ p.b ≤ d) ∧ (0 ≤ p.c ∧ p.c ≤ d)) := by
  rw [adv_0]
  by_cases a : 0 ≤ p.a ∧ p.a ≤ d
  · rw [if_pos a]
    by_cases b : 0 ≤ p.b ∧ p.b ≤ d
    · rw [if_pos b]
      by_cases c : 0 ≤ p.c ∧ p.c ≤ d
      · rw [if_pos c]; exact .inr (.inr (.inr ⟨rfl, a, b, c⟩))
      · rw [if_neg c]; exact .inr (.inr (.inl ⟨rfl, a, b, c⟩))
    · rw [if_neg b]; exact .inr (.inl ⟨rfl, a, b⟩)
  · rw [if_neg a]; exact .inl ⟨rfl, a⟩
theorem adv_step {m : Nat} {p : T3} (h : IsPlan m p) (d : Nat) {k : Nat} (hk : k = adv p ((d : Int) - 1) 0) : (if k < 3 ∧ p.at k = d then k + 1 else k) = adv p d 0 := by
  have h1 := ord1.1 h.2.2.1
  have h2 := ord2.1 h.2.2.2
  have q0 : p.at 0 = p.a := rfl
  have q1 : p.at 1 = p.b := rfl
  have q2 : p.at 2 = p.c := rfl
  rcases adv_cases p ((d : Int) - 1) with ⟨e, f⟩ | ⟨e, f⟩ | ⟨e, f⟩ | ⟨e, f⟩ <;> rw [e] at hk <;> subst hk <;> rcases adv_cases p (d : Int) with ⟨e', f'⟩ | ⟨e', f'⟩ | ⟨e', f'⟩ | ⟨e', f'⟩ <;> rw [e'] <;> first | (exfalso; omega) | (rw [if_pos (by omega)]) | (rw [if_neg (by omega)])
theorem adv_Done {m : Nat} {p : T3} (h : IsPlan m p) (d : Int) : ((adv p d 0 : Nat) : Int) = Done p d := by
  have h1 := ord1.1 h.2.2.1
  have h2 := ord2.1 h.2.2.2
  rw [adv_0, Done_eq]
  exact adv_done (by omega) (by omega)
theorem wS_done {F : Work} {t : Tru} {heap m : Nat} {p : T3} (h : IsPlan m p) : ∀ d : Nat, (wS F t heap p d).2 = adv p ((d : Int) - 1) 0
  | 0 => by
    show 0 = _
    rcases adv_cases p (((0 : Nat) : Int) - 1) with ⟨e, f⟩ | ⟨e, f⟩ | ⟨e, f⟩ | ⟨e, f⟩
    · rw [e]
    all_goals (exfalso; omega)
  | d + 1 => by
    have ih := wS_done (F := F) (t := t) (heap := heap) h d
    have := adv_step h d ih
    simp only [wS]
    rw [this]
    congr 1
    omega
/-- By how many steps are done, day by day. -/
theorem wetT_succ {F : Work} {t : Tru} {heap m : Nat} {p : T3} (h : IsPlan m p) (d : Nat) : wetT F t heap p (d + 1) = if Done p d < 3 then step (wetT F t heap p d) (t.rain.getD d 0) (F.dr.at (Done p d).toNat) else wetT F t heap p d := by
  have ih := wS_done (F := F) (t := t) (heap := heap) h d
  have h1 := adv_step h d ih
  have h2 := adv_Done h (d : Int)
  unfold wetT
  simp only [wS]
  rw [h1, ← h2]
  simp only [Int.toNat_natCast]
  by_cases hk : adv p (d : Int) 0 < 3
  · rw [if_pos hk, if_pos (by omega)]
  · rw [if_neg hk, if_neg (by omega)]
theorem step_mono {n n' r r' d : Int} (h1 : n ≤ n') (h2 : r ≤ r') : step n r d ≤ step n' r' d := by unfold step; omega
theorem wet_between {F : Work} {t : Tru} (ht : GoodT F t) {heap m : Nat} (hh : heap < F.heaps.length) {p : T3} (h : IsPlan m p) : ∀ d, d ≤ F.rain.length → bestTo F heap p d ≤ wetT F t heap p d ∧ wetT F t heap p d ≤ worstTo F heap p d
  | 0, _ => ht.first heap hh
  | d + 1, hd => by
    have ih := wet_between ht hh h d (by omega)
    have hr := ht.rain d (by omega)
    rw [wetT_succ h]
    simp only [bestTo, worstTo]
    split
    · exact ⟨step_mono ih.1 hr.1, step_mono ih.2 hr.2⟩
    · exact ih
theorem ends_wet {F : Work} {heap m : Nat} (hh : heap < F.heaps.length) {p : T3} (h : IsPlan m p) (b : Bool) : ∀ d, d ≤ F.rain.length → wetT F (endsT F b) heap p d = if b then worstTo F heap p d else bestTo F heap p d
  | 0, _ => by
    have e : (endsT F b).first.getD heap 0 = if b then (F.heaps.getD heap default).hi else (F.heaps.getD heap default).lo := by simp [truF, firstTo, List.getD_eq_getElem?_getD, hh]
    show (endsT F b).first.getD heap 0 = _
    rw [e]; rfl
  | d + 1, hd => by
    have ih := ends_wet hh h b d (by omega)
    have e : (endsT F b).rain.getD d 0 = if b then (F.rain.getD d default).hi else (F.rain.getD d default).lo := by simp [truF, rainTo, List.getD_eq_getElem?_getD, show d < F.rain.length from by omega]
    rw [wetT_succ h, ih, e]
    cases b <;> simp [bestTo, worstTo]
theorem plan_day {n : Nat} {p : T3} (h : IsPlan n p) {i : Nat} (hi : i < 3) : (p.at i).toNat ≤ n := by
  have := h.1 i hi
  omega
theorem keeps_up {F : Work} {t : Tru} (ht : GoodT F t) {heap : Nat} (hh : heap < F.heaps.length) {p : T3} (h : IsPlan F.rain.length p) (hk : keptF selW F heap p) : keepsT F t heap p := by
  intro i hi
  have hc : canF selW F heap p i := by
    obtain rfl | rfl | rfl : i = 0 ∨ i = 1 ∨ i = 2 := by omega
    · exact hk.1
    · exact hk.2.1
    · exact hk.2.2
  rw [(can_ok h i).1] at hc
  rcases hc with h0 | h0
  · exact .inl h0
  · exact .inr (Int.le_trans (wet_between ht hh h _ (plan_day h hi)).2 h0)
theorem keeps_down {F : Work} {t : Tru} (ht : GoodT F t) {heap : Nat} (hh : heap < F.heaps.length) {p : T3} (h : IsPlan F.rain.length p) (hk : keepsT F t heap p) : keptF selD F heap p := by
  have key : ∀ i, i < 3 → canF selD F heap p i := by
    intro i hi
    rw [(can_ok h i).2]
    rcases hk i hi with h0 | h0
    · exact .inl h0
    · exact .inr (Int.le_trans (wet_between ht hh h _ (plan_day h hi)).1 h0)
  exact ⟨key 0 (by omega), key 1 (by omega), key 2 (by omega)⟩
theorem keeps_ends {F : Work} {heap : Nat} (hh : heap < F.heaps.length) {p : T3} (h : IsPlan F.rain.length p) : (keepsT F (endsT F true) heap p ↔ keptF selW F heap p) ∧ (keepsT F (endsT F false) heap p ↔ keptF selD F heap p) := by
  have key : ∀ b i, i < 3 → (keepsB F (endsT F b) heap p i ↔ (if b then okStep F worstTo heap p i else okStep F bestTo heap p i)) := by
    intro b i hi
    unfold keepsB okStep
    rw [ends_wet hh h b _ (plan_day h hi)]
    cases b <;> simp
  have all3 : ∀ q : Nat → Prop, (∀ i, i < 3 → q i) ↔ q 0 ∧ q 1 ∧ q 2 := fun q => ⟨fun x => ⟨x 0 (by omega), x 1 (by omega), x 2 (by omega)⟩, fun ⟨a, b, c⟩ i hi => by
    obtain rfl | rfl | rfl : i = 0 ∨ i = 1 ∨ i = 2 := by omega
    · exact a
    · exact b
    · exact c⟩
  constructor
  · unfold keepsT keptF
    rw [all3, key true 0 (by omega), key true 1 (by omega), key true 2 (by omega), (can_ok h 0).1, (can_ok h 1).1, (can_ok h 2).1]
    simp
  · unfold keepsT keptF
    rw [all3, key false 0 (by omega), key false 1 (by omega), key false 2 (by omega), (can_ok h 0).2, (can_ok h 1).2, (can_ok h 2).2]
    simp
/-! ### what the program answers, where all is right -/
theorem wetP_at {F : Work} (hg : GoodF F) {heap d : Nat} {p : T3} (hh : heap < F.heaps.length) (hp : IsPlan F.rain.length p) (hd : d ≤ F.rain.length) : wetP F heap p d = (⟨bestTo F heap p d, worstTo F heap p d⟩, 0) := by
  rw [wetP_eq, wetR_ok hg (by simp [hp]; omega)]
  simp
theorem wetP_bad {F : Work} (hg : GoodF F) {x y : Int} {p : T3} (h : ¬ ((0 ≤ x ∧ x ≤ (F.heaps.length : Int) - 1) ∧ IsPlan F.rain.length p ∧ (0 ≤ y ∧ y ≤ (F.rain.length : Int)))) : wetP F x p y = (⟨0, 0⟩, 2) := by
  rw [wetP_of false (decide_eq_false h) (chk_false F)]
  simp [chk, hg]
theorem wetP_arg {F : Work} (hg : ¬ GoodF F) {x y : Int} {p : T3} : wetP F x p y = (⟨0, 0⟩, 1) := by
  rw [wetP_of _ rfl (chk_ne hg)]
  simp [chk, hg]
theorem canP_at {F : Work} (hg : GoodF F) {heap : Nat} {p : T3} (hh : heap < F.heaps.length) (hp : IsPlan F.rain.length p) : canP F heap p = (keptP F heap p, 0) := by
  rw [canP_ok hg (by simp [hp]; omega)]
  simp
theorem canP_bad {F : Work} (hg : GoodF F) {x : Int} {p : T3} (h : ¬ IsPlan F.rain.length p) : canP F x p = (0, 2) := by
  rw [canP_of false (decide_eq_false (fun hx => h hx.2)) (chk_false F)]
  simp [chk, hg]
theorem none_plan (n : Nat) (hn : 1 ≤ n) : IsPlan n noneT := by
  refine ⟨fun k hk => ?_, .inr (.inl rfl), ord1.2 (.inl (by decide)), ord2.2 (.inl (by decide))⟩
  obtain rfl | rfl | rfl : k = 0 ∨ k = 1 ∨ k = 2 := by omega
  all_goals (show -1 ≤ (-1 : Int) ∧ (-1 : Int) ≤ n - 1; omega)
def bads (n : Nat) : List T3 := [⟨0, 0, -1⟩, ⟨-1, 0, -1⟩, ⟨0, n, -1⟩, ⟨-2, -1, -1⟩]
theorem bads_not (n k : Nat) (hk : k < 4) : ¬ IsPlan n ((bads n).getD k default) := by
  intro h
  have h1 := ord1.1 h.2.2.1
  have hd := h.1
  obtain rfl | rfl | rfl | rfl : k = 0 ∨ k = 1 ∨ k = 2 ∨ k = 3 := by omega
  · have h2 : (0 : Int) < 0 ∨ (0 : Int) ≤ 0 ∧ (0 : Int) < 0 := h1; omega
  · have h2 : (0 : Int) < 0 ∨ (0 : Int) ≤ -1 ∧ (-1 : Int) < 0 := h1; omega
  · have h2 : -1 ≤ (n : Int) ∧ (n : Int) ≤ n - 1 := hd 1 (by omega); omega
  · have h2 : -1 ≤ (-2 : Int) ∧ (-2 : Int) ≤ n - 1 := hd 0 (by omega); omega
theorem broke_len {F : Work} (hg : GoodF F) {l : List T3} (h : ¬ (l.length : Int) = F.heaps.length) {x : Int × Int × Int × Int} (hx : BrokeP F l x) : x = (0, 0, 0, 2) := by
  have hl : ¬ ListOk F l := fun y => h y.1
  unfold BrokeP at hx
  simp only [hl, decide_false] at hx
  rw [if_neg (chk_false F)] at hx
  rw [hx]
  simp [chk, hg]
theorem kept_vals (F : Work) (heap : Nat) (p : T3) : keptP F heap p = 0 ∨ keptP F heap p = 1 ∨ keptP F heap p = 2 := by
  unfold keptP
  split
  · exact .inr (.inr rfl)
  · split
    · exact .inr (.inl rfl)
    · exact .inl rfl
theorem kept_2 {F : Work} {heap : Nat} {p : T3} : keptP F heap p = 2 ↔ keptF selW F heap p := by
  unfold keptP
  by_cases h : keptF selW F heap p
  · simp [h]
  · by_cases h' : keptF selD F heap p <;> simp [h, h']
theorem kept_0 {F : Work} (hg : GoodF F) {heap : Nat} (hh : heap < F.heaps.length) {p : T3} (hp : IsPlan F.rain.length p) : keptP F heap p = 0 ↔ ¬ keptF selD F heap p := by
  unfold keptP
  by_cases h : keptF selW F heap p
  · have := kept_down hg hh hp h
    simp [h, this]
  · by_cases h' : keptF selD F heap p <;> simp [h, h']
end Foot4

namespace Go.Proofs.Ytienjlmnakbfmaa
open Go.G Foot4
set_option maxRecDepth 1000000
attribute [local irreducible] G.ParO G.Fin
variable (F : Work) (ro ho : Option Addr) (rc hc : Nat)
theorem EWet_arg (hg : ¬ GoodF F) (hr : F.rain.length ≤ 40) (hh : F.heaps.length ≤ 40) : FnV Try.prog 15 [valF F ro rc ho hc, i64 0, .agg #[i64 (-1), i64 (-1), i64 (-1)], i64 0] [rowD ro 2 encS F.rain, rowD ho 3 encH F.heaps] (.tuple #[.agg #[i64 0, i64 0], i64 1]) := by
  have h := WetP_v F ro ho rc hc 0 (-1) (-1) (-1) 0 hr hh
  rw [wetP_arg hg] at h; exact h
theorem EWet_r (hg : GoodF F) (x y : Int) (p : T3) (hn : ¬ ((0 ≤ x ∧ x ≤ (F.heaps.length : Int) - 1) ∧ IsPlan F.rain.length p ∧ (0 ≤ y ∧ y ≤ (F.rain.length : Int)))) : FnV Try.prog 15 [valF F ro rc ho hc, i64 x, .agg #[i64 p.a, i64 p.b, i64 p.c], i64 y] [rowD ro 2 encS F.rain, rowD ho 3 encH F.heaps] (.tuple #[.agg #[i64 0, i64 0], i64 2]) := by
  have h := WetP_v F ro ho rc hc x p.a p.b p.c y (by have := hg.1; omega) (by have := hg.2.2.1; omega)
  rw [show (⟨p.a, p.b, p.c⟩ : T3) = p from rfl, wetP_bad hg hn] at h; exact h
theorem EWet_v (hg : GoodF F) (heap d : Nat) (p : T3) (hp : IsPlan F.rain.length p) (hh : heap < F.heaps.length) (hd : d ≤ F.rain.length) : FnV Try.prog 15 [valF F ro rc ho hc, i64 heap, .agg #[i64 p.a, i64 p.b, i64 p.c], i64 d] [rowD ro 2 encS F.rain, rowD ho 3 encH F.heaps] (.tuple #[.agg #[i64 (bestTo F heap p d), i64 (worstTo F heap p d)], i64 0]) := by
  have h := WetP_v F ro ho rc hc heap p.a p.b p.c d (by have := hg.1; omega) (by have := hg.2.2.1; omega)
  rw [show (⟨p.a, p.b, p.c⟩ : T3) = p from rfl, wetP_at hg hh hp hd] at h; exact h
theorem ECan_r (hg : GoodF F) (x : Int) (p : T3) (hn : ¬ IsPlan F.rain.length p) : FnV Try.prog 17 [valF F ro rc ho hc, i64 x, .agg #[i64 p.a, i64 p.b, i64 p.c]] [rowD ro 2 encS F.rain, rowD ho 3 encH F.heaps] (.tuple #[i64 0, i64 2]) := by
  have h := CanP_v F ro ho rc hc x p.a p.b p.c (by have := hg.1; omega) (by have := hg.2.2.1; omega)
  rw [show (⟨p.a, p.b, p.c⟩ : T3) = p from rfl, canP_bad hg hn] at h; exact h
theorem ECan_v (hg : GoodF F) (heap : Nat) (p : T3) (hp : IsPlan F.rain.length p) (hh : heap < F.heaps.length) {k : Int} (hk : keptP F heap p = k) : FnV Try.prog 17 [valF F ro rc ho hc, i64 heap, .agg #[i64 p.a, i64 p.b, i64 p.c]] [rowD ro 2 encS F.rain, rowD ho 3 encH F.heaps] (.tuple #[i64 k, i64 0]) := by
  have h := CanP_v F ro ho rc hc heap p.a p.b p.c (by have := hg.1; omega) (by have := hg.2.2.1; omega)
  rw [show (⟨p.a, p.b, p.c⟩ : T3) = p from rfl, canP_at hg hh hp, hk] at h; exact h
theorem EBrk_v (hg : GoodF F) (l : List T3) (lo : Option Addr) (lc : Nat) (hl : l.length ≤ 40) (hn : ¬ (l.length : Int) = F.heaps.length) : FnV Try.prog 23 [valF F ro rc ho hc, .slice lo l.length lc] [rowD lo 3 encT l, rowD ro 2 encS F.rain, rowD ho 3 encH F.heaps] (.tuple #[i64 0, i64 0, i64 0, i64 2]) :=
  have h := BrokenP_r F ro ho rc hc (by have := hg.1; omega) (by have := hg.2.2.1; omega) l lo lc hl
  ⟨h.enter, fun W M Rf w hw => (h.calls W M Rf w hw).mono fun e w' ⟨v, he, ⟨x, hv, hx⟩, hs⟩ => by
    have := broke_len hg hn hx
    subst this hv
    exact ⟨he, hs⟩⟩
theorem EMade_v (hg : GoodF F) (m0 : Nat) (hm : m0 ≤ 65535) : FnV Try.prog 32 [valF F ro rc ho hc, i64 m0] [rowD ro 2 encS F.rain, rowD ho 3 encH F.heaps] (.agg #[i64 (madeP F.rain.length m0).a, i64 (madeP F.rain.length m0).b, i64 (madeP F.rain.length m0).c]) := made_v F ro ho rc hc m0 hm (by have := hg.1; omega)
theorem EKeeps_v (hg : GoodF F) (t : Tru) (ra fa : Option Addr) (qc fc : Nat) (ht : GoodT F t) (heap : Nat) (hh : heap < F.heaps.length) (p : T3) (hp : IsPlan F.rain.length p) : FnV Try.prog 36 [valT t ra fa qc fc, valF F ro rc ho hc, i64 heap, .agg #[i64 p.a, i64 p.b, i64 p.c]] [rowD ra 1 encI t.rain, rowD fa 1 encI t.first, rowD ro 2 encS F.rain, rowD ho 3 encH F.heaps] (.bool (decide (keepsT F t heap p))) :=
  keeps_v F ro ho rc hc hg t ra fa qc fc ht heap hh p.a p.b p.c (fun j hj => by have := (hp.1 j hj).2; show p.at j ≤ _; omega)
theorem ETwet_r (hg : GoodF F) (t : Tru) (ra fa : Option Addr) (qc fc : Nat) (ht : GoodT F t) (heap : Nat) (hh : heap < F.heaps.length) (p : T3) : FnR Try.prog 34 [valT t ra fa qc fc, valF F ro rc ho hc, i64 heap, .agg #[i64 p.a, i64 p.b, i64 p.c]] [rowD ra 1 encI t.rain, rowD fa 1 encI t.first, rowD ro 2 encS F.rain, rowD ho 3 encH F.heaps] (isSl (wetL F t heap p F.rain.length).length) (fun v => [rowD (adr v) 1 encI (wetL F t heap p F.rain.length)]) :=
  twet_r F ro ho rc hc hg t ra fa qc fc ht heap hh p.a p.b p.c
theorem kcases {F : Work} (hg : GoodF F) {heap : Nat} (hh : heap < F.heaps.length) {p : T3} (hp : IsPlan F.rain.length p) :
    (keptP F heap p = 2 ∧ keepsT F (endsT F true) heap p ∧ keepsT F (endsT F false) heap p) ∨ (keptP F heap p = 1 ∧ ¬ keepsT F (endsT F true) heap p ∧ keepsT F (endsT F false) heap p) ∨ (keptP F heap p = 0 ∧ ¬ keepsT F (endsT F true) heap p ∧ ¬ keepsT F (endsT F false) heap p) := by
  rw [(keeps_ends hh hp).1, (keeps_ends hh hp).2]
  have h2 := kept_2 (F := F) (heap := heap) (p := p)
  have h0 := kept_0 hg hh hp
  have hd := fun hk => kept_down hg hh hp (F := F) hk
  rcases kept_vals F heap p with h | h | h <;> rw [h] at h2 h0 ⊢
  · exact .inr (.inr ⟨rfl, fun hk => absurd (h2.2 hk) (by decide), h0.1 rfl⟩)
  · exact .inr (.inl ⟨rfl, fun hk => absurd (h2.2 hk) (by decide), Classical.byContradiction fun hk => absurd (h0.2 hk) (by decide)⟩)
  · exact .inl ⟨rfl, h2.1 rfl, hd (h2.1 rfl)⟩
theorem wetL_end {F : Work} {heap d : Nat} (hh : heap < F.heaps.length) {p : T3} (hp : IsPlan F.rain.length p) (hd : d ≤ F.rain.length) (b : Bool) : (wetL F (endsT F b) heap p F.rain.length).getD d default = if b then worstTo F heap p d else bestTo F heap p d := by
  rw [← ends_wet hh hp b d hd]
  exact wetL_at hd
omit F ro ho rc hc in
theorem f_truth {W : World} {n : Nat} {D : List Deferred} {L : Tm} {M : List Res} {R : List Fact} {o : Oper} {X : Act → World → Prop} {os : List Oper} {ss : List Spc} {t : Tru} {d : Nat} (hdst : o.dst = some d) (h : ∀ ra qc fa fc, Fin W n D X os ss ((d, valT t ra fa qc fc) :: L) M (rowD ra 1 encI t.rain :: rowD fa 1 encI t.first :: R)) : Fin W n D X (o :: os) (Spc.g (fun v => ∃ ra rc fa fc, v = valT t ra fa rc fc) (fun _ => []) (fun v => [rowD (adrAt v 0) 1 encI t.rain, rowD (adrAt v 1) 1 encI t.first]) :: ss) L M R :=
  f_gf hdst (by rintro v ⟨ra, qc, fa, fc, rfl⟩; exact h ra qc fa fc)
set_option maxHeartbeats 4000000 in
theorem ends_holds_v (w0 p0 : Nat) (hw : w0 ≤ 255) (hp0 : p0 ≤ 65535) : FnV Try.prog 7 [valF F ro rc ho hc, .int .u8 w0, .int .u16 p0] [rowD ro 2 encS F.rain, rowD ho 3 encH F.heaps] (.bool true) := by
  refine FnV.intro Try.call7 Try.func7 rfl Try.ntmps7 rfl ?_
  intro W M Rf
  refine r_seq ?_
  refine r_region ?_
  refine o_boxA rfl rfl rfl rfl rfl (fun b3 => ?_)
  refine o_q _ rfl rfl rfl (v_assign rfl rfl) ?_
  refine o_nil ?_
  with_reducible refine r_then ?_
  refine r_seq ?_
  refine r_seq ?_
  refine r_region ?_
  refine o_q _ rfl rfl rfl (v_ldW rfl Try.underlying26 rfl inf26 rfl rfl) ?_
  refine o_q _ rfl rfl rfl (OpQ.fn (far_v F ro ho rc hc _ _ _) rfl rfl SubRC.sub) ?_
  refine o_nil ?_
  with_reducible refine r_then ?_
  refine r_condd rfl (fun hc38 => ?_) (fun hc38 => ?_)
  ·
    refine r_seq ?_
    refine r_region ?_
    refine o_q _ rfl rfl rfl (OpQ.fn awake_v rfl rfl SubRC.sub) ?_
    refine o_q _ rfl rfl rfl (v_assign rfl rfl) ?_
    refine o_nil ?_
    with_reducible refine r_then ?_
    refine r_ret ?_
    with_reducible refine r_then_ret ?_
    exact r_retv2 (Rd.tmp rfl rfl) rfl SelMC.sel SubRC.sub
  ·
    refine r_skip ?_
    with_reducible refine r_then ?_
    refine r_seq ?_
    refine r_seq ?_
    refine r_region ?_
    refine o_q _ rfl rfl rfl (v_ldW rfl Try.underlying26 rfl inf26 rfl rfl) ?_
    refine o_test rfl rfl rfl (OpQ.fn (Foot_v F ro ho rc hc (by omega) (by omega)) rfl rfl SubRC.sub) (fun h41 => ?_) (fun h41 => ?_)
    all_goals
      refine o_q _ rfl rfl rfl (v_not rfl rfl) ?_
      refine o_nil ?_
      with_reducible refine r_then ?_
      refine r_cond rfl (fun hc42 => ?_) (fun hc42 => ?_)
      ·
        first
        | (exfalso; revert hc42; decide)
        | skip
          refine r_seq ?_
          refine r_par' 8 mixed (by kernel_rfl) (by rfl) ?_
          refine p_q _ rfl rfl rfl (fun _ _ => v_ldW rfl Try.underlying26 rfl inf26 rfl rfl) ?_
          refine p_q _ rfl rfl rfl (fun _ _ => OpQ.fn None_v rfl rfl SubRC.sub) ?_
          refine p_q _ rfl rfl rfl (fun _ _ => OpQ.fn (EWet_arg F ro ho rc hc (by assumption) (by omega) (by omega)) rfl rfl SubRC.sub) ?_
          refine p_q _ rfl rfl rfl (fun _ _ => v_move rfl rfl) ?_
          refine p_q _ rfl rfl rfl (fun _ _ => v_extract rfl rfl rfl) ?_
          refine p_q _ rfl rfl rfl (fun _ _ => v_extract rfl rfl rfl) ?_
          refine p_alloc rfl inf31 rfl rfl rfl rfl rfl ?_
          refine p_acc (by simp only [List.nil_append, List.cons_append]; rfl) ?_
          refine p_stu 6 rfl rfl rfl inf31 rfl rfl rfl (by kernel_rfl) (fun _ => rfl) rfl rfl rfl rfl ?_
          refine p_nil2 (by simp only [List.nil_append, List.cons_append]; rfl) rfl ?_
          refine f_q rfl ?_
          refine f_q rfl ?_
          refine f_q rfl ?_
          refine f_q rfl ?_
          refine f_q rfl ?_
          refine f_q rfl ?_
          refine f_alloc rfl (fun b7 => ?_)
          refine f_u rfl ?_
          refine f_nil ?_
          refine o_q _ rfl rfl rfl (v_assign rfl rfl) ?_
          refine o_nil ?_
          with_reducible refine r_then ?_
          refine r_seq ?_
          have hbb := bestP_bad (F := F) (by assumption)
          skip
          refine r_region ?_
          refine o_q _ rfl rfl rfl (v_ldW rfl Try.underlying26 rfl inf26 rfl rfl) ?_
          refine o_fnown (Best_s F ro ho rc hc (by omega) (by omega)) rfl rfl rfl rfl rfl SubRC.sub (fun v51 => ?_)
          all_goals
            refine Imp.settleS v51 encT_len (fun oa51 cp51 hv => ?_)
            subst hv
            rw [hbb]
            dsimp only [List.length_nil]
            refine o_q _ rfl rfl rfl (v_move rfl rfl) ?_
            refine o_q _ rfl rfl rfl (v_extract rfl rfl rfl) ?_
            refine o_q _ rfl rfl rfl (v_extract rfl rfl rfl) ?_
            refine o_q _ rfl rfl rfl (v_extract rfl rfl rfl) ?_
            refine o_q _ rfl rfl rfl (v_assign rfl rfl) ?_
            refine o_q _ rfl rfl rfl (v_assign rfl rfl) ?_
            refine o_q _ rfl rfl rfl (v_assign rfl rfl) ?_
            refine o_nil ?_
            with_reducible refine r_then ?_
            refine r_seq ?_
            refine r_region ?_
            refine o_q _ rfl rfl rfl (v_move rfl rfl) ?_
            refine o_q _ rfl rfl rfl (v_true (v_eql rfl rfl rfl) (by omega)) ?_
            all_goals
              refine o_q _ rfl rfl rfl (v_move rfl rfl) ?_
              refine o_g _ rfl rfl rfl rfl (v_move rfl rfl) ?_
              refine o_g _ rfl rfl rfl rfl (v_move rfl rfl) ?_
              refine o_g _ rfl rfl rfl rfl (v_true (v_eql rfl rfl rfl) (by omega)) ?_
              all_goals
                refine o_q _ rfl rfl rfl (v_pick_t rfl rfl rfl) ?_
                refine o_q _ rfl rfl rfl (v_move rfl rfl) ?_
                refine o_g _ rfl rfl rfl rfl (v_ldW rfl Try.underlying31 rfl inf31 rfl rfl) ?_
                refine o_g _ rfl rfl rfl rfl (v_bS0 rfl Try.underlying31 inf31 plt31 rfl rfl) ?_
                refine o_g _ rfl rfl rfl rfl (v_cast (v := .bool true) (v_eqP rfl rfl rfl guard31 (eq31 _ _ _ _)) (congrArg Value.bool (decide_eq_true rfl))) ?_
                refine o_q _ rfl rfl rfl (v_pick_t rfl rfl rfl) ?_
                refine o_q _ rfl rfl rfl (v_move rfl rfl) ?_
                refine o_g _ rfl rfl rfl rfl (v_move rfl rfl) ?_
                refine o_g _ rfl rfl rfl rfl (v_true (v_eql rfl rfl rfl) (by omega)) ?_
                all_goals
                  refine o_q _ rfl rfl rfl (v_pick_t rfl rfl rfl) ?_
                  refine o_q _ rfl rfl rfl (v_move rfl rfl) ?_
                  refine o_g _ rfl rfl rfl rfl (v_move rfl rfl) ?_
                  refine o_g _ rfl rfl rfl rfl (v_len rfl rfl Try.underlying40 rfl) ?_
                  refine o_g _ rfl rfl rfl rfl (v_true (v_eql rfl rfl rfl) (by omega)) ?_
                  all_goals
                    refine o_q _ rfl rfl rfl (v_pick_t rfl rfl rfl) ?_
                    refine o_q _ rfl rfl rfl (v_move rfl rfl) ?_
                    refine o_g _ rfl rfl rfl rfl (OpQ.fn awake_v rfl rfl SubRC.sub) ?_
                    refine o_q _ rfl rfl rfl (v_pick_t rfl rfl rfl) ?_
                    refine o_q _ rfl rfl rfl (v_assign rfl rfl) ?_
                    refine o_nil ?_
                    with_reducible refine r_then ?_
                    refine r_ret ?_
                    with_reducible refine r_then_ret ?_
                    exact r_retv2 (Rd.tmp rfl rfl) rfl SelMC.sel SubRC.sub
      ·
        first
        | (exfalso; revert hc42; decide)
        | skip
          refine r_skip ?_
          with_reducible refine r_then ?_
          refine r_seq ?_
          have hg : GoodF F := by first | assumption | (exact Classical.byContradiction fun h => by simp_all)
          have h8 := hg.1
          have h3 := hg.2.2.1
          refine r_par' 11 mixed (by kernel_rfl) (by rfl) ?_
          refine p_q _ rfl rfl rfl (fun _ _ => v_ldW rfl Try.underlying26 rfl inf26 rfl rfl) ?_
          refine p_q _ rfl rfl rfl (fun _ _ => v_fieldAddr rfl Try.underlying26 inf24 rfl rfl rfl rfl) ?_
          refine p_q _ rfl rfl rfl (fun _ _ => v_ld1 rfl Try.underlying24 rfl rfl rfl) ?_
          refine p_q _ rfl rfl rfl (fun _ _ => v_len rfl rfl Try.underlying24 rfl) ?_
          refine p_q _ rfl rfl rfl (fun _ _ => OpQ.fn None_v rfl rfl SubRC.sub) ?_
          refine p_q _ rfl rfl rfl (fun _ _ => OpQ.fn (EWet_r F ro ho rc hc hg _ _ noneT (by intro hx; have := hx.1; omega)) rfl rfl SubRC.sub) ?_
          refine p_q _ rfl rfl rfl (fun _ _ => v_move rfl rfl) ?_
          refine p_q _ rfl rfl rfl (fun _ _ => v_extract rfl rfl rfl) ?_
          refine p_q _ rfl rfl rfl (fun _ _ => v_extract rfl rfl rfl) ?_
          refine p_alloc rfl inf31 rfl rfl rfl rfl rfl ?_
          refine p_acc (by simp only [List.nil_append, List.cons_append]; rfl) ?_
          refine p_stu 9 rfl rfl rfl inf31 rfl rfl rfl (by kernel_rfl) (fun _ => rfl) rfl rfl rfl rfl ?_
          refine p_nil2 (by simp only [List.nil_append, List.cons_append]; rfl) rfl ?_
          refine f_q rfl ?_
          refine f_q rfl ?_
          refine f_q rfl ?_
          refine f_q rfl ?_
          refine f_q rfl ?_
          refine f_q rfl ?_
          refine f_q rfl ?_
          refine f_q rfl ?_
          refine f_q rfl ?_
          refine f_alloc rfl (fun b12 => ?_)
          refine f_u rfl ?_
          refine f_nil ?_
          refine o_q _ rfl rfl rfl (v_assign rfl rfl) ?_
          refine o_nil ?_
          with_reducible refine r_then ?_
          refine r_seq ?_
          refine r_par' 15 mixed (by kernel_rfl) (by rfl) ?_
          refine p_q _ rfl rfl rfl (fun _ _ => v_ldW rfl Try.underlying26 rfl inf26 rfl rfl) ?_
          refine p_q _ rfl rfl rfl (fun _ _ => v_fieldAddr rfl Try.underlying26 inf24 rfl rfl rfl rfl) ?_
          refine p_q _ rfl rfl rfl (fun _ _ => v_ld1 rfl Try.underlying24 rfl rfl rfl) ?_
          refine p_q _ rfl rfl rfl (fun _ _ => v_len rfl rfl Try.underlying24 rfl) ?_
          refine p_q _ rfl rfl rfl (fun _ _ => v_add rfl rfl rfl (by omega)) ?_
          refine p_make (l := F.heaps.length + 1) (c := F.heaps.length + 1) ((⟨0, 0, 0⟩ : T3)) encT_len rfl Try.underlying40 inf27 rfl rfl rfl rfl rfl rfl rfl rfl rfl (Nat.le_refl _) ⟨by omega, by decide⟩ ?_
          refine p_acc (by simp only [List.nil_append, List.cons_append]; rfl) ?_
          refine p_depMk 5 rfl rfl rfl (by kernel_rfl) rfl rfl rfl (fun b95 _ _ => OpQ.fn (EBrk_v F ro ho rc hc hg _ (some ⟨b95, 0, none⟩) _ (by simp; omega) (by simp; omega)) rfl rfl SubRC.sub) ?_
          refine p_q _ rfl rfl rfl (fun _ _ => v_move rfl rfl) ?_
          refine p_q _ rfl rfl rfl (fun _ _ => v_extract rfl rfl rfl) ?_
          refine p_q _ rfl rfl rfl (fun _ _ => v_extract rfl rfl rfl) ?_
          refine p_q _ rfl rfl rfl (fun _ _ => v_extract rfl rfl rfl) ?_
          refine p_q _ rfl rfl rfl (fun _ _ => v_extract rfl rfl rfl) ?_
          refine p_q _ rfl rfl rfl (fun _ _ => v_assign rfl rfl) ?_
          refine p_q _ rfl rfl rfl (fun _ _ => v_assign rfl rfl) ?_
          refine p_q _ rfl rfl rfl (fun _ _ => v_assign rfl rfl) ?_
          refine p_nil2 (by simp only [List.nil_append, List.cons_append]; rfl) rfl ?_
          refine f_q rfl ?_
          refine f_q rfl ?_
          refine f_q rfl ?_
          refine f_q rfl ?_
          refine f_q rfl ?_
          refine f_make rfl (fun b94 => ?_)
          refine f_q rfl ?_
          refine f_q rfl ?_
          refine f_q rfl ?_
          refine f_q rfl ?_
          refine f_q rfl ?_
          refine f_q rfl ?_
          refine f_q rfl ?_
          refine f_q rfl ?_
          refine f_q rfl ?_
          refine f_nil ?_
          refine o_q _ rfl rfl rfl (v_assign rfl rfl) ?_
          refine o_nil ?_
          with_reducible refine r_then ?_
          refine r_seq ?_
          refine r_seq ?_
          refine r_region ?_
          refine o_q _ rfl rfl rfl (v_move rfl rfl) ?_
          refine o_q _ rfl rfl rfl (v_false (v_neq rfl rfl rfl) (by omega)) ?_
          all_goals
            refine o_q _ rfl rfl rfl (v_move rfl rfl) ?_
            refine o_g _ rfl rfl rfl rfl (v_move rfl rfl) ?_
            refine o_g _ rfl rfl rfl rfl (v_move rfl rfl) ?_
            refine o_g _ rfl rfl rfl rfl (v_false (v_neq rfl rfl rfl) (by omega)) ?_
            all_goals
              refine o_q _ rfl rfl rfl (v_pick_f rfl rfl rfl) ?_
              refine o_nil ?_
              with_reducible refine r_then ?_
              refine r_cond rfl (fun hc106 => ?_) (fun hc106 => ?_)
              ·
                (exfalso; revert hc106; decide)
              ·
                refine r_skip ?_
                with_reducible refine r_then ?_
                refine r_seq ?_
                refine r_seq ?_
                refine r_region ?_
                refine o_q _ rfl rfl rfl (v_fieldAddr rfl Try.underlying26 inf24 rfl rfl rfl rfl) ?_
                refine o_q _ rfl rfl rfl (v_ld1 rfl Try.underlying24 rfl rfl rfl) ?_
                refine o_q _ rfl rfl rfl (v_len rfl rfl Try.underlying24 rfl) ?_
                refine o_q _ rfl rfl rfl (v_eql rfl rfl rfl) ?_
                refine o_nil ?_
                with_reducible refine r_then ?_
                refine r_condd rfl (fun hc110 => ?_) (fun hc110 => ?_)
                ·
                  refine r_seq ?_
                  refine r_region ?_
                  refine o_q _ rfl rfl rfl (OpQ.fn awake_v rfl rfl SubRC.sub) ?_
                  refine o_q _ rfl rfl rfl (v_assign rfl rfl) ?_
                  refine o_nil ?_
                  with_reducible refine r_then ?_
                  refine r_ret ?_
                  with_reducible refine r_then_ret ?_
                  exact r_retv2 (Rd.tmp rfl rfl) rfl SelMC.sel SubRC.sub
                ·
                  refine r_skip ?_
                  with_reducible refine r_then ?_
                  refine r_seq ?_
                  refine r_par' 11 mixed (by kernel_rfl) (by rfl) ?_
                  refine p_q _ rfl rfl rfl (fun _ _ => v_move rfl rfl) ?_
                  refine p_q _ rfl rfl rfl (fun _ _ => v_conv rfl Try.underlying5 Try.underlying3 rfl (IntWalk.i64_in _ (by omega))) ?_
                  refine p_q _ rfl rfl rfl (fun _ _ => v_fieldAddr rfl Try.underlying26 inf24 rfl rfl rfl rfl) ?_
                  refine p_q _ rfl rfl rfl (fun _ _ => v_ld1 rfl Try.underlying24 rfl rfl rfl) ?_
                  refine p_q _ rfl rfl rfl (fun _ _ => v_len rfl rfl Try.underlying24 rfl) ?_
                  refine p_q _ rfl rfl rfl (fun _ _ => v_cast (v := i64 ((w0 % F.heaps.length : Nat) : Int)) (v_rem rfl rfl rfl (by omega)) (congrArg (Value.int .i64) (tmod_nat (a := w0) (b := F.heaps.length)))) ?_
                  refine p_q _ rfl rfl rfl (fun _ _ => v_ldW rfl Try.underlying26 rfl inf26 rfl rfl) ?_
                  refine p_q _ rfl rfl rfl (fun _ _ => v_move rfl rfl) ?_
                  refine p_q _ rfl rfl rfl (fun _ _ => v_conv rfl Try.underlying49 Try.underlying3 rfl (IntWalk.i64_in _ (by omega))) ?_
                  refine p_q _ rfl rfl rfl (fun _ _ => OpQ.fn (EMade_v F ro ho rc hc hg p0 hp0) rfl rfl SubRC.sub) ?_
                  refine p_alloc rfl inf27 rfl rfl rfl rfl rfl ?_
                  refine p_nil2 (by simp only [List.nil_append, List.cons_append]; rfl) rfl ?_
                  refine f_q rfl ?_
                  refine f_q rfl ?_
                  refine f_q rfl ?_
                  refine f_q rfl ?_
                  refine f_q rfl ?_
                  refine f_q rfl ?_
                  refine f_q rfl ?_
                  refine f_q rfl ?_
                  refine f_q rfl ?_
                  refine f_q rfl ?_
                  refine f_alloc rfl (fun b19 => ?_)
                  refine f_nil ?_
                  refine o_q _ rfl rfl rfl (v_assign rfl rfl) ?_
                  refine o_st rfl inf27 rfl rfl rfl rfl rfl rfl rfl rfl ?_
                  refine o_nil ?_
                  with_reducible refine r_then ?_
                  refine r_seq ?_
                  refine r_seq ?_
                  have hhp : w0 % F.heaps.length < F.heaps.length := Nat.mod_lt w0 (by omega)
                  refine r_region ?_
                  refine o_q _ rfl rfl rfl (v_bA rfl Try.underlying27 inf27 inf3 rfl rfl rfl (by repeat (first | exact trivial | refine ⟨rfl, ?_⟩)) (by rfl)) ?_
                  refine o_q _ rfl rfl rfl (v_bA rfl Try.underlying27 inf27 inf3 rfl rfl rfl (by repeat (first | exact trivial | refine ⟨rfl, ?_⟩)) (by rfl)) ?_
                  refine o_q _ rfl rfl rfl (v_fieldAddr rfl Try.underlying26 inf22 rfl rfl rfl rfl) ?_
                  refine o_q _ rfl rfl rfl (v_ld1 rfl Try.underlying22 rfl rfl rfl) ?_
                  refine o_q _ rfl rfl rfl (v_len rfl rfl Try.underlying22 rfl) ?_
                  refine o_q _ rfl rfl rfl (v_bA rfl Try.underlying27 inf27 inf3 rfl rfl rfl (by repeat (first | exact trivial | refine ⟨rfl, ?_⟩)) (by rfl)) ?_
                  refine o_q _ rfl rfl rfl (v_bA rfl Try.underlying27 inf27 inf3 rfl rfl rfl (by repeat (first | exact trivial | refine ⟨rfl, ?_⟩)) (by rfl)) ?_
                  refine o_lit rfl Try.underlying40 inf27 rfl rfl rfl rfl rfl rfl rfl rfl (by repeat (first | exact trivial | refine ⟨rfl, ?_⟩)) (by rfl) (fun b129 => ?_)
                  refine Imp.sealB b129 ?_
                  refine Imp.rowN (b := b129) (bads F.rain.length) encT_len rfl ?_
                  refine o_q _ rfl rfl rfl (v_len rfl rfl Try.underlying40 rfl) ?_
                  refine o_q _ rfl rfl rfl (v_move rfl rfl) ?_
                  refine o_nil ?_
                  with_reducible refine r_then ?_
                  refine r_block ?_
                  refine r_loop (ι := Nat) (fun i => i ≤ 4) (fun i => [(3, pt b3 0), (18, i64 (w0 % F.heaps.length : Nat)), (19, pt b19 0), (129, .slice (some ⟨b129, 0, none⟩) 4 4), (130, i64 4), (131, i64 i)]) (fun i => bx b19 27 [i64 (madeP F.rain.length p0).a, i64 (madeP F.rain.length p0).b, i64 (madeP F.rain.length p0).c] :: bx b3 26 (cellsF F ro rc ho hc) :: M) (fun i => rowD (some ⟨b129, 0, none⟩) 3 encT (bads F.rain.length) :: ([rowD ro 2 encS F.rain, rowD ho 3 encH F.heaps] ++ Rf)) (fun i => 4 - i) 0 ?_ ?_ ?_
                  ·
                    refine Imp.box_to b19 [i64 (madeP F.rain.length p0).a, i64 (madeP F.rain.length p0).b, i64 (madeP F.rain.length p0).c] rfl ?_
                    exact r_here (by repeat (first | exact FSub.nil | refine FSub.cons rfl ?_)) SelMC.sel SubRC.sub
                  ·
                    exact Nat.zero_le _
                  ·
                    rintro i hI0
                    have hI : i ≤ 4 := hI0
                    have hbl : (bads F.rain.length).length = 4 := rfl
                    refine r_seq ?_
                    refine r_region ?_
                    refine o_q _ rfl rfl rfl (v_lss rfl rfl rfl) ?_
                    refine o_nil ?_
                    with_reducible refine r_then ?_
                    refine r_seq ?_
                    refine r_condd rfl (fun hc132 => ?_) (fun hc132 => ?_)
                    ·
                      refine r_skip ?_
                      with_reducible refine r_then ?_
                      refine r_seq ?_
                      refine r_block ?_
                      refine r_seq ?_
                      refine r_region ?_
                      refine o_q _ rfl rfl rfl (v_indexAddrSn rfl Try.underlying40 inf27 rfl rfl rfl (by omega) rfl) ?_
                      refine o_q _ rfl rfl rfl (v_loadEN rfl Try.underlying27 rfl inf27 rfl (by omega) rfl rfl rfl) ?_
                      refine o_alloc rfl inf27 rfl rfl rfl rfl rfl (fun b21 => ?_)
                      refine o_st rfl inf27 rfl rfl rfl rfl rfl rfl rfl rfl ?_
                      refine o_nil ?_
                      with_reducible refine r_then ?_
                      refine r_seq ?_
                      refine r_region ?_
                      refine o_q _ rfl rfl rfl (v_ldW rfl Try.underlying26 rfl inf26 rfl rfl) ?_
                      refine o_q _ rfl rfl rfl (v_move rfl rfl) ?_
                      refine o_q _ rfl rfl rfl (v_ldW rfl Try.underlying27 rfl inf27 rfl rfl) ?_
                      refine o_q _ rfl rfl rfl (OpQ.fn (ECan_r F ro ho rc hc hg _ ((bads F.rain.length).getD i default) (bads_not _ i (by omega))) rfl rfl SubRC.sub) ?_
                      refine o_q _ rfl rfl rfl (v_move rfl rfl) ?_
                      refine o_q _ rfl rfl rfl (v_extract rfl rfl rfl) ?_
                      refine o_q _ rfl rfl rfl (v_extract rfl rfl rfl) ?_
                      refine o_q _ rfl rfl rfl (v_assign rfl rfl) ?_
                      refine o_q _ rfl rfl rfl (v_assign rfl rfl) ?_
                      refine o_nil ?_
                      with_reducible refine r_then ?_
                      refine r_seq ?_
                      refine r_region ?_
                      refine o_q _ rfl rfl rfl (v_move rfl rfl) ?_
                      refine o_q _ rfl rfl rfl (v_neq rfl rfl rfl) ?_
                      refine o_nil ?_
                      with_reducible refine r_then ?_
                      refine r_condd rfl (fun hc143 => ?_) (fun hc143 => ?_)
                      ·
                        (exfalso; revert hc143; decide)
                      ·
                        refine r_skip ?_
                        with_reducible refine r_in_normal ?_; refine r_then ?_
                        refine r_region ?_
                        refine o_q _ rfl rfl rfl (v_add rfl rfl rfl (by omega)) ?_
                        refine o_q _ rfl rfl rfl (v_move rfl rfl) ?_
                        refine o_nil ?_
                        with_reducible refine r_then ?_
                        refine r_next (i + 1) ?_ ?_ ?_
                        ·
                          exact r_here (by repeat (first | exact FSub.nil | refine FSub.cons rfl ?_)) SelMC.sel SubRC.sub
                        ·
                          omega
                        ·
                          omega
                    ·
                      refine r_exit ?_
                      with_reducible refine r_then_exit ?_; refine r_then_exit ?_; refine r_in_here ?_; refine r_then ?_
                      refine r_seq ?_
                      refine r_region ?_
                      refine o_q _ rfl rfl rfl (v_ldW rfl Try.underlying26 rfl inf26 rfl rfl) ?_
                      refine o_q _ rfl rfl rfl (v_move rfl rfl) ?_
                      refine o_q _ rfl rfl rfl (v_ldW rfl Try.underlying27 rfl inf27 rfl rfl) ?_
                      refine o_q _ rfl rfl rfl (v_fieldAddr rfl Try.underlying26 inf22 rfl rfl rfl rfl) ?_
                      refine o_q _ rfl rfl rfl (v_ld1 rfl Try.underlying22 rfl rfl rfl) ?_
                      refine o_q _ rfl rfl rfl (v_len rfl rfl Try.underlying22 rfl) ?_
                      refine o_q _ rfl rfl rfl (v_add rfl rfl rfl (by omega)) ?_
                      refine o_q _ rfl rfl rfl (OpQ.fn (EWet_r F ro ho rc hc hg _ _ (madeP F.rain.length p0) (by intro hx; have := hx.2.2; omega)) rfl rfl SubRC.sub) ?_
                      refine o_q _ rfl rfl rfl (v_move rfl rfl) ?_
                      refine o_q _ rfl rfl rfl (v_extract rfl rfl rfl) ?_
                      refine o_q _ rfl rfl rfl (v_extract rfl rfl rfl) ?_
                      refine o_alloc rfl inf31 rfl rfl rfl rfl rfl (fun b24 => ?_)
                      refine o_st rfl inf31 rfl rfl rfl rfl rfl rfl rfl rfl ?_
                      refine o_q _ rfl rfl rfl (v_assign rfl rfl) ?_
                      refine o_nil ?_
                      with_reducible refine r_then ?_
                      refine r_seq ?_
                      refine r_par' 6 mixed (by kernel_rfl) (by rfl) ?_
                      refine p_q _ rfl rfl rfl (fun _ _ => v_ldW rfl Try.underlying26 rfl inf26 rfl rfl) ?_
                      refine p_fn (ends_r F ro ho rc hc hg false) rfl rfl rfl rfl rfl SubRC.sub ?_
                      refine p_q _ rfl rfl rfl (fun _ _ => v_ldW rfl Try.underlying26 rfl inf26 rfl rfl) ?_
                      refine p_fn (ends_r F ro ho rc hc hg true) rfl rfl rfl rfl rfl SubRC.sub ?_
                      refine p_alloc rfl inf54 rfl rfl rfl rfl rfl ?_
                      refine p_alloc rfl inf54 rfl rfl rfl rfl rfl ?_
                      refine p_nil2 (by simp only [List.nil_append, List.cons_append]; rfl) rfl ?_
                      refine f_q rfl ?_
                      refine f_truth rfl (fun r1 q1 f1 c1 => ?_)
                      refine f_q rfl ?_
                      refine f_truth rfl (fun r2 q2 f2 c2 => ?_)
                      refine f_alloc rfl (fun b26 => ?_)
                      refine f_alloc rfl (fun b27 => ?_)
                      refine f_nil ?_
                      refine o_st rfl inf54 rfl rfl rfl rfl rfl rfl rfl rfl ?_
                      refine o_st rfl inf54 rfl rfl rfl rfl rfl rfl rfl rfl ?_
                      refine o_nil ?_
                      with_reducible refine r_then ?_
                      refine r_seq ?_
                      refine r_par' 9 mixed (by kernel_rfl) (by rfl) ?_
                      refine p_q _ rfl rfl rfl (fun _ _ => v_ldW rfl Try.underlying54 rfl inf54 rfl rfl) ?_
                      refine p_q _ rfl rfl rfl (fun _ _ => v_ldW rfl Try.underlying26 rfl inf26 rfl rfl) ?_
                      refine p_q _ rfl rfl rfl (fun _ _ => v_move rfl rfl) ?_
                      refine p_q _ rfl rfl rfl (fun _ _ => v_ldW rfl Try.underlying27 rfl inf27 rfl rfl) ?_
                      refine p_fn (ETwet_r F ro ho rc hc hg _ _ _ _ _ (good_ends hg false) _ hhp (madeP F.rain.length p0)) rfl rfl rfl rfl rfl SubRC.sub ?_
                      refine p_q _ rfl rfl rfl (fun _ _ => v_ldW rfl Try.underlying54 rfl inf54 rfl rfl) ?_
                      refine p_q _ rfl rfl rfl (fun _ _ => v_ldW rfl Try.underlying26 rfl inf26 rfl rfl) ?_
                      refine p_q _ rfl rfl rfl (fun _ _ => v_move rfl rfl) ?_
                      refine p_q _ rfl rfl rfl (fun _ _ => v_ldW rfl Try.underlying27 rfl inf27 rfl rfl) ?_
                      refine p_nil2 (by simp only [List.nil_append, List.cons_append]; rfl) rfl ?_
                      refine f_q rfl ?_
                      refine f_q rfl ?_
                      refine f_q rfl ?_
                      refine f_q rfl ?_
                      refine f_sl rfl (fun l1 k1 => ?_)
                      refine f_q rfl ?_
                      refine f_q rfl ?_
                      refine f_q rfl ?_
                      refine f_q rfl ?_
                      refine f_nil ?_
                      refine o_fns (ETwet_r F ro ho rc hc hg _ _ _ _ _ (good_ends hg true) _ hhp (madeP F.rain.length p0)) rfl rfl rfl rfl rfl SubRC.sub (fun oa169 cp169 => ?_)
                      refine o_q _ rfl rfl rfl (v_assign rfl rfl) ?_
                      refine o_q _ rfl rfl rfl (v_assign rfl rfl) ?_
                      refine o_nil ?_
                      with_reducible refine r_then ?_
                      refine r_seq ?_
                      refine r_seq ?_
                      refine r_region ?_
                      refine o_q _ rfl rfl rfl (v_move rfl rfl) ?_
                      refine o_q _ rfl rfl rfl (v_len rfl rfl Try.underlying52 rfl) ?_
                      refine o_q _ rfl rfl rfl (v_move rfl rfl) ?_
                      refine o_nil ?_
                      with_reducible refine r_then ?_
                      refine r_block ?_
                      refine r_loop (ι := Nat) (fun d => d ≤ F.rain.length + 1) (fun d => [(3, pt b3 0), (18, i64 (w0 % F.heaps.length : Nat)), (19, pt b19 0), (25, i64 2), (26, pt b26 0), (27, pt b27 0), (28, .slice l1 (wetL F (endsT F false) (w0 % F.heaps.length) (madeP F.rain.length p0) F.rain.length).length k1), (29, .slice oa169 (wetL F (endsT F true) (w0 % F.heaps.length) (madeP F.rain.length p0) F.rain.length).length cp169), (171, i64 (wetL F (endsT F false) (w0 % F.heaps.length) (madeP F.rain.length p0) F.rain.length).length), (172, i64 d)]) (fun d => bx b27 54 [.slice r2 (endsT F true).rain.length q2, .slice f2 (endsT F true).first.length c2] :: bx b26 54 [.slice r1 (endsT F false).rain.length q1, .slice f1 (endsT F false).first.length c1] :: bx b19 27 [i64 (madeP F.rain.length p0).a, i64 (madeP F.rain.length p0).b, i64 (madeP F.rain.length p0).c] :: bx b3 26 (cellsF F ro rc ho hc) :: M) (fun d => rowD oa169 1 encI (wetL F (endsT F true) (w0 % F.heaps.length) (madeP F.rain.length p0) F.rain.length) :: rowD l1 1 encI (wetL F (endsT F false) (w0 % F.heaps.length) (madeP F.rain.length p0) F.rain.length) :: [rowD r1 1 encI (endsT F false).rain, rowD f1 1 encI (endsT F false).first, rowD r2 1 encI (endsT F true).rain, rowD f2 1 encI (endsT F true).first] ++ ([rowD ro 2 encS F.rain, rowD ho 3 encH F.heaps] ++ Rf)) (fun d => F.rain.length + 1 - d) 0 ?_ ?_ ?_
                      ·
                        refine Imp.box_to b27 [.slice r2 (endsT F true).rain.length q2, .slice f2 (endsT F true).first.length c2] rfl ?_
                        refine Imp.box_to b26 [.slice r1 (endsT F false).rain.length q1, .slice f1 (endsT F false).first.length c1] rfl ?_
                        exact r_here (by repeat (first | exact FSub.nil | refine FSub.cons rfl ?_)) SelMC.sel SubRC.sub
                      ·
                        exact Nat.zero_le _
                      ·
                        rintro d hI1
                        have hI : d ≤ F.rain.length + 1 := hI1
                        have hwlfalse := wetL_len (F := F) (t := endsT F false) (heap := (w0 % F.heaps.length)) (p := (madeP F.rain.length p0)) (k := F.rain.length)
                        have hwltrue := wetL_len (F := F) (t := endsT F true) (heap := (w0 % F.heaps.length)) (p := (madeP F.rain.length p0)) (k := F.rain.length)
                        refine r_seq ?_
                        refine r_region ?_
                        refine o_q _ rfl rfl rfl (v_lss rfl rfl rfl) ?_
                        refine o_nil ?_
                        with_reducible refine r_then ?_
                        refine r_seq ?_
                        refine r_condd rfl (fun hc173 => ?_) (fun hc173 => ?_)
                        ·
                          refine r_skip ?_
                          with_reducible refine r_then ?_
                          refine r_seq ?_
                          refine r_block ?_
                          refine r_seq ?_
                          refine r_region ?_
                          refine o_q _ rfl rfl rfl (v_move rfl rfl) ?_
                          refine o_q _ rfl rfl rfl (v_assign rfl rfl) ?_
                          refine o_nil ?_
                          with_reducible refine r_then ?_
                          refine r_seq ?_
                          refine r_region ?_
                          refine o_q _ rfl rfl rfl (v_ldW rfl Try.underlying26 rfl inf26 rfl rfl) ?_
                          refine o_q _ rfl rfl rfl (v_move rfl rfl) ?_
                          refine o_q _ rfl rfl rfl (v_ldW rfl Try.underlying27 rfl inf27 rfl rfl) ?_
                          refine o_q _ rfl rfl rfl (v_move rfl rfl) ?_
                          refine o_q _ rfl rfl rfl (OpQ.fn (EWet_v F ro ho rc hc hg _ _ (madeP F.rain.length p0) (made_plan F.rain.length p0) hhp (by omega)) rfl rfl SubRC.sub) ?_
                          refine o_q _ rfl rfl rfl (v_move rfl rfl) ?_
                          refine o_q _ rfl rfl rfl (v_extract rfl rfl rfl) ?_
                          refine o_q _ rfl rfl rfl (v_extract rfl rfl rfl) ?_
                          refine o_alloc rfl inf31 rfl rfl rfl rfl rfl (fun b31 => ?_)
                          refine o_st rfl inf31 rfl rfl rfl rfl rfl rfl rfl rfl ?_
                          refine o_q _ rfl rfl rfl (v_assign rfl rfl) ?_
                          refine o_nil ?_
                          with_reducible refine r_then ?_
                          refine r_seq ?_
                          refine r_region_q mixed (by kernel_rfl) ?_
                          refine q_q _ rfl rfl rfl (v_move rfl rfl) ?_
                          refine q_q _ rfl rfl rfl (v_false (v_neq rfl rfl rfl) (by omega)) ?_
                          all_goals
                            refine q_q _ rfl rfl rfl (v_move rfl rfl) ?_
                            refine q_g _ rfl rfl rfl rfl (v_ldW rfl Try.underlying31 rfl inf31 rfl rfl) ?_
                            refine q_g _ rfl rfl rfl rfl (v_move rfl rfl) ?_
                            refine q_g _ rfl rfl rfl rfl (v_move rfl rfl) ?_
                            refine q_g _ rfl rfl rfl rfl (v_indexAddrSn rfl Try.underlying52 inf3 rfl rfl rfl (by omega) rfl) ?_
                            refine q_g _ rfl rfl rfl rfl (v_cast (v := i64 (bestTo F (w0 % F.heaps.length) (madeP F.rain.length p0) d)) (v_loadE1 rfl Try.underlying3 rfl rfl (by omega) rfl rfl) (congrArg (Value.int .i64) (wetL_end hhp (made_plan F.rain.length p0) (by omega) false))) ?_
                            refine q_g _ rfl rfl rfl rfl (v_move rfl rfl) ?_
                            refine q_g _ rfl rfl rfl rfl (v_move rfl rfl) ?_
                            refine q_g _ rfl rfl rfl rfl (v_indexAddrSn rfl Try.underlying52 inf3 rfl rfl rfl (by omega) rfl) ?_
                            refine q_g _ rfl rfl rfl rfl (v_cast (v := i64 (worstTo F (w0 % F.heaps.length) (madeP F.rain.length p0) d)) (v_loadE1 rfl Try.underlying3 rfl rfl (by omega) rfl rfl) (congrArg (Value.int .i64) (wetL_end hhp (made_plan F.rain.length p0) (by omega) true))) ?_
                            refine q_g _ rfl rfl rfl rfl (OpQ.fn (lspan_v _ _) rfl rfl SubRC.sub) ?_
                            refine q_g _ rfl rfl rfl rfl (v_cast (v := .bool false) (v_neP rfl rfl rfl guard31 (eq31 _ _ _ _)) (congrArg Value.bool (decide_eq_false (fun h => h rfl)))) ?_
                            refine q_q _ rfl rfl rfl (v_pick_f rfl rfl rfl) ?_
                            refine q_nil ?_
                            with_reducible refine r_then ?_
                            refine r_cond rfl (fun hc197 => ?_) (fun hc197 => ?_)
                            ·
                              (exfalso; revert hc197; decide)
                            ·
                              refine r_skip ?_
                              with_reducible refine r_in_normal ?_; refine r_then ?_
                              refine r_region ?_
                              refine o_q _ rfl rfl rfl (v_add rfl rfl rfl (by omega)) ?_
                              refine o_q _ rfl rfl rfl (v_move rfl rfl) ?_
                              refine o_nil ?_
                              with_reducible refine r_then ?_
                              refine r_next (d + 1) ?_ ?_ ?_
                              ·
                                exact r_here (by repeat (first | exact FSub.nil | refine FSub.cons rfl ?_)) SelMC.sel SubRC.sub
                              ·
                                omega
                              ·
                                omega
                        ·
                          refine r_exit ?_
                          with_reducible refine r_then_exit ?_; refine r_then_exit ?_; refine r_in_here ?_; refine r_then ?_
                          refine r_seq ?_
                          refine r_region ?_
                          rcases kcases hg hhp (made_plan F.rain.length p0) with ⟨hkv, hkw, hkd⟩ | ⟨hkv, hkw, hkd⟩ | ⟨hkv, hkw, hkd⟩ <;> refine o_q _ rfl rfl rfl (v_ldW rfl Try.underlying26 rfl inf26 rfl rfl) ?_
                          all_goals
                            refine o_q _ rfl rfl rfl (v_move rfl rfl) ?_
                            refine o_q _ rfl rfl rfl (v_ldW rfl Try.underlying27 rfl inf27 rfl rfl) ?_
                            refine o_q _ rfl rfl rfl (OpQ.fn (ECan_v F ro ho rc hc hg _ (madeP F.rain.length p0) (made_plan F.rain.length p0) hhp hkv) rfl rfl SubRC.sub) ?_
                            refine o_q _ rfl rfl rfl (v_move rfl rfl) ?_
                            refine o_q _ rfl rfl rfl (v_extract rfl rfl rfl) ?_
                            refine o_q _ rfl rfl rfl (v_extract rfl rfl rfl) ?_
                            refine o_q _ rfl rfl rfl (v_assign rfl rfl) ?_
                            refine o_q _ rfl rfl rfl (v_assign rfl rfl) ?_
                            refine o_nil ?_
                            with_reducible refine r_then ?_
                            refine r_seq ?_
                            refine r_region_q mixed (by kernel_rfl) ?_
                            refine q_q _ rfl rfl rfl (v_ldW rfl Try.underlying54 rfl inf54 rfl rfl) ?_
                            refine q_q _ rfl rfl rfl (v_ldW rfl Try.underlying26 rfl inf26 rfl rfl) ?_
                            refine q_q _ rfl rfl rfl (v_move rfl rfl) ?_
                            refine q_q _ rfl rfl rfl (v_ldW rfl Try.underlying27 rfl inf27 rfl rfl) ?_
                            first | refine q_q _ rfl rfl rfl (v_true (OpQ.fn (EKeeps_v F ro ho rc hc hg _ _ _ _ _ (good_ends hg true) _ hhp (madeP F.rain.length p0) (made_plan F.rain.length p0)) rfl rfl SubRC.sub) hkw) ?_ | refine q_q _ rfl rfl rfl (v_false (OpQ.fn (EKeeps_v F ro ho rc hc hg _ _ _ _ _ (good_ends hg true) _ hhp (madeP F.rain.length p0) (made_plan F.rain.length p0)) rfl rfl SubRC.sub) hkw) ?_
                            refine q_q _ rfl rfl rfl (v_ldW rfl Try.underlying54 rfl inf54 rfl rfl) ?_
                            refine q_q _ rfl rfl rfl (v_ldW rfl Try.underlying26 rfl inf26 rfl rfl) ?_
                            refine q_q _ rfl rfl rfl (v_move rfl rfl) ?_
                            refine q_q _ rfl rfl rfl (v_ldW rfl Try.underlying27 rfl inf27 rfl rfl) ?_
                            first | refine q_q _ rfl rfl rfl (v_true (OpQ.fn (EKeeps_v F ro ho rc hc hg _ _ _ _ _ (good_ends hg false) _ hhp (madeP F.rain.length p0) (made_plan F.rain.length p0)) rfl rfl SubRC.sub) hkd) ?_ | refine q_q _ rfl rfl rfl (v_false (OpQ.fn (EKeeps_v F ro ho rc hc hg _ _ _ _ _ (good_ends hg false) _ hhp (madeP F.rain.length p0) (made_plan F.rain.length p0)) rfl rfl SubRC.sub) hkd) ?_
                            refine q_q _ rfl rfl rfl (v_assign rfl rfl) ?_
                            refine q_q _ rfl rfl rfl (v_assign rfl rfl) ?_
                            refine q_nil ?_
                            with_reducible refine r_then ?_
                            refine r_seq ?_
                            refine r_region ?_
                            refine o_q _ rfl rfl rfl (v_move rfl rfl) ?_
                            refine o_q _ rfl rfl rfl (v_true (v_eql rfl rfl rfl) (by omega)) ?_
                            all_goals
                              refine o_q _ rfl rfl rfl (v_move rfl rfl) ?_
                              refine o_g _ rfl rfl rfl rfl (v_move rfl rfl) ?_
                              refine o_g _ rfl rfl rfl rfl (v_true (v_eql rfl rfl rfl) (by omega)) ?_
                              all_goals
                                refine o_q _ rfl rfl rfl (v_pick_t rfl rfl rfl) ?_
                                refine o_q _ rfl rfl rfl (v_move rfl rfl) ?_
                                refine o_g _ rfl rfl rfl rfl (v_move rfl rfl) ?_
                                first | refine o_g _ rfl rfl rfl rfl (v_true (v_eql rfl rfl rfl) (by omega)) ?_ | refine o_g _ rfl rfl rfl rfl (v_false (v_eql rfl rfl rfl) (by omega)) ?_
                                all_goals
                                  refine o_g _ rfl rfl rfl rfl (v_move rfl rfl) ?_
                                  refine o_g _ rfl rfl rfl rfl (v_eqlB rfl Try.underlying4 rfl rfl rfl) ?_
                                  refine o_q _ rfl rfl rfl (v_pick_t rfl rfl rfl) ?_
                                  refine o_q _ rfl rfl rfl (v_move rfl rfl) ?_
                                  refine o_g _ rfl rfl rfl rfl (v_move rfl rfl) ?_
                                  first | refine o_g _ rfl rfl rfl rfl (v_true (v_eql rfl rfl rfl) (by omega)) ?_ | refine o_g _ rfl rfl rfl rfl (v_false (v_eql rfl rfl rfl) (by omega)) ?_
                                  all_goals
                                    refine o_g _ rfl rfl rfl rfl (v_move rfl rfl) ?_
                                    refine o_g _ rfl rfl rfl rfl (v_not rfl rfl) ?_
                                    refine o_g _ rfl rfl rfl rfl (v_eqlB rfl Try.underlying4 rfl rfl rfl) ?_
                                    refine o_q _ rfl rfl rfl (v_pick_t rfl rfl rfl) ?_
                                    refine o_q _ rfl rfl rfl (v_move rfl rfl) ?_
                                    refine o_g _ rfl rfl rfl rfl (v_move rfl rfl) ?_
                                    refine o_g _ rfl rfl rfl rfl (v_move rfl rfl) ?_
                                    first | refine o_gn rfl rfl rfl rfl ?_ | refine o_g _ rfl rfl rfl rfl (v_move rfl rfl) ?_
                                    first | refine o_gn rfl rfl rfl rfl ?_ | refine o_g _ rfl rfl rfl rfl (v_not rfl rfl) ?_
                                    first | refine o_g _ rfl rfl rfl rfl (v_pick_t rfl rfl rfl) ?_ | refine o_g _ rfl rfl rfl rfl (v_pick_f rfl rfl rfl) ?_
                                    refine o_g _ rfl rfl rfl rfl (v_move rfl rfl) ?_
                                    first | refine o_gn rfl rfl rfl rfl ?_ | refine o_g _ rfl rfl rfl rfl (v_move rfl rfl) ?_
                                    first | refine o_gn rfl rfl rfl rfl ?_ | refine o_g _ rfl rfl rfl rfl (v_true (v_eql rfl rfl rfl) (by omega)) ?_
                                    all_goals
                                      first | refine o_g _ rfl rfl rfl rfl (v_pick_t rfl rfl rfl) ?_ | refine o_g _ rfl rfl rfl rfl (v_pick_f rfl rfl rfl) ?_
                                      refine o_q _ rfl rfl rfl (v_pick_t rfl rfl rfl) ?_
                                      refine o_q _ rfl rfl rfl (v_move rfl rfl) ?_
                                      refine o_g _ rfl rfl rfl rfl (OpQ.fn awake_v rfl rfl SubRC.sub) ?_
                                      refine o_q _ rfl rfl rfl (v_pick_t rfl rfl rfl) ?_
                                      refine o_q _ rfl rfl rfl (v_assign rfl rfl) ?_
                                      refine o_nil ?_
                                      with_reducible refine r_then ?_
                                      refine r_ret ?_
                                      exact r_retv2 (Rd.tmp rfl rfl) rfl SelMC.sel SubRC.sub
end Go.Proofs.Ytienjlmnakbfmaa

namespace Foot4
open Go Go.G
theorem bit_at (x k : Nat) : (x >>> k) &&& 1 = if x.testBit k then 1 else 0 := by
  rw [Nat.and_one_is_mod, Nat.shiftRight_eq_div_pow, Nat.testBit_eq_decide_div_mod_eq]
  rcases Nat.mod_two_eq_zero_or_one (x / 2 ^ k) with h | h <;> simp [h]
theorem clampB_bit (q : Nat → Bool) (k : Nat) : ∀ n, (clampB q n).testBit k = (decide (k < n) && q k)
  | 0 => by simp [clampB]
  | n + 1 => by
    have ih := clampB_bit q k n
    simp only [clampB]
    rw [Nat.testBit_or, ih]
    by_cases e : n = k
    · subst e
      by_cases h : q n = true
      · simp [h]
      · simp [h]
    · by_cases h : q n = true
      · simp only [h, if_true, Nat.testBit_two_pow, e, decide_false, Bool.or_false]
        by_cases hk : k < n
        · simp [hk, show k < n + 1 from by omega]
        · simp [hk, show ¬ k < n + 1 from by omega]
      · simp only [h]
        by_cases hk : k < n
        · simp [hk, show k < n + 1 from by omega]
        · simp [hk, show ¬ k < n + 1 from by omega]
theorem clampB_at {q : Nat → Bool} {n k : Nat} {b : Bool} (h : k < n) (hq : q k = b) : (clampB q n >>> k) &&& 1 = if b then 1 else 0 := by
  rw [bit_at, clampB_bit, decide_eq_true h, Bool.true_and, hq]
theorem whole_in {n : Nat} {p : T3} (hp : IsPlan n p) (hw : 0 ≤ p.a ∧ 0 ≤ p.b ∧ 0 ≤ p.c) : p ∈ whole n := by
  have h1 := ord1.1 hp.2.2.1
  have h2 := ord2.1 hp.2.2.2
  have h3 : -1 ≤ p.c ∧ p.c ≤ (n : Int) - 1 := hp.1 2 (by omega)
  obtain ⟨a, b, c⟩ := p
  dsimp only at *
  have := whole_at (n := n) (a := a.toNat) (b := b.toNat) (c := c.toNat) (by omega) (by omega) (by omega)
  rw [show ((a.toNat : Nat) : Int) = a from by omega, show ((b.toNat : Nat) : Int) = b from by omega, show ((c.toNat : Nat) : Int) = c from by omega] at this
  exact List.mem_of_getElem? this
theorem whole_plan' {n : Nat} {p : T3} (h : p ∈ whole n) : IsPlan n p ∧ (0 ≤ p.a ∧ 0 ≤ p.b ∧ 0 ≤ p.c) := by
  obtain ⟨a, b, c, rfl, h1, h2, h3⟩ := whole_mem h
  refine ⟨⟨fun k hk => ?_, .inr (.inl rfl), ord1.2 (.inr ⟨by show (0 : Int) ≤ a; omega, by show (a : Int) < b; omega⟩), ord2.2 (.inr ⟨by show (0 : Int) ≤ b; omega, by show (b : Int) < c; omega⟩)⟩, by show (0 : Int) ≤ a; omega, by show (0 : Int) ≤ b; omega, by show (0 : Int) ≤ c; omega⟩
  have := whole_days h k hk
  omega
theorem sure_of {sel : Int → Int → Int} {F : Work} {heap : Nat} {p : T3} (hp : IsPlan F.rain.length p) (hw : 0 ≤ p.a ∧ 0 ≤ p.b ∧ 0 ≤ p.c) (hk : keptF sel F heap p) : p ∈ sureF sel F heap :=
  List.mem_filter.2 ⟨whole_in hp hw, by simp [keptB, hk]⟩
theorem sureQ_of {sel : Int → Int → Int} {F : Work} {heap : Nat} {p : T3} (h : p ∈ sureF sel F heap) : sureQ sel F heap = true := by
  have := List.length_pos_of_mem h
  simp [sureQ]; omega
/-- The first of the best ones. -/
theorem best1_spec {l : List T3} : ∀ k, 0 < k → k ≤ l.length → ∃ i, i < k ∧ l.getD i default = best1 soon default l k ∧ (∀ j, j < k → (best1 soon default l k).c ≤ (l.getD j default).c) ∧ (∀ j, j < i → (best1 soon default l k).c < (l.getD j default).c)
  | 0, h, _ => by omega
  | k + 1, _, hl => by
    by_cases h0 : k = 0
    · subst h0
      rw [best1_yes (.inl rfl)]
      refine ⟨0, by omega, rfl, fun j hj => ?_, fun j hj => by omega⟩
      obtain rfl : j = 0 := by omega
      exact Int.le_refl _
    · obtain ⟨i, hi, he, ha, hb⟩ := best1_spec (l := l) k (by omega) (by omega)
      by_cases hs : (l.getD k default).c < (best1 soon default l k).c
      · rw [best1_yes (.inr (by simp only [soon]; exact decide_eq_true hs))]
        refine ⟨k, by omega, rfl, fun j hj => ?_, fun j hj => ?_⟩
        · by_cases e : j = k
          · subst e; exact Int.le_refl _
          · have := ha j (by omega); omega
        · have := ha j (by omega); omega
      · rw [best1_no h0 (soon_no hs)]
        refine ⟨i, by omega, he, fun j hj => ?_, hb⟩
        by_cases e : j = k
        · subst e; omega
        · exact ha j (by omega)
def lex (p q : T3) : Prop := p.a < q.a ∨ p.a = q.a ∧ (p.b < q.b ∨ p.b = q.b ∧ p.c < q.c)
theorem whole_sorted (n : Nat) : (whole n).Pairwise lex := by
  have hcs : ∀ a b : Nat, (cs3 n a b).Pairwise lex := by
    intro a b
    unfold cs3
    rw [List.pairwise_map]
    refine List.Pairwise.imp ?_ (List.pairwise_lt_range' 1)
    intro c d h
    exact .inr ⟨rfl, .inr ⟨rfl, by show (c : Int) < d; omega⟩⟩
  have hbs : ∀ a : Nat, (bs3 n a).Pairwise lex := by
    intro a
    unfold bs3
    rw [List.pairwise_flatMap]
    refine ⟨fun b _ => hcs a b, List.Pairwise.imp ?_ (List.pairwise_lt_range' 1)⟩
    intro b b' h x hx y hy
    unfold cs3 at hx hy
    obtain ⟨c, _, rfl⟩ := List.mem_map.1 hx
    obtain ⟨c', _, rfl⟩ := List.mem_map.1 hy
    exact .inr ⟨rfl, .inl (by show (b : Int) < b'; omega)⟩
  unfold whole
  rw [List.pairwise_flatMap]
  refine ⟨fun a _ => hbs a, List.pairwise_lt_range.imp ?_⟩
  intro a a' h x hx y hy
  unfold bs3 at hx hy
  obtain ⟨b, _, hx⟩ := List.mem_flatMap.1 hx
  obtain ⟨b', _, hy⟩ := List.mem_flatMap.1 hy
  unfold cs3 at hx hy
  obtain ⟨c, _, rfl⟩ := List.mem_map.1 hx
  obtain ⟨c', _, rfl⟩ := List.mem_map.1 hy
  exact .inl (by show (a : Int) < a'; omega)
/-- The soonest is one of them; no other is sooner, nor as soon and before it. -/
theorem soonL_spec {sel : Int → Int → Int} {F : Work} {heap : Nat} (h : sureQ sel F heap = true) : soonL (sureF sel F heap) ∈ sureF sel F heap ∧ ∀ p ∈ sureF sel F heap, (soonL (sureF sel F heap)).c < p.c ∨ (soonL (sureF sel F heap)).c = p.c ∧ (p = soonL (sureF sel F heap) ∨ lex (soonL (sureF sel F heap)) p) := by
  have hpos : 0 < (sureF sel F heap).length := by
    have h : 0 < ((sureF sel F heap).length : Int) := of_decide_eq_true h
    omega
  have hso : (sureF sel F heap).Pairwise lex := (whole_sorted _).filter _
  obtain ⟨i, hi, he, ha, hb⟩ := best1_spec (l := sureF sel F heap) _ hpos (Nat.le_refl _)
  have he : (sureF sel F heap).getD i default = soonL (sureF sel F heap) := he
  have ha : ∀ j, j < (sureF sel F heap).length → (soonL (sureF sel F heap)).c ≤ ((sureF sel F heap).getD j default).c := ha
  have hb : ∀ j, j < i → (soonL (sureF sel F heap)).c < ((sureF sel F heap).getD j default).c := hb
  have get : ∀ j, j < (sureF sel F heap).length → (sureF sel F heap)[j]? = some ((sureF sel F heap).getD j default) := fun j hj => by simp [hj]
  refine ⟨by rw [← he]; exact List.mem_of_getElem? (get i hi), fun p hp => ?_⟩
  obtain ⟨j, hj⟩ := List.mem_iff_getElem?.1 hp
  have hjl := (List.getElem?_eq_some_iff.1 hj).1
  have hpe : (sureF sel F heap).getD j default = p := Option.some.inj ((get j hjl).symm.trans hj)
  have h1 := ha j hjl
  rw [hpe] at h1
  by_cases hlt : (soonL (sureF sel F heap)).c < p.c
  · exact .inl hlt
  · have heq : (soonL (sureF sel F heap)).c = p.c := by omega
    refine .inr ⟨heq, ?_⟩
    rcases Nat.lt_trichotomy i j with h2 | h2 | h2
    · right
      have e1 := get i hi
      have e2 := get j hjl
      rw [he] at e1
      rw [hpe] at e2
      have g1 := (List.getElem?_eq_some_iff.1 e1)
      have g2 := (List.getElem?_eq_some_iff.1 e2)
      obtain ⟨l1, g1⟩ := g1
      obtain ⟨l2, g2⟩ := g2
      have := List.pairwise_iff_getElem.1 hso i j l1 l2 h2
      rwa [g1, g2] at this
    · left; subst h2; rw [← hpe, he]
    · have := hb j h2
      rw [hpe] at this; omega
theorem soonP_yes {F : Work} (hg : GoodF F) {heap : Nat} (hh : heap < F.heaps.length) (hq : sureQ selW F heap = true) : soonP F heap = (soonL (sureF selW F heap), 0) := by
  have h : 0 < ((sureF selW F heap).length : Int) := of_decide_eq_true hq
  rw [soonP_ok hg (decide_eq_true (by omega)) (by simpa using h)]; simp
theorem soonP_no {F : Work} (hg : GoodF F) {heap : Nat} (hh : heap < F.heaps.length) (hq : sureQ selW F heap = false) : soonP F heap = (default, 4) := by
  have h : ¬ 0 < ((sureF selW F heap).length : Int) := of_decide_eq_false hq
  rw [soonP_none hg (decide_eq_true (by omega)) (by simpa using h)]
theorem soon_kept {F : Work} {heap : Nat} (hq : sureQ selW F heap = true) : IsPlan F.rain.length (soonL (sureF selW F heap)) ∧ (0 ≤ (soonL (sureF selW F heap)).a ∧ 0 ≤ (soonL (sureF selW F heap)).b ∧ 0 ≤ (soonL (sureF selW F heap)).c) ∧ keptF selW F heap (soonL (sureF selW F heap)) := by
  have h := List.mem_filter.1 (soonL_spec hq).1
  have hp := whole_plan' h.1
  exact ⟨hp.1, hp.2, by simpa [keptB] using h.2⟩
theorem tcases {F : Work} (hg : GoodF F) {heap : Nat} (hh : heap < F.heaps.length) {p : T3} (hp : IsPlan F.rain.length p) {t : Tru} (ht : GoodT F t) :
    (keptP F heap p = 2 ∧ keepsT F t heap p) ∨ (keptP F heap p = 1 ∧ keepsT F t heap p) ∨ (keptP F heap p = 1 ∧ ¬ keepsT F t heap p) ∨ (keptP F heap p = 0 ∧ ¬ keepsT F t heap p) := by
  rcases kept_vals F heap p with h | h | h
  · exact .inr (.inr (.inr ⟨h, fun hk => (kept_0 hg hh hp).1 h (keeps_down ht hh hp hk)⟩))
  · by_cases hk : keepsT F t heap p
    · exact .inr (.inl ⟨h, hk⟩)
    · exact .inr (.inr (.inl ⟨h, hk⟩))
  · exact .inl ⟨h, keeps_up ht hh hp (kept_2.1 h)⟩
end Foot4

namespace Go.Proofs.Ytienjlmnakbfmaa
open Go.G Foot4
set_option maxRecDepth 1000000
attribute [local irreducible] G.ParO G.Fin
variable (F : Work) (ro ho : Option Addr) (rc hc : Nat)
theorem ESoon_v (hg : GoodF F) (heap : Nat) (hh : heap < F.heaps.length) (hq : sureQ selW F heap = true) : FnV Try.prog 19 [valF F ro rc ho hc, i64 heap] [rowD ro 2 encS F.rain, rowD ho 3 encH F.heaps] (.tuple #[.agg #[i64 (soonL (sureF selW F heap)).a, i64 (soonL (sureF selW F heap)).b, i64 (soonL (sureF selW F heap)).c], i64 0]) := by
  have h := SoonP_v F ro ho rc hc heap (by have := hg.1; omega) (by have := hg.2.2.1; omega)
  rw [soonP_yes hg hh hq] at h; exact h
theorem ESoon_n (hg : GoodF F) (heap : Nat) (hh : heap < F.heaps.length) (hq : sureQ selW F heap = false) : FnV Try.prog 19 [valF F ro rc ho hc, i64 heap] [rowD ro 2 encS F.rain, rowD ho 3 encH F.heaps] (.tuple #[.agg #[i64 0, i64 0, i64 0], i64 4]) := by
  have h := SoonP_v F ro ho rc hc heap (by have := hg.1; omega) (by have := hg.2.2.1; omega)
  rw [soonP_no hg hh hq] at h; exact h
theorem EClamp_v (hg : GoodF F) : FnV Try.prog 21 [valF F ro rc ho hc] [rowD ro 2 encS F.rain, rowD ho 3 encH F.heaps] (.tuple #[i64 ((clampB (sureQ selW F) F.heaps.length : Nat) : Int), i64 ((clampB (sureQ selD F) F.heaps.length : Nat) : Int), i64 0]) := by
  have h := ClampP_v F ro ho rc hc (by have := hg.1; omega) (by have := hg.2.2.1; omega)
  rw [clampP_ok hg] at h; exact h
theorem EPlan_v (hg : GoodF F) (p : T3) : FnV Try.prog 38 [valF F ro rc ho hc, .agg #[i64 p.a, i64 p.b, i64 p.c]] [rowD ro 2 encS F.rain, rowD ho 3 encH F.heaps] (.bool (decide (IsPlan F.rain.length p))) := Plan_v F ro ho rc hc p.a p.b p.c (by have := hg.1; omega) (by have := hg.2.2.1; omega)
omit F ro ho rc hc in
theorem bit1 {q : Nat → Bool} {n k : Nat} (h : k < n) (hq : q k = true) : Value.int .i64 (((clampB q n >>> k) &&& 1 : Nat) : Int) = i64 1 := by rw [clampB_at h hq]; rfl
omit F ro ho rc hc in
theorem bit0 {q : Nat → Bool} {n k : Nat} (h : k < n) (hq : q k = false) : Value.int .i64 (((clampB q n >>> k) &&& 1 : Nat) : Int) = i64 0 := by rw [clampB_at h hq]; rfl
omit F ro ho rc hc in
theorem clamp_sm {q : Nat → Bool} {n : Nat} (h : n ≤ 3) : clampB q n < 2 ^ 62 := Nat.lt_of_lt_of_le (clampB_sm q h) (by decide)
omit F ro ho rc hc in
theorem clamp_sh {q : Nat → Bool} {n k : Nat} (h : n ≤ 3) : clampB q n >>> k < 2 ^ 62 := Nat.lt_of_le_of_lt (Nat.shiftRight_le _ _) (clamp_sm h)
set_option maxHeartbeats 4000000 in
theorem true_v (w0 p0 : Nat) (hw : w0 ≤ 255) (hp0 : p0 ≤ 65535) (bys : List Int) (ba : Option Addr) (bc : Nat) (hu : U16s bys) (hbl : bys.length ≤ 9223372036854775807) : FnV Try.prog 6 [valF F ro rc ho hc, .int .u8 w0, .int .u16 p0, .slice ba bys.length bc] [rowD ba 1 encU bys, rowD ro 2 encS F.rain, rowD ho 3 encH F.heaps] (.bool true) := by
  refine FnV.intro Try.call6 Try.func6 rfl Try.ntmps6 rfl ?_
  intro W M Rf
  refine r_seq ?_
  refine r_region ?_
  refine o_boxA rfl rfl rfl rfl rfl (fun b4 => ?_)
  refine o_q _ rfl rfl rfl (v_assign rfl rfl) ?_
  refine o_nil ?_
  with_reducible refine r_then ?_
  refine r_seq ?_
  refine r_seq ?_
  refine r_region ?_
  refine o_q _ rfl rfl rfl (v_ldW rfl Try.underlying26 rfl inf26 rfl rfl) ?_
  refine o_test rfl rfl rfl (OpQ.fn (fine_v F ro ho rc hc) rfl rfl SubRC.sub) (fun h25 => ?_) (fun h25 => ?_)
  all_goals
    refine o_q _ rfl rfl rfl (v_not rfl rfl) ?_
    refine o_q _ rfl rfl rfl (v_move rfl rfl) ?_
    first | refine o_gn rfl rfl rfl rfl ?_ | refine o_g _ rfl rfl rfl rfl (v_fieldAddr rfl Try.underlying26 inf24 rfl rfl rfl rfl) ?_
    first | refine o_gn rfl rfl rfl rfl ?_ | refine o_g _ rfl rfl rfl rfl (v_ld1 rfl Try.underlying24 rfl rfl rfl) ?_
    first | refine o_gn rfl rfl rfl rfl ?_ | refine o_g _ rfl rfl rfl rfl (v_len rfl rfl Try.underlying24 rfl) ?_
    first | refine o_gn rfl rfl rfl rfl ?_ | refine o_gtest rfl rfl rfl rfl (v_eql rfl rfl rfl) (fun h31 => ?_) (fun h31 => ?_)
    all_goals
      first | refine o_q _ rfl rfl rfl (v_pick_t rfl rfl rfl) ?_ | refine o_q _ rfl rfl rfl (v_pick_f rfl rfl rfl) ?_
      refine o_nil ?_
      with_reducible refine r_then ?_
      refine r_cond rfl (fun hc32 => ?_) (fun hc32 => ?_)
      ·
        first
        | (exfalso; revert hc32; decide)
        | skip
          refine r_seq ?_
          refine r_region ?_
          refine o_q _ rfl rfl rfl (OpQ.fn awake_v rfl rfl SubRC.sub) ?_
          refine o_q _ rfl rfl rfl (v_assign rfl rfl) ?_
          refine o_nil ?_
          with_reducible refine r_then ?_
          refine r_ret ?_
          with_reducible refine r_then_ret ?_
          exact r_retv2 (Rd.tmp rfl rfl) rfl SelMC.sel SubRC.sub
      ·
        first
        | (exfalso; revert hc32; decide)
        | skip
          refine r_skip ?_
          with_reducible refine r_then ?_
          refine r_seq ?_
          have hg : GoodF F := by assumption
          have h8 := hg.1
          have h3 := hg.2.2.1
          refine r_par' 15 mixed (by kernel_rfl) (by rfl) ?_
          refine p_q _ rfl rfl rfl (fun _ _ => v_move rfl rfl) ?_
          refine p_q _ rfl rfl rfl (fun _ _ => v_conv rfl Try.underlying5 Try.underlying3 rfl (IntWalk.i64_in _ (by omega))) ?_
          refine p_q _ rfl rfl rfl (fun _ _ => v_fieldAddr rfl Try.underlying26 inf24 rfl rfl rfl rfl) ?_
          refine p_q _ rfl rfl rfl (fun _ _ => v_ld1 rfl Try.underlying24 rfl rfl rfl) ?_
          refine p_q _ rfl rfl rfl (fun _ _ => v_len rfl rfl Try.underlying24 rfl) ?_
          refine p_q _ rfl rfl rfl (fun _ _ => v_cast (v := i64 ((w0 % F.heaps.length : Nat) : Int)) (v_rem rfl rfl rfl (by omega)) (congrArg (Value.int .i64) (tmod_nat (a := w0) (b := F.heaps.length)))) ?_
          refine p_q _ rfl rfl rfl (fun _ _ => v_ldW rfl Try.underlying26 rfl inf26 rfl rfl) ?_
          refine p_q _ rfl rfl rfl (fun _ _ => v_move rfl rfl) ?_
          refine p_q _ rfl rfl rfl (fun _ _ => v_conv rfl Try.underlying49 Try.underlying3 rfl (IntWalk.i64_in _ (by omega))) ?_
          refine p_q _ rfl rfl rfl (fun _ _ => OpQ.fn (EMade_v F ro ho rc hc hg p0 hp0) rfl rfl SubRC.sub) ?_
          refine p_q _ rfl rfl rfl (fun _ _ => v_ldW rfl Try.underlying26 rfl inf26 rfl rfl) ?_
          refine p_q _ rfl rfl rfl (fun _ _ => v_move rfl rfl) ?_
          refine p_fn (truly_r F ro ho rc hc hg bys ba bc hu hbl) rfl rfl rfl rfl rfl SubRC.sub ?_
          refine p_alloc rfl inf27 rfl rfl rfl rfl rfl ?_
          refine p_alloc rfl inf54 rfl rfl rfl rfl rfl ?_
          refine p_nil2 (by simp only [List.nil_append, List.cons_append]; rfl) rfl ?_
          refine f_q rfl ?_
          refine f_q rfl ?_
          refine f_q rfl ?_
          refine f_q rfl ?_
          refine f_q rfl ?_
          refine f_q rfl ?_
          refine f_q rfl ?_
          refine f_q rfl ?_
          refine f_q rfl ?_
          refine f_q rfl ?_
          refine f_q rfl ?_
          refine f_q rfl ?_
          refine f_truth rfl (fun ra qc fa fc => ?_)
          refine f_alloc rfl (fun b10 => ?_)
          refine f_alloc rfl (fun b11 => ?_)
          refine f_nil ?_
          refine o_q _ rfl rfl rfl (v_assign rfl rfl) ?_
          refine o_st rfl inf27 rfl rfl rfl rfl rfl rfl rfl rfl ?_
          refine o_st rfl inf54 rfl rfl rfl rfl rfl rfl rfl rfl ?_
          refine o_nil ?_
          with_reducible refine r_then ?_
          refine r_seq ?_
          refine r_seq ?_
          have hhp : w0 % F.heaps.length < F.heaps.length := Nat.mod_lt w0 (by omega)
          have ht : GoodT F (trulyT F bys) := good_truly hg hu
          refine r_region ?_
          refine o_q _ rfl rfl rfl (v_ldW rfl Try.underlying54 rfl inf54 rfl rfl) ?_
          refine o_q _ rfl rfl rfl (v_ldW rfl Try.underlying26 rfl inf26 rfl rfl) ?_
          refine o_q _ rfl rfl rfl (v_move rfl rfl) ?_
          refine o_q _ rfl rfl rfl (v_ldW rfl Try.underlying27 rfl inf27 rfl rfl) ?_
          refine o_fns (ETwet_r F ro ho rc hc hg _ _ _ _ _ ht _ hhp (madeP F.rain.length p0)) rfl rfl rfl rfl rfl SubRC.sub (fun oa51 cp51 => ?_)
          refine o_q _ rfl rfl rfl (v_len rfl rfl Try.underlying52 rfl) ?_
          refine o_q _ rfl rfl rfl (v_move rfl rfl) ?_
          refine o_nil ?_
          with_reducible refine r_then ?_
          refine r_block ?_
          refine r_loop (ι := Nat) (fun d => d ≤ F.rain.length + 1) (fun d => [(4, pt b4 0), (9, i64 (w0 % F.heaps.length : Nat)), (10, pt b10 0), (11, pt b11 0), (51, .slice oa51 (wetL F (trulyT F bys) (w0 % F.heaps.length) (madeP F.rain.length p0) F.rain.length).length cp51), (52, i64 (wetL F (trulyT F bys) (w0 % F.heaps.length) (madeP F.rain.length p0) F.rain.length).length), (53, i64 d)]) (fun d => bx b11 54 [.slice ra (trulyT F bys).rain.length qc, .slice fa (trulyT F bys).first.length fc] :: bx b10 27 [i64 (madeP F.rain.length p0).a, i64 (madeP F.rain.length p0).b, i64 (madeP F.rain.length p0).c] :: bx b4 26 (cellsF F ro rc ho hc) :: M) (fun d => rowD oa51 1 encI (wetL F (trulyT F bys) (w0 % F.heaps.length) (madeP F.rain.length p0) F.rain.length) :: [rowD ra 1 encI (trulyT F bys).rain, rowD fa 1 encI (trulyT F bys).first] ++ ([rowD ba 1 encU bys, rowD ro 2 encS F.rain, rowD ho 3 encH F.heaps] ++ Rf)) (fun d => F.rain.length + 1 - d) 0 ?_ ?_ ?_
          ·
            refine Imp.box_to b11 [.slice ra (trulyT F bys).rain.length qc, .slice fa (trulyT F bys).first.length fc] rfl ?_
            refine Imp.box_to b10 [i64 (madeP F.rain.length p0).a, i64 (madeP F.rain.length p0).b, i64 (madeP F.rain.length p0).c] rfl ?_
            exact r_here (by repeat (first | exact FSub.nil | refine FSub.cons rfl ?_)) SelMC.sel SubRC.sub
          ·
            exact Nat.zero_le _
          ·
            rintro d hI0
            have hI : d ≤ F.rain.length + 1 := hI0
            have hwl := wetL_len (F := F) (t := (trulyT F bys)) (heap := (w0 % F.heaps.length)) (p := (madeP F.rain.length p0)) (k := F.rain.length)
            refine r_seq ?_
            refine r_region ?_
            refine o_q _ rfl rfl rfl (v_lss rfl rfl rfl) ?_
            refine o_nil ?_
            with_reducible refine r_then ?_
            refine r_seq ?_
            refine r_condd rfl (fun hc54 => ?_) (fun hc54 => ?_)
            ·
              refine r_skip ?_
              with_reducible refine r_then ?_
              refine r_seq ?_
              refine r_block ?_
              refine r_seq ?_
              refine r_region ?_
              refine o_q _ rfl rfl rfl (v_move rfl rfl) ?_
              refine o_q _ rfl rfl rfl (v_indexAddrSn rfl Try.underlying52 inf3 rfl rfl rfl (by omega) rfl) ?_
              refine o_q _ rfl rfl rfl (v_cast (v := i64 (Foot4.wetT F (trulyT F bys) (w0 % F.heaps.length) (madeP F.rain.length p0) d)) (v_loadE1 rfl Try.underlying3 rfl rfl (by omega) rfl rfl) (congrArg (Value.int .i64) (wetL_at (by omega)))) ?_
              refine o_q _ rfl rfl rfl (v_assign rfl rfl) ?_
              refine o_q _ rfl rfl rfl (v_assign rfl rfl) ?_
              refine o_nil ?_
              with_reducible refine r_then ?_
              refine r_seq ?_
              refine r_region ?_
              refine o_q _ rfl rfl rfl (v_ldW rfl Try.underlying26 rfl inf26 rfl rfl) ?_
              refine o_q _ rfl rfl rfl (v_move rfl rfl) ?_
              refine o_q _ rfl rfl rfl (v_ldW rfl Try.underlying27 rfl inf27 rfl rfl) ?_
              refine o_q _ rfl rfl rfl (v_move rfl rfl) ?_
              refine o_q _ rfl rfl rfl (OpQ.fn (EWet_v F ro ho rc hc hg _ _ (madeP F.rain.length p0) (made_plan F.rain.length p0) hhp (by omega)) rfl rfl SubRC.sub) ?_
              refine o_q _ rfl rfl rfl (v_move rfl rfl) ?_
              refine o_q _ rfl rfl rfl (v_extract rfl rfl rfl) ?_
              refine o_q _ rfl rfl rfl (v_extract rfl rfl rfl) ?_
              refine o_alloc rfl inf31 rfl rfl rfl rfl rfl (fun b14 => ?_)
              refine o_st rfl inf31 rfl rfl rfl rfl rfl rfl rfl rfl ?_
              refine o_q _ rfl rfl rfl (v_assign rfl rfl) ?_
              refine o_nil ?_
              with_reducible refine r_then ?_
              refine r_seq ?_
              refine r_region ?_
              refine o_q _ rfl rfl rfl (v_move rfl rfl) ?_
              refine o_q _ rfl rfl rfl (v_false (v_neq rfl rfl rfl) (by omega)) ?_
              all_goals
                refine o_q _ rfl rfl rfl (v_move rfl rfl) ?_
                refine o_g _ rfl rfl rfl rfl (v_move rfl rfl) ?_
                refine o_g _ rfl rfl rfl rfl (v_ldW rfl Try.underlying31 rfl inf31 rfl rfl) ?_
                refine o_g _ rfl rfl rfl rfl (v_true (OpQ.fn (inside_v _ _ _) rfl rfl SubRC.sub) (wet_between ht hhp (made_plan F.rain.length p0) d (by omega))) ?_
                refine o_g _ rfl rfl rfl rfl (v_not rfl rfl) ?_
                refine o_q _ rfl rfl rfl (v_pick_f rfl rfl rfl) ?_
                refine o_nil ?_
                with_reducible refine r_then ?_
                refine r_cond rfl (fun hc73 => ?_) (fun hc73 => ?_)
                ·
                  (exfalso; revert hc73; decide)
                ·
                  refine r_skip ?_
                  with_reducible refine r_in_normal ?_; refine r_then ?_
                  refine r_region ?_
                  refine o_q _ rfl rfl rfl (v_add rfl rfl rfl (by omega)) ?_
                  refine o_q _ rfl rfl rfl (v_move rfl rfl) ?_
                  refine o_nil ?_
                  with_reducible refine r_then ?_
                  refine r_next (d + 1) ?_ ?_ ?_
                  ·
                    exact r_here (by repeat (first | exact FSub.nil | refine FSub.cons rfl ?_)) SelMC.sel SubRC.sub
                  ·
                    omega
                  ·
                    omega
            ·
              refine r_exit ?_
              with_reducible refine r_then_exit ?_; refine r_then_exit ?_; refine r_in_here ?_; refine r_then ?_
              refine r_seq ?_
              refine r_region ?_
              rcases tcases hg hhp (made_plan F.rain.length p0) ht with ⟨hkv, hks⟩ | ⟨hkv, hks⟩ | ⟨hkv, hks⟩ | ⟨hkv, hks⟩ <;> refine o_q _ rfl rfl rfl (v_ldW rfl Try.underlying26 rfl inf26 rfl rfl) ?_
              all_goals
                refine o_q _ rfl rfl rfl (v_move rfl rfl) ?_
                refine o_q _ rfl rfl rfl (v_ldW rfl Try.underlying27 rfl inf27 rfl rfl) ?_
                refine o_q _ rfl rfl rfl (OpQ.fn (ECan_v F ro ho rc hc hg _ (madeP F.rain.length p0) (made_plan F.rain.length p0) hhp hkv) rfl rfl SubRC.sub) ?_
                refine o_q _ rfl rfl rfl (v_move rfl rfl) ?_
                refine o_q _ rfl rfl rfl (v_extract rfl rfl rfl) ?_
                refine o_q _ rfl rfl rfl (v_extract rfl rfl rfl) ?_
                refine o_q _ rfl rfl rfl (v_assign rfl rfl) ?_
                refine o_q _ rfl rfl rfl (v_assign rfl rfl) ?_
                refine o_nil ?_
                with_reducible refine r_then ?_
                refine r_seq ?_
                refine r_region ?_
                refine o_q _ rfl rfl rfl (v_ldW rfl Try.underlying54 rfl inf54 rfl rfl) ?_
                refine o_q _ rfl rfl rfl (v_ldW rfl Try.underlying26 rfl inf26 rfl rfl) ?_
                refine o_q _ rfl rfl rfl (v_move rfl rfl) ?_
                refine o_q _ rfl rfl rfl (v_ldW rfl Try.underlying27 rfl inf27 rfl rfl) ?_
                first | refine o_q _ rfl rfl rfl (v_true (OpQ.fn (EKeeps_v F ro ho rc hc hg _ _ _ _ _ ht _ hhp (madeP F.rain.length p0) (made_plan F.rain.length p0)) rfl rfl SubRC.sub) hks) ?_ | refine o_q _ rfl rfl rfl (v_false (OpQ.fn (EKeeps_v F ro ho rc hc hg _ _ _ _ _ ht _ hhp (madeP F.rain.length p0) (made_plan F.rain.length p0)) rfl rfl SubRC.sub) hks) ?_
                refine o_q _ rfl rfl rfl (v_assign rfl rfl) ?_
                refine o_nil ?_
                with_reducible refine r_then ?_
                refine r_seq ?_
                refine r_region ?_
                rcases Bool.eq_false_or_eq_true (sureQ selW F (w0 % F.heaps.length)) with hq | hq <;> refine o_q _ rfl rfl rfl (v_ldW rfl Try.underlying26 rfl inf26 rfl rfl) ?_
                all_goals
                  refine o_q _ rfl rfl rfl (v_move rfl rfl) ?_
                  first | refine o_q _ rfl rfl rfl (OpQ.fn (ESoon_v F ro ho rc hc hg _ hhp hq) rfl rfl SubRC.sub) ?_ | refine o_q _ rfl rfl rfl (OpQ.fn (ESoon_n F ro ho rc hc hg _ hhp hq) rfl rfl SubRC.sub) ?_
                  refine o_q _ rfl rfl rfl (v_move rfl rfl) ?_
                  refine o_q _ rfl rfl rfl (v_extract rfl rfl rfl) ?_
                  refine o_q _ rfl rfl rfl (v_extract rfl rfl rfl) ?_
                  refine o_alloc rfl inf27 rfl rfl rfl rfl rfl (fun b19 => ?_)
                  refine o_st rfl inf27 rfl rfl rfl rfl rfl rfl rfl rfl ?_
                  refine o_q _ rfl rfl rfl (v_assign rfl rfl) ?_
                  refine o_nil ?_
                  with_reducible refine r_then ?_
                  refine r_seq ?_
                  refine r_region ?_
                  refine o_q _ rfl rfl rfl (v_ldW rfl Try.underlying26 rfl inf26 rfl rfl) ?_
                  refine o_q _ rfl rfl rfl (OpQ.fn (EClamp_v F ro ho rc hc hg) rfl rfl SubRC.sub) ?_
                  refine o_q _ rfl rfl rfl (v_move rfl rfl) ?_
                  refine o_q _ rfl rfl rfl (v_extract rfl rfl rfl) ?_
                  refine o_q _ rfl rfl rfl (v_extract rfl rfl rfl) ?_
                  refine o_q _ rfl rfl rfl (v_extract rfl rfl rfl) ?_
                  refine o_q _ rfl rfl rfl (v_assign rfl rfl) ?_
                  refine o_q _ rfl rfl rfl (v_assign rfl rfl) ?_
                  refine o_q _ rfl rfl rfl (v_assign rfl rfl) ?_
                  refine o_nil ?_
                  with_reducible refine r_then ?_
                  refine r_seq ?_
                  refine r_seq ?_
                  refine r_region ?_
                  refine o_q _ rfl rfl rfl (v_move rfl rfl) ?_
                  refine o_q _ rfl rfl rfl (v_false (v_neq rfl rfl rfl) (by omega)) ?_
                  all_goals
                    refine o_q _ rfl rfl rfl (v_move rfl rfl) ?_
                    refine o_g _ rfl rfl rfl rfl (v_move rfl rfl) ?_
                    first | refine o_g _ rfl rfl rfl rfl (v_true (v_eql rfl rfl rfl) (by omega)) ?_ | refine o_g _ rfl rfl rfl rfl (v_false (v_eql rfl rfl rfl) (by omega)) ?_
                    all_goals
                      refine o_g _ rfl rfl rfl rfl (v_move rfl rfl) ?_
                      first | refine o_gn rfl rfl rfl rfl ?_ | refine o_g _ rfl rfl rfl rfl (v_move rfl rfl) ?_
                      first | refine o_gn rfl rfl rfl rfl ?_ | refine o_g _ rfl rfl rfl rfl (v_not rfl rfl) ?_
                      first | refine o_g _ rfl rfl rfl rfl (v_pick_t rfl rfl rfl) ?_ | refine o_g _ rfl rfl rfl rfl (v_pick_f rfl rfl rfl) ?_
                      refine o_q _ rfl rfl rfl (v_pick_f rfl rfl rfl) ?_
                      refine o_q _ rfl rfl rfl (v_move rfl rfl) ?_
                      refine o_g _ rfl rfl rfl rfl (v_move rfl rfl) ?_
                      first | refine o_g _ rfl rfl rfl rfl (v_true (v_eql rfl rfl rfl) (by omega)) ?_ | refine o_g _ rfl rfl rfl rfl (v_false (v_eql rfl rfl rfl) (by omega)) ?_
                      all_goals
                        refine o_g _ rfl rfl rfl rfl (v_move rfl rfl) ?_
                        first | refine o_gn rfl rfl rfl rfl ?_ | refine o_g _ rfl rfl rfl rfl (v_move rfl rfl) ?_
                        first | refine o_g _ rfl rfl rfl rfl (v_pick_t rfl rfl rfl) ?_ | refine o_g _ rfl rfl rfl rfl (v_pick_f rfl rfl rfl) ?_
                        refine o_q _ rfl rfl rfl (v_pick_f rfl rfl rfl) ?_
                        refine o_q _ rfl rfl rfl (v_move rfl rfl) ?_
                        refine o_g _ rfl rfl rfl rfl (v_move rfl rfl) ?_
                        refine o_g _ rfl rfl rfl rfl (v_false (v_neq rfl rfl rfl) (by omega)) ?_
                        all_goals
                          refine o_q _ rfl rfl rfl (v_pick_f rfl rfl rfl) ?_
                          refine o_q _ rfl rfl rfl (v_move rfl rfl) ?_
                          refine o_g _ rfl rfl rfl rfl (v_move rfl rfl) ?_
                          refine o_g _ rfl rfl rfl rfl (v_move rfl rfl) ?_
                          refine o_g _ rfl rfl rfl rfl (v_shrn (a := clampB (sureQ selW F) F.heaps.length) rfl rfl rfl (clamp_sm (by omega)) (by omega)) ?_
                          first | refine o_g _ rfl rfl rfl rfl (v_cast (v := i64 1) (v_andn (a := clampB (sureQ selW F) F.heaps.length >>> (w0 % F.heaps.length)) (b := 1) rfl rfl rfl (clamp_sh (by omega)) (by decide)) (bit1 hhp hq)) ?_ | refine o_g _ rfl rfl rfl rfl (v_cast (v := i64 0) (v_andn (a := clampB (sureQ selW F) F.heaps.length >>> (w0 % F.heaps.length)) (b := 1) rfl rfl rfl (clamp_sh (by omega)) (by decide)) (bit0 hhp hq)) ?_
                          first | refine o_g _ rfl rfl rfl rfl (v_true (v_eql rfl rfl rfl) (by omega)) ?_ | refine o_g _ rfl rfl rfl rfl (v_false (v_eql rfl rfl rfl) (by omega)) ?_
                          all_goals
                            refine o_g _ rfl rfl rfl rfl (v_move rfl rfl) ?_
                            first | refine o_g _ rfl rfl rfl rfl (v_true (v_eql rfl rfl rfl) (by omega)) ?_ | refine o_g _ rfl rfl rfl rfl (v_false (v_eql rfl rfl rfl) (by omega)) ?_
                            all_goals
                              refine o_g _ rfl rfl rfl rfl (v_neqB rfl Try.underlying4 rfl rfl rfl) ?_
                              refine o_q _ rfl rfl rfl (v_pick_f rfl rfl rfl) ?_
                              refine o_q _ rfl rfl rfl (v_move rfl rfl) ?_
                              refine o_g _ rfl rfl rfl rfl (v_move rfl rfl) ?_
                              first | refine o_g _ rfl rfl rfl rfl (v_true (v_neq rfl rfl rfl) (by omega)) ?_ | refine o_g _ rfl rfl rfl rfl (v_false (v_neq rfl rfl rfl) (by omega)) ?_
                              all_goals
                                refine o_g _ rfl rfl rfl rfl (v_move rfl rfl) ?_
                                first | refine o_gn rfl rfl rfl rfl ?_ | refine o_g _ rfl rfl rfl rfl (v_move rfl rfl) ?_
                                first | refine o_gn rfl rfl rfl rfl ?_ | refine o_g _ rfl rfl rfl rfl (v_false (v_neq rfl rfl rfl) (by omega)) ?_
                                all_goals
                                  first | refine o_g _ rfl rfl rfl rfl (v_pick_t rfl rfl rfl) ?_ | refine o_g _ rfl rfl rfl rfl (v_pick_f rfl rfl rfl) ?_
                                  refine o_q _ rfl rfl rfl (v_pick_f rfl rfl rfl) ?_
                                  refine o_nil ?_
                                  with_reducible refine r_then ?_
                                  refine r_cond rfl (fun hc137 => ?_) (fun hc137 => ?_)
                                  ·
                                    (exfalso; revert hc137; decide)
                                  ·
                                    refine r_skip ?_
                                    with_reducible refine r_then ?_
                                    refine r_seq ?_
                                    refine r_seq ?_
                                    refine r_region ?_
                                    by_cases hwp : 0 ≤ (madeP F.rain.length p0).a ∧ 0 ≤ (madeP F.rain.length p0).b ∧ 0 ≤ (madeP F.rain.length p0).c <;> refine o_q _ rfl rfl rfl (v_ldW rfl Try.underlying27 rfl inf27 rfl rfl) ?_
                                    all_goals
                                      first | refine o_q _ rfl rfl rfl (v_true (OpQ.fn (Whole_v _ _ _) rfl rfl SubRC.sub) hwp) ?_ | refine o_q _ rfl rfl rfl (v_false (OpQ.fn (Whole_v _ _ _) rfl rfl SubRC.sub) hwp) ?_
                                      refine o_q _ rfl rfl rfl (v_move rfl rfl) ?_
                                      first | refine o_gn rfl rfl rfl rfl ?_ | refine o_g _ rfl rfl rfl rfl (v_move rfl rfl) ?_
                                      first | refine o_q _ rfl rfl rfl (v_pick_t rfl rfl rfl) ?_ | refine o_q _ rfl rfl rfl (v_pick_f rfl rfl rfl) ?_
                                      refine o_q _ rfl rfl rfl (v_move rfl rfl) ?_
                                      first | refine o_gn rfl rfl rfl rfl ?_ | refine o_g _ rfl rfl rfl rfl (v_move rfl rfl) ?_
                                      first | refine o_gn rfl rfl rfl rfl ?_ | refine o_g _ rfl rfl rfl rfl (v_move rfl rfl) ?_
                                      first | refine o_gn rfl rfl rfl rfl ?_ | refine o_g _ rfl rfl rfl rfl (v_shrn (a := clampB (sureQ selD F) F.heaps.length) rfl rfl rfl (clamp_sm (by omega)) (by omega)) ?_
                                      first | refine o_gn rfl rfl rfl rfl ?_ | refine o_g _ rfl rfl rfl rfl (v_cast (v := i64 1) (v_andn (a := clampB (sureQ selD F) F.heaps.length >>> (w0 % F.heaps.length)) (b := 1) rfl rfl rfl (clamp_sh (by omega)) (by decide)) (bit1 hhp (sureQ_of (sure_of (made_plan F.rain.length p0) hwp (keeps_down ht hhp (made_plan F.rain.length p0) hks))))) ?_
                                      first | refine o_gn rfl rfl rfl rfl ?_ | refine o_g _ rfl rfl rfl rfl (v_false (v_eql rfl rfl rfl) (by omega)) ?_
                                      all_goals
                                        first | refine o_q _ rfl rfl rfl (v_pick_t rfl rfl rfl) ?_ | refine o_q _ rfl rfl rfl (v_pick_f rfl rfl rfl) ?_
                                        refine o_nil ?_
                                        with_reducible refine r_then ?_
                                        refine r_cond rfl (fun hc149 => ?_) (fun hc149 => ?_)
                                        ·
                                          (exfalso; revert hc149; decide)
                                        ·
                                          refine r_skip ?_
                                          with_reducible refine r_then ?_
                                          refine r_seq ?_
                                          have hsk := fun h => soon_kept (F := F) (heap := w0 % F.heaps.length) h
                                          try replace hsk := hsk hq
                                          refine r_region ?_
                                          refine o_q _ rfl rfl rfl (v_move rfl rfl) ?_
                                          first | refine o_q _ rfl rfl rfl (v_true (v_neq rfl rfl rfl) (by omega)) ?_ | refine o_q _ rfl rfl rfl (v_false (v_neq rfl rfl rfl) (by omega)) ?_
                                          all_goals
                                            refine o_q _ rfl rfl rfl (v_move rfl rfl) ?_
                                            first | refine o_gn rfl rfl rfl rfl ?_ | refine o_g _ rfl rfl rfl rfl (v_ldW rfl Try.underlying27 rfl inf27 rfl rfl) ?_
                                            first | refine o_gn rfl rfl rfl rfl ?_ | refine o_g _ rfl rfl rfl rfl (v_true (OpQ.fn (Whole_v _ _ _) rfl rfl SubRC.sub) hsk.2.1) ?_
                                            first | refine o_gn rfl rfl rfl rfl ?_ | refine o_g _ rfl rfl rfl rfl (v_move rfl rfl) ?_
                                            first | refine o_gn rfl rfl rfl rfl ?_ | refine o_g _ rfl rfl rfl rfl (v_ldW rfl Try.underlying26 rfl inf26 rfl rfl) ?_
                                            first | refine o_gn rfl rfl rfl rfl ?_ | refine o_g _ rfl rfl rfl rfl (v_ldW rfl Try.underlying27 rfl inf27 rfl rfl) ?_
                                            first | refine o_gn rfl rfl rfl rfl ?_ | refine o_g _ rfl rfl rfl rfl (v_true (OpQ.fn (EPlan_v F ro ho rc hc hg (soonL (sureF selW F (w0 % F.heaps.length)))) rfl rfl SubRC.sub) hsk.1) ?_
                                            first | refine o_gn rfl rfl rfl rfl ?_ | refine o_g _ rfl rfl rfl rfl (v_pick_t rfl rfl rfl) ?_
                                            first | refine o_gn rfl rfl rfl rfl ?_ | refine o_g _ rfl rfl rfl rfl (v_move rfl rfl) ?_
                                            first | refine o_gn rfl rfl rfl rfl ?_ | refine o_g _ rfl rfl rfl rfl (v_ldW rfl Try.underlying54 rfl inf54 rfl rfl) ?_
                                            first | refine o_gn rfl rfl rfl rfl ?_ | refine o_g _ rfl rfl rfl rfl (v_ldW rfl Try.underlying26 rfl inf26 rfl rfl) ?_
                                            first | refine o_gn rfl rfl rfl rfl ?_ | refine o_g _ rfl rfl rfl rfl (v_move rfl rfl) ?_
                                            first | refine o_gn rfl rfl rfl rfl ?_ | refine o_g _ rfl rfl rfl rfl (v_ldW rfl Try.underlying27 rfl inf27 rfl rfl) ?_
                                            first | refine o_gn rfl rfl rfl rfl ?_ | refine o_g _ rfl rfl rfl rfl (v_true (OpQ.fn (EKeeps_v F ro ho rc hc hg _ _ _ _ _ ht _ hhp (soonL (sureF selW F (w0 % F.heaps.length))) hsk.1) rfl rfl SubRC.sub) (keeps_up ht hhp hsk.1 hsk.2.2)) ?_
                                            first | refine o_gn rfl rfl rfl rfl ?_ | refine o_g _ rfl rfl rfl rfl (v_pick_t rfl rfl rfl) ?_
                                            first | refine o_q _ rfl rfl rfl (v_pick_t rfl rfl rfl) ?_ | refine o_q _ rfl rfl rfl (v_pick_f rfl rfl rfl) ?_
                                            refine o_q _ rfl rfl rfl (v_move rfl rfl) ?_
                                            refine o_g _ rfl rfl rfl rfl (OpQ.fn awake_v rfl rfl SubRC.sub) ?_
                                            refine o_q _ rfl rfl rfl (v_pick_t rfl rfl rfl) ?_
                                            refine o_q _ rfl rfl rfl (v_assign rfl rfl) ?_
                                            refine o_nil ?_
                                            with_reducible refine r_then ?_
                                            refine r_ret ?_
                                            exact r_retv2 (Rd.tmp rfl rfl) rfl SelMC.sel SubRC.sub
end Go.Proofs.Ytienjlmnakbfmaa

namespace Go.G
variable {P : Program} {W : World} {n : Nat} {D : List Deferred} {L : Tm} {M : List Res} {R : List Fact} {Q : Exit → Act → World → Prop} {o : Oper}
theorem andNot_none {a b : Nat} (h : a &&& b = a) : (BitVec.ofInt 64 (a : Int) &&& ~~~ BitVec.ofInt 64 (b : Int)) = 0#64 := by
  rw [BitVec.ofInt_natCast, BitVec.ofInt_natCast]
  apply BitVec.eq_of_getLsbD_eq
  intro i hi
  have h1 : (a.testBit i && b.testBit i) = a.testBit i := by
    have := congrArg (fun x : Nat => x.testBit i) h
    simpa only [Nat.testBit_and] using this
  rw [BitVec.getLsbD_and, BitVec.getLsbD_not, BitVec.getLsbD_ofNat, BitVec.getLsbD_ofNat]
  cases ha : a.testBit i
  · simp
  · rw [ha] at h1
    have hb : b.testBit i = true := by simpa using h1
    simp [hi, hb]
theorem v_andNot0 {t u : TypeId} {x y : Operand} {a b : Nat} (ho : o.op = .binOp .andNot t x y u) (hx : ev L x = some (.int .i64 (a : Int))) (hy : ev L y = some (.int .i64 (b : Int))) (h : a &&& b = a) : OpQ P W n L M R o (.int .i64 0) :=
  OpQ.of_value fun f w h1 _ => by
    have hs : (Op.intBits .andNot .i64 (a : Int) (b : Int)).run P w = .ok (.int .i64 0) w := by
      unfold Op.intBits
      have e1 : (BitVec.ofInt IntKind.i64.bits (a : Int) &&& ~~~ BitVec.ofInt IntKind.i64.bits (b : Int)).toNat = 0 := congrArg BitVec.toNat (andNot_none h)
      simp only [e1]
      rfl
    have hb2 : (binOp .andNot t (.int .i64 (a : Int)) (.int .i64 (b : Int))).run P w = .ok (.int .i64 0) w := hs
    simp [execOp, ho, h1.ev hx, h1.ev hy, eqGuard, hb2]
end Go.G

namespace Foot4
open Go Go.G
theorem sureF_down {F : Work} (hg : GoodF F) {heap : Nat} (hh : heap < F.heaps.length) {p : T3} (h : p ∈ sureF selW F heap) : p ∈ sureF selD F heap := by
  have h := List.mem_filter.1 h
  have hp := whole_plan' h.1
  exact sure_of hp.1 hp.2 (kept_down hg hh hp.1 (by simpa [keptB] using h.2))
theorem clamp_sub {F : Work} (hg : GoodF F) : clampB (sureQ selW F) F.heaps.length &&& clampB (sureQ selD F) F.heaps.length = clampB (sureQ selW F) F.heaps.length := by
  apply Nat.eq_of_testBit_eq
  intro k
  rw [Nat.testBit_and, clampB_bit, clampB_bit]
  by_cases hk : k < F.heaps.length
  · cases hq : sureQ selW F k with
    | false => simp
    | true =>
      have := sureQ_of (sureF_down hg hk (soonL_spec hq).1)
      simp [hk, this]
  · simp [hk]
theorem clamp_shr (q : Nat → Bool) (n : Nat) : clampB q n >>> n = 0 := by
  rw [Nat.shiftRight_eq_div_pow]
  exact Nat.div_eq_of_lt (clampB_lt q n)
theorem scases {F : Work} (hg : GoodF F) {heap : Nat} (hh : heap < F.heaps.length) {p : T3} (hp : IsPlan F.rain.length p) (hw : 0 ≤ p.a ∧ 0 ≤ p.b ∧ 0 ≤ p.c) :
    (keptP F heap p = 2 ∧ p ∈ sureF selD F heap ∧ p ∈ sureF selW F heap) ∨ (keptP F heap p = 1 ∧ p ∈ sureF selD F heap) ∨ keptP F heap p = 0 := by
  rcases kept_vals F heap p with h | h | h
  · exact .inr (.inr h)
  · refine .inr (.inl ⟨h, sure_of hp hw (Classical.byContradiction fun hk => ?_)⟩)
    rw [(kept_0 hg hh hp).2 hk] at h; cases h
  · have h2 := sure_of hp hw (kept_2.1 h)
    exact .inl ⟨h, sureF_down hg hh h2, h2⟩
theorem lex_at {s p : T3} {i : Nat} (hi : i < 3) (h : ∀ j, j < i → p.at j = s.at j) (hn : p.at i ≠ s.at i) (hl : s.c = p.c ∧ (p = s ∨ lex s p)) : s.at i < p.at i := by
  obtain ⟨hc, rfl | hl⟩ := hl
  · exact absurd rfl hn
  · obtain rfl | rfl | rfl : i = 0 ∨ i = 1 ∨ i = 2 := by omega
    · have hn : p.a ≠ s.a := hn
      show s.a < p.a
      unfold lex at hl
      omega
    · have h0 : p.a = s.a := h 0 (by omega)
      have hn : p.b ≠ s.b := hn
      show s.b < p.b
      unfold lex at hl
      omega
    · have hn : p.c ≠ s.c := hn
      omega
theorem at_step {s p : T3} {i : Nat} (h : ∀ j, j < i → p.at j = s.at j) (hi : p.at i = s.at i) : ∀ j, j < i + 1 → p.at j = s.at j := fun j hj => by
  by_cases e : j = i
  · subst e; exact hi
  · exact h j (by omega)
end Foot4
