/- Part 5 of 5 of what the proofs of this seat stand on: a small logic for walks, what the functions come to, and the walks themselves. No condition of its own. -/
import Derived.Test.YtoggggnlponfhaaE4
set_option linter.unusedVariables false
set_option linter.unusedSimpArgs false
namespace Burst8
abbrev Tr := List Int × List Span
def bear1 (B : Bog) (i : Nat) : Span := ⟨(B.banks.getD i default).blo - (B.banks.getD i default).chi, (B.banks.getD i default).bhi - (B.banks.getD i default).clo⟩
def bearTo (B : Bog) (k : Nat) : List Span := (List.range k).map (bear1 B)
theorem bearTo_s (B : Bog) (k : Nat) : bearTo B k ++ [bear1 B k] = bearTo B (k + 1) := by simp [bearTo, List.range_succ]
theorem bearTo_len (B : Bog) (k : Nat) : (bearTo B k).length = k := by simp [bearTo]
def sgS (s : Sign) (x : Int) (b : Span) : Span := ⟨max b.lo x, min b.hi (x + if s.kind = 1 then 5 else 10)⟩
/-- What one sign leaves of what banks bear. -/
def sgn1 (s : Sign) (w : List Int) (l : List Span) : Option (List Span) :=
  if s.kind = 2 then (if w.getD s.day.toNat default < 15 then none else some l) else some (l.set s.bank.toNat (sgS s (w.getD s.day.toNat default) (l.getD s.bank.toNat default)))
def fitTo (B : Bog) (m : Nat) (w : List Int) : Nat → Option (List Span)
  | 0 => some (bearTo B B.banks.length)
  | k + 1 => (fitTo B m w k).bind fun l => if m.testBit k then sgn1 (B.signs.getD k default) w l else some l
abbrev Whole (l : List Span) : Prop := ∀ i, i < l.length → (l.getD i default).lo ≤ (l.getD i default).hi
def fitB (B : Bog) (m : Nat) (w : List Int) : Option (List Span) := (fitTo B m w B.signs.length).bind fun l => if Whole l then some l else none
def nextS (B : Bog) (w : List Int) : Span := if w.length = 0 then ⟨B.wlo, B.whi⟩ else ⟨w.getD (w.length - 1) default + (B.rain.getD (w.length - 1) default).lo - B.drain, w.getD (w.length - 1) default + (B.rain.getD (w.length - 1) default).hi - B.drain⟩
def cntS (s : Span) : Nat := (s.hi + 1 - s.lo).toNat
def goesL (B : Bog) (m : Nat) : Nat → List Int → List Tr
  | 0, w => match fitB B m w with
    | some l => [(w, l)]
    | none => []
  | r + 1, w => (List.range (cntS (nextS B w))).flatMap fun i : Nat => goesL B m r (w ++ [(nextS B w).lo + i])
def goesT (B : Bog) (m r : Nat) (w : List Int) (i : Nat) : List Tr := (List.range i).flatMap fun i : Nat => goesL B m r (w ++ [(nextS B w).lo + i])
variable {B : Bog} {m : Nat}
theorem goesT_0 (r : Nat) (w : List Int) : goesT B m r w 0 = [] := rfl
theorem goesT_s (r : Nat) (w : List Int) (i : Nat) : goesT B m r w i ++ goesL B m r (w ++ [(nextS B w).lo + i]) = goesT B m r w (i + 1) := by
  simp [goesT, List.range_succ, List.flatMap_append]
theorem goesT_all (r : Nat) (w : List Int) : goesT B m r w (cntS (nextS B w)) = goesL B m (r + 1) w := rfl
theorem goesL_y {w : List Int} {l : List Span} (h : fitB B m w = some l) : goesL B m 0 w = [(w, l)] := by simp only [goesL, h]
theorem goesL_n {w : List Int} (h : fitB B m w = none) : goesL B m 0 w = [] := by simp only [goesL, h]
/-- How many ways there are at most, of days that are left. -/
def wayN (B : Bog) : Nat → Nat
  | 0 => 1
  | r + 1 => (if r = B.rain.length then cntS ⟨B.wlo, B.whi⟩ else cntS (B.rain.getD (B.rain.length - 1 - r) default)) * wayN B r
theorem next_cnt {w : List Int} {r : Nat} (h : w.length + r = B.rain.length) : cntS (nextS B w) = if r = B.rain.length then cntS ⟨B.wlo, B.whi⟩ else cntS (B.rain.getD (B.rain.length - 1 - r) default) := by
  unfold nextS
  by_cases e : w.length = 0
  · rw [if_pos e, if_pos (by omega)]
  · rw [if_neg e, if_neg (by omega), show B.rain.length - 1 - r = w.length - 1 from by omega]
    unfold cntS
    dsimp only
    omega
theorem goesL_cnt : ∀ (r : Nat) (w : List Int), w.length + r = B.rain.length + 1 → (goesL B m r w).length ≤ wayN B r
  | 0, w, _ => by
    cases e : fitB B m w with
    | none => rw [goesL_n e]; exact Nat.zero_le _
    | some l => rw [goesL_y e]; exact Nat.le_refl _
  | r + 1, w, h => by
    rw [← goesT_all]
    show _ ≤ _ * wayN B r
    rw [← next_cnt (w := w) (by omega)]
    have : ∀ i, (goesT B m r w i).length ≤ i * wayN B r := by
      intro i
      induction i with
      | zero => simp [goesT_0]
      | succ i ih =>
        rw [← goesT_s, List.length_append, Nat.add_mul, Nat.one_mul]
        have := goesL_cnt r (w ++ [(nextS B w).lo + i]) (by simp; omega)
        omega
    exact this _
theorem goesT_room {r i : Nat} {w : List Int} (h : w.length + (r + 1) = B.rain.length + 1) (hi : i < cntS (nextS B w)) : (goesT B m r w i).length + wayN B r ≤ wayN B (r + 1) := by
  have h1 : ∀ i, (goesT B m r w i).length ≤ i * wayN B r := by
    intro i
    induction i with
    | zero => simp [goesT_0]
    | succ i ih =>
      rw [← goesT_s, List.length_append, Nat.add_mul, Nat.one_mul]
      have := goesL_cnt (B := B) (m := m) r (w ++ [(nextS B w).lo + i]) (by simp; omega)
      omega
  show _ ≤ _ * wayN B r
  rw [← next_cnt (w := w) (by omega)]
  have := h1 i
  have h2 : (i + 1) * wayN B r ≤ cntS (nextS B w) * wayN B r := Nat.mul_le_mul_right _ hi
  rw [Nat.add_mul, Nat.one_mul] at h2
  omega
/-! ### what fits -/
theorem set_at {α : Type} {l : List α} {b i : Nat} {x d : α} (hb : b < l.length) : (l.set b x).getD i d = if i = b then x else l.getD i d := by
  simp only [List.getD_eq_getElem?_getD, List.getElem?_set]
  by_cases e : b = i
  · subst e; simp [hb]
  · rw [if_neg e, if_neg (fun h => e h.symm)]
/-- What banks can bear lies within l. -/
abbrev InL (l : List Span) (k : Nat → Int) : Prop := ∀ i, i < l.length → (l.getD i default).lo ≤ k i ∧ k i ≤ (l.getD i default).hi
abbrev atW (w : List Int) : Nat → Int := fun d => w.getD d default
theorem sgn1_some {s : Sign} (hs : SignOk B s) {w : List Int} {l l' : List Span} (hl : l.length = B.banks.length) (h : sgn1 s w l = some l') : l'.length = B.banks.length ∧ ∀ k, InL l' k ↔ InL l k ∧ SignR s k (atW w) := by
  obtain ⟨hd, hs⟩ := hs
  unfold sgn1 at h
  by_cases h2 : s.kind = 2
  · rw [if_pos h2] at h
    split at h
    · cases h
    · cases h
      refine ⟨hl, fun k => ?_⟩
      have : SignR s k (atW w) ↔ 15 ≤ atW w s.day.toNat := by unfold SignR; rw [if_neg (by omega), if_neg (by omega)]
      rw [this]
      exact ⟨fun x => ⟨x, by show 15 ≤ w.getD s.day.toNat default; omega⟩, fun x => x.1⟩
  · rw [if_neg h2] at h
    cases h
    obtain ⟨hk, hb⟩ := hs.resolve_left h2
    have hbl : s.bank.toNat < l.length := by omega
    refine ⟨by rw [List.length_set, hl], fun k => ?_⟩
    have key : SignR s k (atW w) ↔ atW w s.day.toNat ≤ k s.bank.toNat ∧ k s.bank.toNat ≤ atW w s.day.toNat + (if s.kind = 1 then 5 else 10) := by
      unfold SignR
      have : s.kind = 0 ∨ s.kind = 1 := by omega
      rcases this with e | e
      · rw [if_pos e, if_neg (by omega)]; omega
      · rw [if_neg (by omega), if_pos e, if_pos e]; omega
    rw [key]
    constructor
    · intro x
      have hx := x s.bank.toNat (by rw [List.length_set]; exact hbl)
      rw [set_at hbl, if_pos rfl] at hx
      have h3 : (sgS s (w.getD s.day.toNat default) (l.getD s.bank.toNat default)).lo = max (l.getD s.bank.toNat default).lo (w.getD s.day.toNat default) := rfl
      have h4 : (sgS s (w.getD s.day.toNat default) (l.getD s.bank.toNat default)).hi = min (l.getD s.bank.toNat default).hi (w.getD s.day.toNat default + if s.kind = 1 then 5 else 10) := rfl
      rw [h3, h4] at hx
      refine ⟨fun i hi => ?_, by show w.getD _ _ ≤ _; omega, by show _ ≤ w.getD _ _ + _; omega⟩
      by_cases e : i = s.bank.toNat
      · subst e; omega
      · have := x i (by rw [List.length_set]; exact hi)
        rw [set_at hbl, if_neg e] at this
        exact this
    · rintro ⟨x, y1, y2⟩ i hi
      rw [List.length_set] at hi
      rw [set_at hbl]
      have hx := x i hi
      by_cases e : i = s.bank.toNat
      · subst e
        rw [if_pos rfl]
        have h3 : (sgS s (w.getD s.day.toNat default) (l.getD s.bank.toNat default)).lo = max (l.getD s.bank.toNat default).lo (w.getD s.day.toNat default) := rfl
        have h4 : (sgS s (w.getD s.day.toNat default) (l.getD s.bank.toNat default)).hi = min (l.getD s.bank.toNat default).hi (w.getD s.day.toNat default + if s.kind = 1 then 5 else 10) := rfl
        rw [h3, h4]
        have y1' : w.getD s.day.toNat default ≤ k s.bank.toNat := y1
        have y2' : k s.bank.toNat ≤ w.getD s.day.toNat default + (if s.kind = 1 then 5 else 10) := y2
        omega
      · rw [if_neg e]; exact hx
theorem sgn1_none {s : Sign} {w : List Int} {l : List Span} (h : sgn1 s w l = none) (k : Nat → Int) : ¬ SignR s k (atW w) := by
  unfold sgn1 at h
  by_cases h2 : s.kind = 2
  · rw [if_pos h2] at h
    split at h
    · rename_i hx
      have : SignR s k (atW w) ↔ 15 ≤ atW w s.day.toNat := by unfold SignR; rw [if_neg (by omega), if_neg (by omega)]
      rw [this]
      show ¬ 15 ≤ w.getD s.day.toNat default
      omega
    · cases h
  · rw [if_neg h2] at h; cases h
theorem bearTo_at {i : Nat} (hi : i < B.banks.length) : (bearTo B B.banks.length).getD i default = bear1 B i := by simp [bearTo, List.getD_eq_getElem?_getD, hi]
theorem bearTo_in {k : Nat → Int} : InL (bearTo B B.banks.length) k ↔ ∀ i, i < B.banks.length → (B.banks.getD i default).blo - (B.banks.getD i default).chi ≤ k i ∧ k i ≤ (B.banks.getD i default).bhi - (B.banks.getD i default).clo := by
  constructor
  · intro h i hi
    have := h i (by rw [bearTo_len]; exact hi)
    rw [bearTo_at hi] at this
    exact this
  · intro h i hi
    rw [bearTo_len] at hi
    rw [bearTo_at hi]
    exact h i hi
abbrev Bears (B : Bog) (m : Nat) (w : List Int) (n : Nat) (k : Nat → Int) : Prop := (∀ i, i < B.banks.length → (B.banks.getD i default).blo - (B.banks.getD i default).chi ≤ k i ∧ k i ≤ (B.banks.getD i default).bhi - (B.banks.getD i default).clo) ∧ ∀ j, j < n → m.testBit j = true → SignR (B.signs.getD j default) k (atW w)
theorem fitTo_some (hg : GoodB B) {w : List Int} : ∀ (n : Nat) (l : List Span), n ≤ B.signs.length → fitTo B m w n = some l → l.length = B.banks.length ∧ ∀ k, InL l k ↔ Bears B m w n k
  | 0, l, _, h => by
    cases h
    exact ⟨bearTo_len .., fun k => ⟨fun x => ⟨bearTo_in.1 x, fun j hj => absurd hj (by omega)⟩, fun x => bearTo_in.2 x.1⟩⟩
  | n + 1, l, hn, h => by
    have h' : (fitTo B m w n).bind (fun l => if m.testBit n then sgn1 (B.signs.getD n default) w l else some l) = some l := h
    obtain ⟨l0, h0, h1⟩ := Option.bind_eq_some_iff.1 h'
    obtain ⟨hl0, hk0⟩ := fitTo_some hg n l0 (by omega) h0
    by_cases ht : m.testBit n = true
    · rw [if_pos ht] at h1
      obtain ⟨a, b⟩ := sgn1_some (hg.signs n (by omega)) hl0 h1
      refine ⟨a, fun k => ?_⟩
      rw [b k, hk0 k]
      constructor
      · rintro ⟨⟨x, y⟩, z⟩
        refine ⟨x, fun j hj hb => ?_⟩
        by_cases e : j = n
        · subst e; exact z
        · exact y j (by omega) hb
      · rintro ⟨x, y⟩
        exact ⟨⟨x, fun j hj hb => y j (by omega) hb⟩, y n (by omega) ht⟩
    · rw [if_neg ht] at h1
      cases h1
      refine ⟨hl0, fun k => ?_⟩
      rw [hk0 k]
      constructor
      · rintro ⟨x, y⟩
        refine ⟨x, fun j hj hb => ?_⟩
        by_cases e : j = n
        · subst e; exact absurd hb ht
        · exact y j (by omega) hb
      · rintro ⟨x, y⟩
        exact ⟨x, fun j hj hb => y j (by omega) hb⟩
theorem fitTo_none {w : List Int} : ∀ (n : Nat), fitTo B m w n = none → ∀ k, ¬ Bears B m w n k
  | 0, h, _ => by cases h
  | n + 1, h, k => by
    have h' : (fitTo B m w n).bind (fun l => if m.testBit n then sgn1 (B.signs.getD n default) w l else some l) = none := h
    intro hb
    cases e : fitTo B m w n with
    | none => exact fitTo_none n e k ⟨hb.1, fun j hj => hb.2 j (by omega)⟩
    | some l =>
      rw [e, Option.bind_some] at h'
      split at h'
      · rename_i ht
        exact sgn1_none h' k (hb.2 n (by omega) ht)
      · cases h'
theorem whole_some {l : List Span} : Whole l ↔ ∃ k, InL l k :=
  ⟨fun h => ⟨fun i => (l.getD i default).lo, fun i hi => ⟨Int.le_refl _, h i hi⟩⟩, fun ⟨k, h⟩ i hi => Int.le_trans (h i hi).1 (h i hi).2⟩
theorem fitB_some (hg : GoodB B) {w : List Int} {l : List Span} (h : fitB B m w = some l) : l.length = B.banks.length ∧ Whole l ∧ ∀ k, InL l k ↔ Bears B m w B.signs.length k := by
  obtain ⟨l0, h0, h1⟩ := Option.bind_eq_some_iff.1 h
  split at h1
  · cases h1
    obtain ⟨a, b⟩ := fitTo_some hg _ _ (Nat.le_refl _) h0
    exact ⟨a, by assumption, b⟩
  · cases h1
theorem fitB_none (hg : GoodB B) {w : List Int} (h : fitB B m w = none) (k : Nat → Int) : ¬ Bears B m w B.signs.length k := by
  intro hb
  cases e : fitTo B m w B.signs.length with
  | none => exact fitTo_none _ e k hb
  | some l =>
    have h' : (fitTo B m w B.signs.length).bind (fun l => if Whole l then some l else none) = none := h
    rw [e, Option.bind_some] at h'
    split at h'
    · cases h'
    · rename_i hw
      exact hw (whole_some.2 ⟨k, ((fitTo_some hg _ _ (Nat.le_refl _) e).2 k).2 hb⟩)
/-! ### the ways -/
/-- The water goes as rain and drain let it, from where it was. -/
def Goes (B : Bog) (w : List Int) : Prop := ∀ d, d < w.length → (nextS B (w.take d)).lo ≤ atW w d ∧ atW w d ≤ (nextS B (w.take d)).hi
theorem Goes.snoc {w : List Int} {x : Int} : Goes B (w ++ [x]) ↔ Goes B w ∧ (nextS B w).lo ≤ x ∧ x ≤ (nextS B w).hi := by
  have e1 : ∀ d, d < w.length → (w ++ [x]).take d = w.take d := fun d hd => by rw [List.take_append_of_le_length (by omega)]
  have e2 : ∀ d, d < w.length → atW (w ++ [x]) d = atW w d := fun d hd => by simp only [atW, List.getD_eq_getElem?_getD]; rw [List.getElem?_append_left hd]
  have e3 : atW (w ++ [x]) w.length = x := by simp [atW, List.getD_eq_getElem?_getD]
  have e4 : (w ++ [x]).take w.length = w := by simp
  unfold Goes
  constructor
  · intro h
    refine ⟨fun d hd => ?_, ?_⟩
    · have := h d (by simp; omega)
      rwa [e1 d hd, e2 d hd] at this
    · have := h w.length (by simp)
      rwa [e3, e4] at this
  · rintro ⟨h, h1⟩ d hd
    rw [List.length_append, List.length_singleton] at hd
    by_cases e : d = w.length
    · subst e; rw [e3, e4]; exact h1
    · rw [e1 d (by omega), e2 d (by omega)]; exact h d (by omega)
theorem mem_goes : ∀ (r : Nat) (w : List Int) (t : Tr), t ∈ goesL B m r w ↔ t.1.length = w.length + r ∧ t.1.take w.length = w ∧ (Goes B w → Goes B t.1) ∧ (∀ d, w.length ≤ d → d < t.1.length → (nextS B (t.1.take d)).lo ≤ atW t.1 d ∧ atW t.1 d ≤ (nextS B (t.1.take d)).hi) ∧ fitB B m t.1 = some t.2
  | 0, w, t => by
    cases e : fitB B m w with
    | none =>
      rw [goesL_n e]
      refine ⟨fun h => absurd h (by simp), fun ⟨h1, h2, _, _, h5⟩ => ?_⟩
      have : t.1 = w := by rw [← h2, List.take_of_length_le (by omega)]
      rw [this, e] at h5; cases h5
    | some l =>
      rw [goesL_y e, List.mem_singleton]
      constructor
      · rintro rfl
        exact ⟨rfl, by simp, id, fun d h1 h2 => absurd h2 (by dsimp only; omega), e⟩
      · rintro ⟨h1, h2, _, _, h5⟩
        have : t.1 = w := by rw [← h2, List.take_of_length_le (by omega)]
        rw [this, e] at h5
        cases h5
        exact Prod.ext this rfl
  | r + 1, w, t => by
    show t ∈ List.flatMap _ _ ↔ _
    rw [List.mem_flatMap]
    constructor
    · rintro ⟨i, hi, ht⟩
      rw [List.mem_range] at hi
      obtain ⟨h1, h2, h3, h4, h5⟩ := (mem_goes r _ t).1 ht
      rw [List.length_append, List.length_singleton] at h1 h2 h4
      have hw : t.1.take w.length = w := by
        have := congrArg (List.take w.length) h2
        rw [List.take_take, Nat.min_eq_left (by omega)] at this
        simpa using this
      have hx : atW t.1 w.length = (nextS B w).lo + (i : Int) := by
        have h6 : atW (t.1.take (w.length + 1)) w.length = (nextS B w).lo + (i : Int) := by rw [h2]; simp [atW, List.getD_eq_getElem?_getD]
        rw [← h6]
        simp only [atW, List.getD_eq_getElem?_getD]
        rw [List.getElem?_take_of_lt (by omega)]
      have hn : (nextS B w).lo ≤ (nextS B w).lo + (i : Int) ∧ (nextS B w).lo + (i : Int) ≤ (nextS B w).hi := by
        unfold cntS at hi; omega
      refine ⟨by omega, hw, fun hgo => h3 (Goes.snoc.2 ⟨hgo, hn⟩), fun d hd1 hd2 => ?_, h5⟩
      by_cases e : d = w.length
      · subst e; rw [hw, hx]; exact hn
      · exact h4 d (by omega) hd2
    · rintro ⟨h1, h2, h3, h4, h5⟩
      have hx := h4 w.length (Nat.le_refl _) (by omega)
      rw [h2] at hx
      refine ⟨(atW t.1 w.length - (nextS B w).lo).toNat, by rw [List.mem_range]; unfold cntS; omega, ?_⟩
      have e : (nextS B w).lo + ((atW t.1 w.length - (nextS B w).lo).toNat : Int) = atW t.1 w.length := by omega
      rw [e]
      refine (mem_goes r _ t).2 ⟨by simp; omega, ?_, fun hgo => h3 (Goes.snoc.1 hgo).1, fun d hd1 hd2 => h4 d (by simp at hd1; omega) hd2, h5⟩
      rw [List.length_append, List.length_singleton, List.take_add_one, h2]
      congr 1
      simp only [atW, List.getD_eq_getElem?_getD]
      rw [List.getElem?_eq_getElem (by omega)]
      simp
/-- All ways that the water can go. -/
abbrev allW (B : Bog) (m : Nat) : List Tr := goesL B m (B.rain.length + 1) []
theorem next_at {w : List Int} {d : Nat} (hd : d < w.length) : nextS B (w.take d) = if d = 0 then ⟨B.wlo, B.whi⟩ else ⟨atW w (d - 1) + (B.rain.getD (d - 1) default).lo - B.drain, atW w (d - 1) + (B.rain.getD (d - 1) default).hi - B.drain⟩ := by
  unfold nextS
  rw [List.length_take, Nat.min_eq_left (by omega)]
  by_cases e : d = 0
  · rw [if_pos e, if_pos e]
  · rw [if_neg e, if_neg e]
    have : (w.take d).getD (d - 1) default = atW w (d - 1) := by
      simp only [atW, List.getD_eq_getElem?_getD]
      rw [List.getElem?_take_of_lt (by omega)]
    rw [this]
theorem mem_all {t : Tr} : t ∈ allW B m ↔ t.1.length = B.rain.length + 1 ∧ (B.wlo ≤ atW t.1 0 ∧ atW t.1 0 ≤ B.whi) ∧ (∀ d, d < B.rain.length → (B.rain.getD d default).lo - B.drain ≤ atW t.1 (d + 1) - atW t.1 d ∧ atW t.1 (d + 1) - atW t.1 d ≤ (B.rain.getD d default).hi - B.drain) ∧ fitB B m t.1 = some t.2 := by
  rw [mem_goes]
  constructor
  · rintro ⟨h1, _, _, h4, h5⟩
    simp only [List.length_nil, Nat.zero_add] at h1 h4
    refine ⟨h1, ?_, fun d hd => ?_, h5⟩
    · have := h4 0 (Nat.zero_le _) (by omega)
      rw [next_at (by omega), if_pos rfl] at this
      exact this
    · have := h4 (d + 1) (Nat.zero_le _) (by omega)
      rw [next_at (by omega), if_neg (by omega)] at this
      simp only [Nat.add_sub_cancel] at this
      omega
  · rintro ⟨h1, h2, h3, h5⟩
    have key : ∀ d, d < t.1.length → (nextS B (t.1.take d)).lo ≤ atW t.1 d ∧ atW t.1 d ≤ (nextS B (t.1.take d)).hi := fun d hd => by
      rw [next_at hd]
      by_cases e : d = 0
      · subst e; rw [if_pos rfl]; exact h2
      · rw [if_neg e]
        have := h3 (d - 1) (by omega)
        rw [Nat.sub_add_cancel (by omega)] at this
        dsimp only
        omega
    exact ⟨by simp [h1], by simp, fun _ => key, fun d _ hd => key d hd, h5⟩
/-- The numbers of a truth are within one of the ways; and all within one of the ways are those of a truth. -/
theorem signR_congr {s : Sign} {k k' w w' : Nat → Int} (hk : s.kind ≠ 2 → k s.bank.toNat = k' s.bank.toNat) (hw : w s.day.toNat = w' s.day.toNat) : SignR s k w ↔ SignR s k' w' := by
  unfold SignR
  by_cases h2 : s.kind = 2
  · rw [if_neg (by omega), if_neg (by omega), if_neg (by omega), if_neg (by omega), hw]
  · rw [hk h2, hw]
theorem way_in (hg : GoodB B) {t : Tr} (ht : t ∈ allW B m) {k : Nat → Int} (hk : InL t.2 k) : TrW B m k (atW t.1) := by
  obtain ⟨_, h0, h1, h2⟩ := mem_all.1 ht
  obtain ⟨_, _, h3⟩ := fitB_some hg h2
  obtain ⟨a, b⟩ := (h3 k).1 hk
  exact ⟨h0, a, h1, b⟩
theorem way_of (hg : GoodB B) {k w : Nat → Int} (h : TrW B m k w) : ∃ t, t ∈ allW B m ∧ InL t.2 k ∧ ∀ d, d ≤ B.rain.length → atW t.1 d = w d := by
  have hw : ∀ d, d ≤ B.rain.length → atW ((List.range (B.rain.length + 1)).map w) d = w d := fun d hd => by
    simp [atW, List.getD_eq_getElem?_getD, show d < B.rain.length + 1 from by omega]
  have hb : Bears B m ((List.range (B.rain.length + 1)).map w) B.signs.length k := ⟨h.b, fun j hj ht => by
    have hs := (hg.signs j hj).1
    exact (signR_congr (fun _ => rfl) (hw _ (by omega))).2 (h.s j hj ht)⟩
  cases e : fitB B m ((List.range (B.rain.length + 1)).map w) with
  | none => exact absurd hb (fitB_none hg e k)
  | some l =>
    refine ⟨((List.range (B.rain.length + 1)).map w, l), mem_all.2 ⟨by simp, ?_, fun d hd => ?_, e⟩, ((fitB_some hg e).2.2 k).2 hb, hw⟩
    · show _ ≤ atW ((List.range (B.rain.length + 1)).map w) 0 ∧ _
      rw [hw 0 (by omega)]; exact h.w0
    · show _ ≤ atW ((List.range (B.rain.length + 1)).map w) (d + 1) - atW ((List.range (B.rain.length + 1)).map w) d ∧ atW ((List.range (B.rain.length + 1)).map w) (d + 1) - atW ((List.range (B.rain.length + 1)).map w) d ≤ _
      rw [hw d (by omega), hw (d + 1) (by omega)]; exact h.r d hd
theorem can_all (hg : GoodB B) : canB B m 0 false = true ↔ 0 < (allW B m).length := by
  rw [can_way hg]
  constructor
  · rintro ⟨k, w, h⟩
    obtain ⟨t, ht, _⟩ := way_of hg h
    exact List.length_pos_of_mem ht
  · intro h
    obtain ⟨t, ht⟩ := List.exists_mem_of_length_pos h
    obtain ⟨_, _, _, h2⟩ := mem_all.1 ht
    obtain ⟨k, hk⟩ := whole_some.1 (fitB_some hg h2).2.1
    exact ⟨k, _, way_in hg ht hk⟩
end Burst8


namespace Go.Proofs.Ytoggggnlponfhaa
open Go.G Burst8
set_option maxRecDepth 1000000
attribute [local irreducible] G.ParO G.Fin
attribute [local irreducible] fw fwR fwC emptyT tabOf knownT canB boundsL
theorem has_test (m i : Nat) : decide (((m / 2 ^ i % 2 : Nat) : Int) = 1) = m.testBit i := by
  rw [Nat.testBit_eq_decide_div_mod_eq]
  exact decide_eq_decide.2 (by omega)
theorem tdiv_natN {a b c : Nat} (h : a / b = c) (hb : 0 < b) : Value.int .i64 ((a : Int).tdiv (b : Int)) = i64 (c : Int) := by
  subst h
  rw [Int.tdiv_eq_ediv_of_nonneg (by omega)]
  congr 1
theorem pow_2 (i : Nat) : 2 * ((2 ^ i : Nat) : Int) = ((2 ^ (i + 1) : Nat) : Int) := by rw [Nat.pow_succ]; omega
theorem pow_62 {i n : Nat} (h : i ≤ n) (hn : n ≤ 10) : 2 ^ i ≤ 1024 ∧ 0 < 2 ^ i := ⟨Nat.pow_le_pow_right (n := 2) (by omega) (show i ≤ 10 by omega), Nat.pow_pos (by omega)⟩
abbrev vTr (t : Tr) (x : Option Addr × Nat × Option Addr × Nat) : Value := .agg #[.slice x.1 t.1.length x.2.1, .slice x.2.2.1 t.2.length x.2.2.2]
variable (B : Bog) (bo ro so : Option Addr) (bc rc sc : Nat) (bb mb : Nat)
attribute [local irreducible] leastU setB pop
set_option maxHeartbeats 4000000 in
theorem power_v (n : Nat) (hn : n ≤ 10) : FnV Try.prog 60 [i64 (n : Nat)] [] (i64 (2 ^ n : Nat)) := by
  refine FnV.intro Try.call60 Try.func60 rfl Try.ntmps60 rfl ?_
  intro W M Rf
  refine r_seq ?_
  refine r_region ?_
  refine o_q _ rfl rfl rfl (v_assign rfl rfl) ?_
  refine o_nil ?_
  with_reducible refine r_then ?_
  refine r_seq ?_
  refine r_region ?_
  refine o_q _ rfl rfl rfl (v_assign rfl rfl) ?_
  refine o_nil ?_
  with_reducible refine r_then ?_
  refine r_seq ?_
  refine r_seq ?_
  refine r_region ?_
  refine o_q _ rfl rfl rfl (v_assign rfl rfl) ?_
  refine o_nil ?_
  with_reducible refine r_then ?_
  refine r_block ?_
  refine r_loop (ι := Nat) (fun i => i ≤ n) (fun i => [(0, i64 (n : Nat)), (3, i64 (2 ^ i : Nat)), (4, i64 i)]) (fun i => M) (fun i => [] ++ Rf) (fun i => n - i) 0 ?_ ?_ ?_
  ·
    exact r_here (by repeat (first | exact FSub.nil | refine FSub.cons rfl ?_)) SelMC.sel SubRC.sub
  ·
    omega
  ·
    rintro i hI0
    have hI : i ≤ n := hI0
    obtain ⟨hp1, hp2⟩ := pow_62 hI hn
    refine r_seq ?_
    refine r_seq ?_
    refine r_region ?_
    refine o_q _ rfl rfl rfl (v_move rfl rfl) ?_
    refine o_q _ rfl rfl rfl (v_move rfl rfl) ?_
    refine o_q _ rfl rfl rfl (v_lss rfl rfl rfl) ?_
    refine o_nil ?_
    with_reducible refine r_then ?_
    refine r_condd rfl (fun hc7 => ?_) (fun hc7 => ?_)
    ·
      refine r_skip ?_
      with_reducible refine r_then ?_
      refine r_seq ?_
      refine r_block ?_
      refine r_region ?_
      refine o_q _ rfl rfl rfl (v_move rfl rfl) ?_
      refine o_q _ rfl rfl rfl (v_cast (v := i64 (2 ^ (i + 1) : Nat)) (v_mul rfl rfl rfl (by omega)) (congrArg (Value.int .i64) (pow_2 i))) ?_
      refine o_q _ rfl rfl rfl (v_assign rfl rfl) ?_
      refine o_nil ?_
      with_reducible refine r_in_normal ?_; refine r_then ?_
      refine r_region ?_
      refine o_q _ rfl rfl rfl (v_move rfl rfl) ?_
      refine o_q _ rfl rfl rfl (v_add rfl rfl rfl (by omega)) ?_
      refine o_q _ rfl rfl rfl (v_assign rfl rfl) ?_
      refine o_nil ?_
      with_reducible refine r_then ?_
      refine r_next (i + 1) ?_ ?_ ?_
      ·
        exact r_here (by repeat (first | exact FSub.nil | refine FSub.cons rfl ?_)) SelMC.sel SubRC.sub
      ·
        omega
      ·
        omega
    ·
      refine r_exit ?_
      with_reducible refine r_then_exit ?_; refine r_then_exit ?_; refine r_in_here ?_; refine r_then ?_
      refine r_seq ?_
      refine r_region ?_
      refine o_q _ rfl rfl rfl (v_move rfl rfl) ?_
      refine o_q _ rfl rfl rfl (v_assign rfl rfl) ?_
      refine o_nil ?_
      with_reducible refine r_then ?_
      refine r_ret ?_
      obtain rfl : i = n := by omega
      exact r_retv2 (Rd.tmp rfl rfl) rfl SelMC.sel SubRC.sub
set_option maxHeartbeats 4000000 in
theorem Has_v (m i : Nat) (hi : i ≤ 10) (hm : m < 64) : FnV Try.prog 103 [i64 (m : Nat), i64 (i : Nat)] [] (.bool (m.testBit i)) := by
  obtain ⟨hp1, hp2⟩ := pow_62 (Nat.le_refl i) hi
  refine FnV.intro Try.call103 Try.func103 rfl Try.ntmps103 rfl ?_
  intro W M Rf
  refine r_seq ?_
  refine r_region ?_
  refine o_q _ rfl rfl rfl (v_assign rfl rfl) ?_
  refine o_nil ?_
  with_reducible refine r_then ?_
  refine r_seq ?_
  refine r_region ?_
  refine o_q _ rfl rfl rfl (v_move rfl rfl) ?_
  refine o_q _ rfl rfl rfl (v_move rfl rfl) ?_
  refine o_q _ rfl rfl rfl (OpQ.fn (power_v i hi) rfl rfl SubRC.sub) ?_
  refine o_q _ rfl rfl rfl (v_cast (v := i64 ((m / 2 ^ i : Nat) : Int)) (v_quo rfl rfl rfl (by omega) (by rw [Int.tdiv_eq_ediv_of_nonneg (by omega)]; have := Int.ediv_le_self (2 ^ i : Nat) (show (0 : Int) ≤ m by omega); have : (0 : Int) ≤ (m : Int) / (2 ^ i : Nat) := Int.ediv_nonneg (by omega) (by omega); omega)) (tdiv_natN rfl (by omega))) ?_
  refine o_q _ rfl rfl rfl (v_cast (v := i64 ((m / 2 ^ i % 2 : Nat) : Int)) (v_rem rfl rfl rfl (by omega)) (tmodE (b := 2) rfl rfl)) ?_
  refine o_q _ rfl rfl rfl (v_cast (v := .bool (m.testBit i)) (v_eql rfl rfl rfl) (congrArg Value.bool (has_test m i))) ?_
  refine o_q _ rfl rfl rfl (v_assign rfl rfl) ?_
  refine o_nil ?_
  with_reducible refine r_then ?_
  refine r_ret ?_
  exact r_retv2 (Rd.tmp rfl rfl) rfl SelMC.sel SubRC.sub
set_option maxHeartbeats 4000000 in
theorem revery_v (hl : B.signs.length ≤ 5) : FnV Try.prog 78 [valB B bo ro so bc rc sc] [] (i64 ((2 ^ B.signs.length - 1 : Nat) : Int)) := by
  obtain ⟨hp1, hp2⟩ := pow_62 (Nat.le_refl B.signs.length) (by omega)
  refine FnV.intro Try.call78 Try.func78 rfl Try.ntmps78 rfl ?_
  intro W M Rf
  refine r_seq ?_
  refine r_region ?_
  refine o_boxA rfl rfl rfl rfl rfl (fun b1 => ?_)
  refine o_q _ rfl rfl rfl (v_assign rfl rfl) ?_
  refine o_nil ?_
  with_reducible refine r_then ?_
  refine r_seq ?_
  refine r_region ?_
  refine o_q _ rfl rfl rfl (v_fieldAddr rfl Try.underlying28 inf26 rfl rfl rfl rfl) ?_
  refine o_q _ rfl rfl rfl (v_ld1 rfl Try.underlying26 rfl rfl rfl) ?_
  refine o_q _ rfl rfl rfl (v_len rfl rfl Try.underlying26 rfl) ?_
  refine o_q _ rfl rfl rfl (OpQ.fn (power_v B.signs.length (by omega)) rfl rfl SubRC.sub) ?_
  refine o_q _ rfl rfl rfl (v_cast (v := i64 ((2 ^ B.signs.length - 1 : Nat) : Int)) (v_sub rfl rfl rfl (by omega)) (congrArg (Value.int .i64) (by omega))) ?_
  refine o_q _ rfl rfl rfl (v_assign rfl rfl) ?_
  refine o_nil ?_
  with_reducible refine r_then ?_
  refine r_ret ?_
  exact r_retv2 (Rd.tmp rfl rfl) rfl SelMC.sel SubRC.sub
set_option maxHeartbeats 4000000 in
theorem hull_v (s t : Burst8.Span) : FnV Try.prog 53 [.agg #[i64 s.lo, i64 s.hi], .agg #[i64 t.lo, i64 t.hi]] [] (.agg #[i64 (min s.lo t.lo), i64 (max s.hi t.hi)]) := by
  refine FnV.intro Try.call53 Try.func53 rfl Try.ntmps53 rfl ?_
  intro W M Rf
  refine r_seq ?_
  refine r_region ?_
  refine o_boxA rfl rfl rfl rfl rfl (fun b2 => ?_)
  refine o_boxA rfl rfl rfl rfl rfl (fun b3 => ?_)
  refine o_alloc rfl inf24 rfl rfl rfl rfl rfl (fun b4 => ?_)
  refine o_nil ?_
  with_reducible refine r_then ?_
  refine r_seq ?_
  refine r_region ?_
  refine o_q _ rfl rfl rfl (v_fieldAddr rfl Try.underlying24 inf3 rfl rfl rfl rfl) ?_
  refine o_q _ rfl rfl rfl (v_ld1 rfl Try.underlying3 rfl rfl rfl) ?_
  refine o_q _ rfl rfl rfl (v_fieldAddr rfl Try.underlying24 inf3 rfl rfl rfl rfl) ?_
  refine o_q _ rfl rfl rfl (v_ld1 rfl Try.underlying3 rfl rfl rfl) ?_
  refine o_q _ rfl rfl rfl (v_min2 rfl rfl rfl) ?_
  refine o_q _ rfl rfl rfl (v_fieldAddr rfl Try.underlying24 inf3 rfl rfl rfl rfl) ?_
  refine o_q _ rfl rfl rfl (v_ld1 rfl Try.underlying3 rfl rfl rfl) ?_
  refine o_q _ rfl rfl rfl (v_fieldAddr rfl Try.underlying24 inf3 rfl rfl rfl rfl) ?_
  refine o_q _ rfl rfl rfl (v_ld1 rfl Try.underlying3 rfl rfl rfl) ?_
  refine o_q _ rfl rfl rfl (v_max2 rfl rfl rfl) ?_
  refine o_q _ rfl rfl rfl (v_bS rfl Try.underlying24 inf24 plt24 rfl rfl rfl (by repeat (first | exact trivial | refine ⟨rfl, ?_⟩)) (by rfl)) ?_
  refine o_st rfl inf24 rfl rfl rfl rfl rfl rfl rfl rfl ?_
  refine o_nil ?_
  with_reducible refine r_then ?_
  refine r_ret ?_
  exact r_retv2 (Rd.one rfl (RdI.cellW Try.underlying24 rfl inf24 rfl rfl)) rfl SelMC.sel SubRC.sub
set_option maxHeartbeats 4000000 in
theorem of_v (w : List Int) (bs : List Burst8.Span) (wo ao : Option Addr) (wc ac : Nat) (i d : Nat) (hi : i < bs.length) (hd : d < w.length) (h1 : -10000 ≤ (bs.getD i default).lo ∧ (bs.getD i default).hi ≤ 10000 ∧ -10000 ≤ (bs.getD i default).hi ∧ (bs.getD i default).lo ≤ 10000) (h2 : -10000 ≤ w.getD d default ∧ w.getD d default ≤ 10000) : FnV Try.prog 87 [.agg #[.slice wo w.length wc, .slice ao bs.length ac], i64 (i : Nat), i64 (d : Nat)] [rowD wo 1 encI w, rowD ao 2 encS bs] (.agg #[i64 ((bs.getD i default).lo - w.getD d default), i64 ((bs.getD i default).hi - w.getD d default)]) := by
  refine FnV.intro Try.call87 Try.func87 rfl Try.ntmps87 rfl ?_
  intro W M Rf
  refine r_seq ?_
  refine r_region ?_
  refine o_boxA rfl rfl rfl rfl rfl (fun b3 => ?_)
  refine o_alloc rfl inf24 rfl rfl rfl rfl rfl (fun b6 => ?_)
  refine o_nil ?_
  with_reducible refine r_then ?_
  refine r_seq ?_
  refine r_par' 24 mixed (by kernel_rfl) (by rfl) ?_
  refine p_q _ rfl rfl rfl (fun _ _ => v_fieldAddr rfl Try.underlying82 inf25 rfl rfl rfl rfl) ?_
  refine p_q _ rfl rfl rfl (fun _ _ => v_ld1 rfl Try.underlying25 rfl rfl rfl) ?_
  refine p_q _ rfl rfl rfl (fun _ _ => v_move rfl rfl) ?_
  refine p_q _ rfl rfl rfl (fun _ _ => v_indexAddrSn rfl Try.underlying25 inf24 rfl rfl rfl (by omega) rfl) ?_
  refine p_q _ rfl rfl rfl (fun _ _ => v_fieldAddr rfl Try.underlying24 inf3 rfl rfl rfl rfl) ?_
  refine p_q _ rfl rfl rfl (fun _ _ => v_loadE1 rfl Try.underlying3 rfl rfl (by omega) rfl rfl) ?_
  refine p_q _ rfl rfl rfl (fun _ _ => v_fieldAddr rfl Try.underlying82 inf43 rfl rfl rfl rfl) ?_
  refine p_q _ rfl rfl rfl (fun _ _ => v_ld1 rfl Try.underlying43 rfl rfl rfl) ?_
  refine p_q _ rfl rfl rfl (fun _ _ => v_move rfl rfl) ?_
  refine p_q _ rfl rfl rfl (fun _ _ => v_indexAddrSn rfl Try.underlying43 inf3 rfl rfl rfl (by omega) rfl) ?_
  refine p_q _ rfl rfl rfl (fun _ _ => v_loadE1 rfl Try.underlying3 rfl rfl (by omega) rfl rfl) ?_
  refine p_q _ rfl rfl rfl (fun _ _ => v_sub rfl rfl rfl (by omega)) ?_
  refine p_q _ rfl rfl rfl (fun _ _ => v_fieldAddr rfl Try.underlying82 inf25 rfl rfl rfl rfl) ?_
  refine p_q _ rfl rfl rfl (fun _ _ => v_ld1 rfl Try.underlying25 rfl rfl rfl) ?_
  refine p_q _ rfl rfl rfl (fun _ _ => v_move rfl rfl) ?_
  refine p_q _ rfl rfl rfl (fun _ _ => v_indexAddrSn rfl Try.underlying25 inf24 rfl rfl rfl (by omega) rfl) ?_
  refine p_q _ rfl rfl rfl (fun _ _ => v_fieldAddr rfl Try.underlying24 inf3 rfl rfl rfl rfl) ?_
  refine p_q _ rfl rfl rfl (fun _ _ => v_loadE1 rfl Try.underlying3 rfl rfl (by omega) rfl rfl) ?_
  refine p_q _ rfl rfl rfl (fun _ _ => v_fieldAddr rfl Try.underlying82 inf43 rfl rfl rfl rfl) ?_
  refine p_q _ rfl rfl rfl (fun _ _ => v_ld1 rfl Try.underlying43 rfl rfl rfl) ?_
  refine p_q _ rfl rfl rfl (fun _ _ => v_move rfl rfl) ?_
  refine p_q _ rfl rfl rfl (fun _ _ => v_indexAddrSn rfl Try.underlying43 inf3 rfl rfl rfl (by omega) rfl) ?_
  refine p_q _ rfl rfl rfl (fun _ _ => v_loadE1 rfl Try.underlying3 rfl rfl (by omega) rfl rfl) ?_
  refine p_q _ rfl rfl rfl (fun _ _ => v_sub rfl rfl rfl (by omega)) ?_
  refine p_nil2 (by simp only [List.nil_append, List.cons_append]; rfl) rfl ?_
  refine f_q rfl ?_
  refine f_q rfl ?_
  refine f_q rfl ?_
  refine f_q rfl ?_
  refine f_q rfl ?_
  refine f_q rfl ?_
  refine f_q rfl ?_
  refine f_q rfl ?_
  refine f_q rfl ?_
  refine f_q rfl ?_
  refine f_q rfl ?_
  refine f_q rfl ?_
  refine f_q rfl ?_
  refine f_q rfl ?_
  refine f_q rfl ?_
  refine f_q rfl ?_
  refine f_q rfl ?_
  refine f_q rfl ?_
  refine f_q rfl ?_
  refine f_q rfl ?_
  refine f_q rfl ?_
  refine f_q rfl ?_
  refine f_q rfl ?_
  refine f_q rfl ?_
  refine f_nil ?_
  refine o_q _ rfl rfl rfl (v_bS rfl Try.underlying24 inf24 plt24 rfl rfl rfl (by repeat (first | exact trivial | refine ⟨rfl, ?_⟩)) (by rfl)) ?_
  refine o_st rfl inf24 rfl rfl rfl rfl rfl rfl rfl rfl ?_
  refine o_nil ?_
  with_reducible refine r_then ?_
  refine r_ret ?_
  exact r_retv2 (Rd.one rfl (RdI.cellW Try.underlying24 rfl inf24 rfl rfl)) rfl SelMC.sel SubRC.sub
end Go.Proofs.Ytoggggnlponfhaa


namespace Go.Proofs.Ytoggggnlponfhaa
open Go.G Burst8
set_option maxRecDepth 1000000
attribute [local irreducible] G.ParO G.Fin
attribute [local irreducible] fw fwR fwC emptyT tabOf knownT canB boundsL
theorem splice_mid : ∀ (us v p r : List Value), us.length = v.length → splice (p ++ (v ++ r)) p.length us = p ++ (us ++ r)
  | [], v, p, r, h => by
    have : v = [] := List.length_eq_zero_iff.1 h.symm
    subst this; rfl
  | u :: us, [], p, r, h => by simp at h
  | u :: us, x :: v, p, r, h => by
    show splice ((p ++ (x :: v ++ r)).set p.length u) (p.length + 1) us = _
    rw [List.set_append_right _ _ (Nat.le_refl _), Nat.sub_self, List.cons_append, List.set_cons_zero]
    have := splice_mid us v (p ++ [u]) r (by simpa using h)
    rw [List.length_append, List.length_singleton] at this
    simpa using this
theorem flat_split {α : Type} [Inhabited α] {enc : α → List Value} {xs : List α} {i : Nat} (hi : i < xs.length) : xs.flatMap enc = (xs.take i).flatMap enc ++ (enc (xs.getD i default) ++ (xs.drop (i + 1)).flatMap enc) := by
  conv => lhs; rw [← List.take_append_drop i xs, List.drop_eq_getElem_cons hi]
  rw [List.flatMap_append, List.flatMap_cons]
  simp [List.getD_eq_getElem?_getD, hi]
theorem flat_pre {α : Type} {enc : α → List Value} {sz : Nat} (henc : ∀ x, (enc x).length = sz) {xs : List α} {i : Nat} (hi : i < xs.length) : ((xs.take i).flatMap enc).length = i * sz := by
  rw [flat_len henc, List.length_take, Nat.min_eq_left (by omega)]
theorem flat_row {α : Type} [Inhabited α] {enc : α → List Value} {sz : Nat} (henc : ∀ x, (enc x).length = sz) {sp : List Value} {xs : List α} {i : Nat} (hi : i < xs.length) : ((xs.flatMap enc ++ sp).drop (i * sz)).take sz = enc (xs.getD i default) := by
  rw [flat_split hi, List.append_assoc, List.drop_left' (flat_pre henc hi), List.append_assoc, List.take_left' (henc _)]
theorem flat_put {α : Type} [Inhabited α] {enc : α → List Value} {sz : Nat} (henc : ∀ x, (enc x).length = sz) {sp : List Value} {xs : List α} {i : Nat} (hi : i < xs.length) (y : α) : splice (xs.flatMap enc ++ sp) (i * sz) (enc y) = (xs.set i y).flatMap enc ++ sp := by
  rw [flat_split hi, ← flat_pre henc hi, List.append_assoc, List.append_assoc, splice_mid _ _ _ _ (by rw [henc, henc])]
  rw [flat_split (xs := xs.set i y) (i := i) (by rw [List.length_set]; exact hi), set_at hi, if_pos rfl, List.append_assoc, List.append_assoc]
  congr 2
  · rw [List.take_set_of_le (Nat.le_refl _)]
  · rw [List.drop_set_of_lt (by omega)]
theorem v_indexAddrBi {P : Program} {W : World} {n : Nat} {L : Tm} {M : List Res} {R : List Fact} {o : Oper} {T : TypeId} {x ix : Operand} {l c b : Nat} {e : TypeId} {i : TypeInfo} {k : Int} {kd : IntKind} (ho : o.op = .indexAddr T x ix) (hT : P.underlying T = some (.slice e)) (hi : P.info? e = some i)
    (hx : ev L x = some (.slice (some ⟨b, 0, none⟩) l c)) (hk : ev L ix = some (.int kd k)) (h0 : 0 ≤ k) (h1 : k < l) : OpQ P W n L M R o (pt b (k.toNat * i.size)) :=
  v_indexAddrB ho hT hi hx (by rw [hk]; congr; omega) (by omega)
section
variable {B : Bog} {m : Nat} {w : List Int} {k : Nat} {l : List Burst8.Span}
theorem fit_n (h : fitTo B m w k = some l) (ht : ¬ m.testBit k = true) : fitTo B m w (k + 1) = some l := by simp only [fitTo, h, Option.bind_some, if_neg ht]
theorem fit_2 (h : fitTo B m w k = some l) (h2 : (B.signs.getD k default).kind = 2) (hx : ¬ w.getD (B.signs.getD k default).day.toNat default < 15) : fitTo B m w (k + 1) = some l := by
  simp only [fitTo, h, Option.bind_some, sgn1, if_pos h2, if_neg hx, ite_self]
theorem fit_s (h : fitTo B m w k = some l) (ht : m.testBit k = true) (h2 : ¬ (B.signs.getD k default).kind = 2) : fitTo B m w (k + 1) = some (l.set (B.signs.getD k default).bank.toNat (sgS (B.signs.getD k default) (w.getD (B.signs.getD k default).day.toNat default) (l.getD (B.signs.getD k default).bank.toNat default))) := by
  simp only [fitTo, h, Option.bind_some, sgn1, if_neg h2, if_pos ht]
theorem fit_up : ∀ j, fitTo B m w k = none → fitTo B m w (k + j) = none
  | 0, h => h
  | j + 1, h => by
    show (fitTo B m w (k + j)).bind _ = none
    rw [fit_up j h]; rfl
theorem fit_x (h : fitTo B m w k = some l) (hk : k < B.signs.length) (ht : m.testBit k = true) (h2 : (B.signs.getD k default).kind = 2) (hx : w.getD (B.signs.getD k default).day.toNat default < 15) : fitB B m w = none := by
  have h1 : fitTo B m w (k + 1) = none := by simp only [fitTo, h, Option.bind_some, sgn1, if_pos h2, if_pos ht, if_pos hx]
  have := fit_up (B.signs.length - (k + 1)) h1
  rw [show k + 1 + (B.signs.length - (k + 1)) = B.signs.length from by omega] at this
  show (fitTo B m w B.signs.length).bind _ = none
  rw [this]; rfl
theorem fit_y (h : fitTo B m w B.signs.length = some l) (hw : Whole l) : fitB B m w = some l := by
  show (fitTo B m w B.signs.length).bind _ = _
  rw [h, Option.bind_some, if_pos hw]
theorem fit_z (h : fitTo B m w B.signs.length = some l) {i : Nat} (hi : i < l.length) (hx : (l.getD i default).hi < (l.getD i default).lo) : fitB B m w = none := by
  show (fitTo B m w B.signs.length).bind _ = _
  rw [h, Option.bind_some, if_neg (fun hw => by have := hw i hi; omega)]
/-- All that a bank bears is far from the greatest numbers. -/
abbrev Mild (l : List Burst8.Span) : Prop := ∀ i, i < l.length → (-2000 ≤ (l.getD i default).lo ∧ (l.getD i default).lo ≤ 2000) ∧ -2000 ≤ (l.getD i default).hi ∧ (l.getD i default).hi ≤ 2000
abbrev MildW (w : List Int) : Prop := ∀ d, d < w.length → -1000 ≤ w.getD d default ∧ w.getD d default ≤ 1000
theorem mild_bear (hg : GoodB B) : Mild (bearTo B B.banks.length) := fun i hi => by
  rw [bearTo_len] at hi
  rw [bearTo_at hi]
  obtain ⟨h1, h2⟩ := hg.banks i hi
  unfold bear1
  dsimp only
  omega
theorem mild_set (hw : MildW w) (hl : Mild l) {s : Sign} (hs : s.day.toNat < w.length) (hb : s.bank.toNat < l.length) : Mild (l.set s.bank.toNat (sgS s (w.getD s.day.toNat default) (l.getD s.bank.toNat default))) := fun i hi => by
  rw [List.length_set] at hi
  rw [set_at hb]
  have h1 := hl i hi
  by_cases e : i = s.bank.toNat
  · rw [if_pos e]
    have h2 := hw _ hs
    rw [e] at h1
    unfold sgS
    dsimp only
    omega
  · rw [if_neg e]; exact h1
theorem fitTo_mild (hg : GoodB B) (hw : MildW w) (hwl : w.length = B.rain.length + 1) : ∀ (n : Nat) (l : List Burst8.Span), n ≤ B.signs.length → fitTo B m w n = some l → Mild l
  | 0, l, _, h => by cases h; exact mild_bear hg
  | n + 1, l, hn, h => by
    have h' : (fitTo B m w n).bind (fun l => if m.testBit n then sgn1 (B.signs.getD n default) w l else some l) = some l := h
    obtain ⟨l0, h0, h1⟩ := Option.bind_eq_some_iff.1 h'
    have h3 := fitTo_mild hg hw hwl n l0 (by omega) h0
    have h4 := (fitTo_some hg n l0 (by omega) h0).1
    split at h1
    · have hs := hg.signs n (by omega)
      unfold SignOk at hs
      unfold sgn1 at h1
      split at h1
      · split at h1
        · cases h1
        · cases h1; exact h3
      · cases h1
        exact mild_set hw h3 (by omega) (by omega)
    · cases h1; exact h3
theorem sg_5 {s : Sign} {x : Int} {b : Burst8.Span} (h : s.kind = 1) : [i64 (max b.lo x), i64 (min b.hi (x + 5))] = encS (sgS s x b) := by unfold sgS; rw [if_pos h]; rfl
theorem sg_10 {s : Sign} {x : Int} {b : Burst8.Span} (h : ¬ s.kind = 1) : [i64 (max b.lo x), i64 (min b.hi (x + 10))] = encS (sgS s x b) := by unfold sgS; rw [if_neg h]; rfl
end
variable (B : Bog) (bo ro so : Option Addr) (bc rc sc : Nat) (bb mb : Nat)
attribute [local irreducible] leastU setB pop
set_option maxHeartbeats 4000000 in
theorem fits_s (hg : GoodB B) (m : Nat) (hm : m < 64) (w : List Int) (wo : Option Addr) (wc : Nat) (hwl : w.length = B.rain.length + 1) (hwb : MildW w) : FnS Try.prog 98 [valB B bo ro so bc rc sc, i64 (m : Nat), .slice wo w.length wc] [] [rowD bo 4 encB B.banks, rowD ro 2 encS B.rain, rowD so 3 encG B.signs, rowD wo 1 encI w] (fun e M' R' => ∃ x : Option Addr × Nat, e = .returned (.tuple #[.slice x.1 ((fitB B m w).getD []).length x.2, .bool (fitB B m w).isSome]) ∧ M' = [] ∧ R' = [rowD x.1 2 encS ((fitB B m w).getD [])]) := by
  have hb1 := hg.nb
  have hb2 := hg.nr
  have hb3 := hg.ns
  refine FnS.intro0 Try.call98 Try.func98 rfl Try.ntmps98 rfl ?_
  intro W M Rf
  refine r_seq ?_
  refine r_region ?_
  refine o_boxA rfl rfl rfl rfl rfl (fun b3 => ?_)
  refine o_q _ rfl rfl rfl (v_assign rfl rfl) ?_
  refine o_q _ rfl rfl rfl (v_assign rfl rfl) ?_
  refine o_nil ?_
  with_reducible refine r_then ?_
  refine r_seq ?_
  refine r_region ?_
  refine o_q _ rfl rfl rfl (v_assign rfl rfl) ?_
  refine o_nil ?_
  with_reducible refine r_then ?_
  refine r_seq ?_
  refine r_seq ?_
  refine r_region ?_
  refine o_q _ rfl rfl rfl (v_assign rfl rfl) ?_
  refine o_nil ?_
  with_reducible refine r_then ?_
  refine r_block ?_
  refine r_loop (ι := Nat × Value) (fun gh => gh.1 ≤ B.banks.length) (fun gh => [(1, i64 (m : Nat)), (2, .slice wo w.length wc), (3, pt b3 0), (8, gh.2), (9, i64 gh.1)]) (fun gh => ownL gh.2 24 2 encS (bearTo B gh.1) :: bx b3 28 (cellsB B bo ro so bc rc sc) :: M) (fun gh => [rowD bo 4 encB B.banks, rowD ro 2 encS B.rain, rowD so 3 encG B.signs, rowD wo 1 encI w] ++ Rf) (fun gh => B.banks.length - gh.1) (0, .slice none 0 0) ?_ ?_ ?_
  ·
    refine Imp.nilL 24 2 encS ?_
    refine Imp.own_to (.slice none 0 0) (bearTo B 0) rfl ?_
    exact r_here (by repeat (first | exact FSub.nil | refine FSub.cons rfl ?_)) SelMC.sel SubRC.sub
  ·
    exact Nat.zero_le _
  ·
    rintro ⟨k, v⟩ hI0
    dsimp only at hI0
    dsimp only
    have hI : k ≤ B.banks.length := hI0
    have hlk := bearTo_len B k
    refine r_seq ?_
    refine r_seq ?_
    refine r_region ?_
    refine o_q _ rfl rfl rfl (v_move rfl rfl) ?_
    refine o_q _ rfl rfl rfl (v_fieldAddr rfl Try.underlying28 inf22 rfl rfl rfl rfl) ?_
    refine o_q _ rfl rfl rfl (v_ld1 rfl Try.underlying22 rfl rfl rfl) ?_
    refine o_q _ rfl rfl rfl (v_len rfl rfl Try.underlying22 rfl) ?_
    refine o_q _ rfl rfl rfl (v_lss rfl rfl rfl) ?_
    refine o_nil ?_
    with_reducible refine r_then ?_
    refine r_condd rfl (fun hc19 => ?_) (fun hc19 => ?_)
    ·
      refine r_skip ?_
      with_reducible refine r_then ?_
      refine r_seq ?_
      refine r_block ?_
      refine r_region ?_
      refine o_q _ rfl rfl rfl (v_move rfl rfl) ?_
      refine o_q _ rfl rfl rfl (v_ldW rfl Try.underlying28 rfl inf28 rfl rfl) ?_
      refine o_q _ rfl rfl rfl (v_move rfl rfl) ?_
      refine o_q _ rfl rfl rfl (OpQ.fn (Bears_v B bo ro so bc rc sc hg k (by omega)) rfl rfl SubRC.sub) ?_
      refine o_lit rfl Try.underlying25 inf24 rfl rfl rfl rfl rfl rfl rfl rfl (by repeat (first | exact trivial | refine ⟨rfl, ?_⟩)) (by rfl) (fun b26 => ?_)
      refine o_app1 ((bear1 B k)) rfl Try.underlying25 inf24 rfl (by rfl) (by rfl) rfl rfl rfl rfl rfl (by rfl) (by rfl) (by rfl) (by first | omega | (constructor <;> first | omega | decide)) (fun v27 => ?_)
      refine Imp.own_is v27 (fun hs => ?_)
      obtain ⟨oan, cpn, rfl⟩ := hs
      refine o_q _ rfl rfl rfl (v_assign rfl rfl) ?_
      refine o_nil ?_
      with_reducible refine r_in_normal ?_; refine r_then ?_
      refine r_region ?_
      refine o_q _ rfl rfl rfl (v_move rfl rfl) ?_
      refine o_q _ rfl rfl rfl (v_add rfl rfl rfl (by omega)) ?_
      refine o_q _ rfl rfl rfl (v_assign rfl rfl) ?_
      refine o_nil ?_
      with_reducible refine r_then ?_
      exact r_next ((k + 1, .slice oan (bearTo B k ++ [bear1 B k]).length cpn)) (by refine Imp.own_to (.slice oan (bearTo B k ++ [bear1 B k]).length cpn) (bearTo B (k + 1)) (bearTo_s B k) ?_; exact r_here (by repeat (first | exact FSub.nil | refine FSub.cons rfl ?_)) SelMC.sel SubRC.sub) (by first | omega | (show _ + 1 ≤ _; omega)) (by first | omega | (show _ - (_ + 1) < _ - _; omega))
    ·
      refine r_exit ?_
      with_reducible refine r_then_exit ?_; refine r_then_exit ?_; refine r_in_here ?_; refine r_then ?_
      refine r_seq ?_
      refine r_seq ?_
      obtain rfl : k = B.banks.length := by omega
      refine Imp.openL (T := 24) (sz := 2) (enc := encS) (xs := bearTo B B.banks.length) v (by rw [bearTo_len]; omega) (fun xb xcap xsp hv => ?_)
      rw [bearTo_len] at hv
      subst hv
      refine r_region ?_
      refine o_q _ rfl rfl rfl (v_assign rfl rfl) ?_
      refine o_nil ?_
      with_reducible refine r_then ?_
      refine r_block ?_
      refine r_loop (ι := Nat × List Burst8.Span) (fun gh => gh.1 ≤ B.signs.length ∧ fitTo B m w gh.1 = some gh.2) (fun gh => [(1, i64 (m : Nat)), (2, .slice wo w.length wc), (3, pt b3 0), (8, .slice (some ⟨xb, 0, none⟩) B.banks.length xcap), (10, i64 gh.1)]) (fun gh => bx xb 24 (gh.2.flatMap encS ++ xsp) :: bx b3 28 (cellsB B bo ro so bc rc sc) :: M) (fun gh => [rowD bo 4 encB B.banks, rowD ro 2 encS B.rain, rowD so 3 encG B.signs, rowD wo 1 encI w] ++ Rf) (fun gh => B.signs.length - gh.1) (0, bearTo B B.banks.length) ?_ ?_ ?_
      ·
        exact r_here (by repeat (first | exact FSub.nil | refine FSub.cons rfl ?_)) SelMC.sel SubRC.sub
      ·
        exact ⟨Nat.zero_le _, rfl⟩
      ·
        rintro ⟨k, l⟩ hI1
        dsimp only at hI1
        dsimp only
        have hIk := hI1.1
        refine r_seq ?_
        refine r_seq ?_
        refine r_region ?_
        refine o_q _ rfl rfl rfl (v_move rfl rfl) ?_
        refine o_q _ rfl rfl rfl (v_fieldAddr rfl Try.underlying28 inf26 rfl rfl rfl rfl) ?_
        refine o_q _ rfl rfl rfl (v_ld1 rfl Try.underlying26 rfl rfl rfl) ?_
        refine o_q _ rfl rfl rfl (v_len rfl rfl Try.underlying26 rfl) ?_
        refine o_q _ rfl rfl rfl (v_lss rfl rfl rfl) ?_
        refine o_nil ?_
        with_reducible refine r_then ?_
        refine r_condd rfl (fun hc32 => ?_) (fun hc32 => ?_)
        ·
          refine r_skip ?_
          with_reducible refine r_then ?_
          refine r_seq ?_
          refine r_block ?_
          refine r_seq ?_
          have hll := (fitTo_some hg _ _ hI1.1 hI1.2).1
          have hmi := fitTo_mild hg hwb hwl _ _ hI1.1 hI1.2
          refine r_region ?_
          refine o_q _ rfl rfl rfl (v_fieldAddr rfl Try.underlying28 inf26 rfl rfl rfl rfl) ?_
          refine o_q _ rfl rfl rfl (v_ld1 rfl Try.underlying26 rfl rfl rfl) ?_
          refine o_q _ rfl rfl rfl (v_move rfl rfl) ?_
          refine o_q _ rfl rfl rfl (v_indexAddrSn rfl Try.underlying26 inf55 rfl rfl rfl (by omega) rfl) ?_
          refine o_q _ rfl rfl rfl (v_loadEN rfl Try.underlying55 rfl inf55 rfl (by omega) rfl rfl rfl) ?_
          refine o_alloc rfl inf55 rfl rfl rfl rfl rfl (fun b11 => ?_)
          refine o_st rfl inf55 rfl rfl rfl rfl rfl rfl rfl rfl ?_
          refine o_nil ?_
          with_reducible refine r_then ?_
          refine r_seq ?_
          refine r_seq ?_
          refine r_region ?_
          refine o_q _ rfl rfl rfl (v_move rfl rfl) ?_
          refine o_q _ rfl rfl rfl (v_move rfl rfl) ?_
          refine o_test rfl rfl rfl (v_cast (v := .bool (decide (m.testBit k = true))) (OpQ.fn (Has_v m k (by omega) hm) rfl rfl SubRC.sub) (congrArg Value.bool (by cases m.testBit k <;> rfl))) (fun h42 => ?_) (fun h42 => ?_)
          all_goals
            refine o_q _ rfl rfl rfl (v_not rfl rfl) ?_
            refine o_nil ?_
            with_reducible refine r_then ?_
            refine r_cond rfl (fun hc43 => ?_) (fun hc43 => ?_)
            ·
              first
              | (exfalso; revert hc43; decide)
              | skip
                refine r_exit ?_
                with_reducible refine r_then_exit ?_; refine r_in_here ?_; refine r_then ?_
                refine r_region ?_
                refine o_q _ rfl rfl rfl (v_move rfl rfl) ?_
                refine o_q _ rfl rfl rfl (v_add rfl rfl rfl (by omega)) ?_
                refine o_q _ rfl rfl rfl (v_assign rfl rfl) ?_
                refine o_nil ?_
                with_reducible refine r_then ?_
                exact r_next ((k + 1, l)) (by exact r_here (by repeat (first | exact FSub.nil | refine FSub.cons rfl ?_)) SelMC.sel SubRC.sub) (by first | exact ⟨by show k + 1 ≤ _; omega, fit_n hI1.2 (by assumption)⟩ | exact ⟨by show k + 1 ≤ _; omega, fit_2 hI1.2 (by assumption) (by assumption)⟩) (by show _ - (k + 1) < _ - k; omega)
            ·
              first
              | (exfalso; revert hc43; decide)
              | skip
                refine r_skip ?_
                with_reducible refine r_then ?_
                refine r_seq ?_
                refine r_seq ?_
                have hsg : SignOk B (B.signs.getD k default) := hg.signs k (by omega)
                unfold SignOk at hsg
                have hwd := hwb (B.signs.getD k default).day.toNat (by omega)
                refine r_region ?_
                refine o_q _ rfl rfl rfl (v_fieldAddr rfl Try.underlying55 inf3 rfl rfl rfl rfl) ?_
                refine o_q _ rfl rfl rfl (v_ld1 rfl Try.underlying3 rfl rfl rfl) ?_
                refine o_q _ rfl rfl rfl (v_eql rfl rfl rfl) ?_
                refine o_nil ?_
                with_reducible refine r_then ?_
                refine r_condd rfl (fun hc46 => ?_) (fun hc46 => ?_)
                ·
                  refine r_seq ?_
                  refine r_seq ?_
                  refine r_region ?_
                  refine o_q _ rfl rfl rfl (v_move rfl rfl) ?_
                  refine o_q _ rfl rfl rfl (v_fieldAddr rfl Try.underlying55 inf3 rfl rfl rfl rfl) ?_
                  refine o_q _ rfl rfl rfl (v_ld1 rfl Try.underlying3 rfl rfl rfl) ?_
                  refine o_q _ rfl rfl rfl (v_indexAddrS rfl Try.underlying43 inf3 rfl rfl rfl (by omega) (by omega) rfl) ?_
                  refine o_q _ rfl rfl rfl (v_loadE1 rfl Try.underlying3 rfl rfl (by omega) rfl rfl) ?_
                  refine o_q _ rfl rfl rfl (v_lss rfl rfl rfl) ?_
                  refine o_nil ?_
                  with_reducible refine r_then ?_
                  refine r_condd rfl (fun hc52 => ?_) (fun hc52 => ?_)
                  ·
                    refine r_seq ?_
                    refine r_region ?_
                    refine o_q _ rfl rfl rfl (v_assign rfl rfl) ?_
                    refine o_q _ rfl rfl rfl (v_assign rfl rfl) ?_
                    refine o_nil ?_
                    with_reducible refine r_then ?_
                    refine r_ret ?_
                    with_reducible refine r_then_ret ?_; refine r_then_ret ?_; refine r_in_ret ?_; refine r_then_ret ?_; refine r_then_ret ?_; refine r_in_ret ?_; refine r_then_ret ?_
                    (have hfn := fit_x hI1.2 (by omega) (by assumption) (by assumption) (by assumption); refine Imp.derive (ψ := rowD none 2 encS ([] : List Burst8.Span)) ?_ (fun V _ => .inl rfl); exact r_rete [] [rowD none 2 encS ([] : List Burst8.Span)] (Rd.two rfl (RdI.tmp rfl) (RdI.tmp rfl)) ⟨(none, 0), by rw [hfn]; rfl, rfl, by rw [hfn]; rfl⟩ SelMC.sel (SubR.append SubRC.sub SubRC.sub))
                  ·
                    refine r_skip ?_
                    with_reducible refine r_then ?_
                    refine r_exit ?_
                    with_reducible refine r_then_exit ?_; refine r_in_here ?_; refine r_then ?_
                    refine r_region ?_
                    refine o_q _ rfl rfl rfl (v_move rfl rfl) ?_
                    refine o_q _ rfl rfl rfl (v_add rfl rfl rfl (by omega)) ?_
                    refine o_q _ rfl rfl rfl (v_assign rfl rfl) ?_
                    refine o_nil ?_
                    with_reducible refine r_then ?_
                    exact r_next ((k + 1, l)) (by exact r_here (by repeat (first | exact FSub.nil | refine FSub.cons rfl ?_)) SelMC.sel SubRC.sub) (by first | exact ⟨by show k + 1 ≤ _; omega, fit_n hI1.2 (by assumption)⟩ | exact ⟨by show k + 1 ≤ _; omega, fit_2 hI1.2 (by assumption) (by assumption)⟩) (by show _ - (k + 1) < _ - k; omega)
                ·
                  refine r_skip ?_
                  with_reducible refine r_then ?_
                  refine r_seq ?_
                  have hmb := hmi (B.signs.getD k default).bank.toNat (by omega)
                  refine r_region ?_
                  refine o_q _ rfl rfl rfl (v_assign rfl rfl) ?_
                  refine o_nil ?_
                  with_reducible refine r_then ?_
                  refine r_seq ?_
                  refine r_seq ?_
                  refine r_region ?_
                  refine o_q _ rfl rfl rfl (v_fieldAddr rfl Try.underlying55 inf3 rfl rfl rfl rfl) ?_
                  refine o_q _ rfl rfl rfl (v_ld1 rfl Try.underlying3 rfl rfl rfl) ?_
                  refine o_q _ rfl rfl rfl (v_eql rfl rfl rfl) ?_
                  refine o_nil ?_
                  with_reducible refine r_then ?_
                  refine r_condd rfl (fun hc55 => ?_) (fun hc55 => ?_)
                  ·
                    refine r_region ?_
                    refine o_q _ rfl rfl rfl (v_assign rfl rfl) ?_
                    refine o_nil ?_
                    with_reducible refine r_then ?_
                    refine r_seq ?_
                    refine r_region ?_
                    refine o_q _ rfl rfl rfl (v_move rfl rfl) ?_
                    refine o_q _ rfl rfl rfl (v_fieldAddr rfl Try.underlying55 inf3 rfl rfl rfl rfl) ?_
                    refine o_q _ rfl rfl rfl (v_ld1 rfl Try.underlying3 rfl rfl rfl) ?_
                    refine o_q _ rfl rfl rfl (v_indexAddrBi rfl Try.underlying25 inf24 rfl rfl (by omega) (by omega)) ?_
                    refine o_q _ rfl rfl rfl (v_ldN (us := [i64 (l.getD (B.signs.getD k default).bank.toNat default).lo, i64 (l.getD (B.signs.getD k default).bank.toNat default).hi]) rfl Try.underlying24 rfl inf24 rfl (flat_row encS_len (by omega)) rfl) ?_
                    refine o_alloc rfl inf24 rfl rfl rfl rfl rfl (fun b13 => ?_)
                    refine o_st rfl inf24 rfl rfl rfl rfl rfl rfl rfl rfl ?_
                    refine o_nil ?_
                    with_reducible refine r_then ?_
                    refine r_par' 22 mixed (by kernel_rfl) (by rfl) ?_
                    refine p_q _ rfl rfl rfl (fun _ _ => v_move rfl rfl) ?_
                    refine p_q _ rfl rfl rfl (fun _ _ => v_fieldAddr rfl Try.underlying55 inf3 rfl rfl rfl rfl) ?_
                    refine p_q _ rfl rfl rfl (fun _ _ => v_ld1 rfl Try.underlying3 rfl rfl rfl) ?_
                    refine p_q _ rfl rfl rfl (fun _ _ => v_fieldAddr rfl Try.underlying24 inf3 rfl rfl rfl rfl) ?_
                    refine p_q _ rfl rfl rfl (fun _ _ => v_ld1 rfl Try.underlying3 rfl rfl rfl) ?_
                    refine p_q _ rfl rfl rfl (fun _ _ => v_move rfl rfl) ?_
                    refine p_q _ rfl rfl rfl (fun _ _ => v_fieldAddr rfl Try.underlying55 inf3 rfl rfl rfl rfl) ?_
                    refine p_q _ rfl rfl rfl (fun _ _ => v_ld1 rfl Try.underlying3 rfl rfl rfl) ?_
                    refine p_q _ rfl rfl rfl (fun _ _ => v_indexAddrS rfl Try.underlying43 inf3 rfl rfl rfl (by omega) (by omega) rfl) ?_
                    refine p_q _ rfl rfl rfl (fun _ _ => v_loadE1 rfl Try.underlying3 rfl rfl (by omega) rfl rfl) ?_
                    refine p_q _ rfl rfl rfl (fun _ _ => v_max2 rfl rfl rfl) ?_
                    refine p_q _ rfl rfl rfl (fun _ _ => v_fieldAddr rfl Try.underlying24 inf3 rfl rfl rfl rfl) ?_
                    refine p_q _ rfl rfl rfl (fun _ _ => v_ld1 rfl Try.underlying3 rfl rfl rfl) ?_
                    refine p_q _ rfl rfl rfl (fun _ _ => v_move rfl rfl) ?_
                    refine p_q _ rfl rfl rfl (fun _ _ => v_fieldAddr rfl Try.underlying55 inf3 rfl rfl rfl rfl) ?_
                    refine p_q _ rfl rfl rfl (fun _ _ => v_ld1 rfl Try.underlying3 rfl rfl rfl) ?_
                    refine p_q _ rfl rfl rfl (fun _ _ => v_indexAddrS rfl Try.underlying43 inf3 rfl rfl rfl (by omega) (by omega) rfl) ?_
                    refine p_q _ rfl rfl rfl (fun _ _ => v_loadE1 rfl Try.underlying3 rfl rfl (by omega) rfl rfl) ?_
                    refine p_q _ rfl rfl rfl (fun _ _ => v_move rfl rfl) ?_
                    refine p_q _ rfl rfl rfl (fun _ _ => v_add rfl rfl rfl (by omega)) ?_
                    refine p_q _ rfl rfl rfl (fun _ _ => v_min2 rfl rfl rfl) ?_
                    refine p_q _ rfl rfl rfl (fun _ _ => v_bS rfl Try.underlying24 inf24 plt24 rfl rfl rfl (by repeat (first | exact trivial | refine ⟨rfl, ?_⟩)) (by rfl)) ?_
                    refine p_nil2 (by simp only [List.nil_append, List.cons_append]; rfl) rfl ?_
                    refine f_q rfl ?_
                    refine f_q rfl ?_
                    refine f_q rfl ?_
                    refine f_q rfl ?_
                    refine f_q rfl ?_
                    refine f_q rfl ?_
                    refine f_q rfl ?_
                    refine f_q rfl ?_
                    refine f_q rfl ?_
                    refine f_q rfl ?_
                    refine f_q rfl ?_
                    refine f_q rfl ?_
                    refine f_q rfl ?_
                    refine f_q rfl ?_
                    refine f_q rfl ?_
                    refine f_q rfl ?_
                    refine f_q rfl ?_
                    refine f_q rfl ?_
                    refine f_q rfl ?_
                    refine f_q rfl ?_
                    refine f_q rfl ?_
                    refine f_q rfl ?_
                    refine f_nil ?_
                    refine o_q _ rfl rfl rfl (v_indexAddrBi rfl Try.underlying25 inf24 rfl rfl (by omega) (by omega)) ?_
                    refine o_st rfl inf24 rfl rfl rfl rfl rfl rfl rfl (Nat.ble_eq_true_of_le (by rw [List.length_append, flat_len encS_len]; show (B.signs.getD k default).bank.toNat * 2 + 2 ≤ _; omega)) ?_
                    refine o_nil ?_
                    with_reducible refine r_in_normal ?_; refine r_then ?_
                    refine r_region ?_
                    refine o_q _ rfl rfl rfl (v_move rfl rfl) ?_
                    refine o_q _ rfl rfl rfl (v_add rfl rfl rfl (by omega)) ?_
                    refine o_q _ rfl rfl rfl (v_assign rfl rfl) ?_
                    refine o_nil ?_
                    with_reducible refine r_then ?_
                    exact r_next ((k + 1, (l.set (B.signs.getD k default).bank.toNat (sgS (B.signs.getD k default) (w.getD (B.signs.getD k default).day.toNat default) (l.getD (B.signs.getD k default).bank.toNat default))))) (by refine Imp.box_to xb ((l.set (B.signs.getD k default).bank.toNat (sgS (B.signs.getD k default) (w.getD (B.signs.getD k default).day.toNat default) (l.getD (B.signs.getD k default).bank.toNat default))).flatMap encS ++ xsp) (by first | exact (congrArg (splice (l.flatMap encS ++ xsp) ((B.signs.getD k default).bank.toNat * 2)) (sg_5 (by assumption))).trans (flat_put encS_len (by omega) _) | exact (congrArg (splice (l.flatMap encS ++ xsp) ((B.signs.getD k default).bank.toNat * 2)) (sg_10 (by assumption))).trans (flat_put encS_len (by omega) _)) ?_; exact r_here (by repeat (first | exact FSub.nil | refine FSub.cons rfl ?_)) SelMC.sel SubRC.sub) (by exact ⟨by show k + 1 ≤ _; omega, fit_s hI1.2 (by assumption) (by assumption)⟩) (by show _ - (k + 1) < _ - k; omega)
                  ·
                    refine r_skip ?_
                    with_reducible refine r_then ?_
                    refine r_seq ?_
                    refine r_region ?_
                    refine o_q _ rfl rfl rfl (v_move rfl rfl) ?_
                    refine o_q _ rfl rfl rfl (v_fieldAddr rfl Try.underlying55 inf3 rfl rfl rfl rfl) ?_
                    refine o_q _ rfl rfl rfl (v_ld1 rfl Try.underlying3 rfl rfl rfl) ?_
                    refine o_q _ rfl rfl rfl (v_indexAddrBi rfl Try.underlying25 inf24 rfl rfl (by omega) (by omega)) ?_
                    refine o_q _ rfl rfl rfl (v_ldN (us := [i64 (l.getD (B.signs.getD k default).bank.toNat default).lo, i64 (l.getD (B.signs.getD k default).bank.toNat default).hi]) rfl Try.underlying24 rfl inf24 rfl (flat_row encS_len (by omega)) rfl) ?_
                    refine o_alloc rfl inf24 rfl rfl rfl rfl rfl (fun b13 => ?_)
                    refine o_st rfl inf24 rfl rfl rfl rfl rfl rfl rfl rfl ?_
                    refine o_nil ?_
                    with_reducible refine r_then ?_
                    refine r_par' 22 mixed (by kernel_rfl) (by rfl) ?_
                    refine p_q _ rfl rfl rfl (fun _ _ => v_move rfl rfl) ?_
                    refine p_q _ rfl rfl rfl (fun _ _ => v_fieldAddr rfl Try.underlying55 inf3 rfl rfl rfl rfl) ?_
                    refine p_q _ rfl rfl rfl (fun _ _ => v_ld1 rfl Try.underlying3 rfl rfl rfl) ?_
                    refine p_q _ rfl rfl rfl (fun _ _ => v_fieldAddr rfl Try.underlying24 inf3 rfl rfl rfl rfl) ?_
                    refine p_q _ rfl rfl rfl (fun _ _ => v_ld1 rfl Try.underlying3 rfl rfl rfl) ?_
                    refine p_q _ rfl rfl rfl (fun _ _ => v_move rfl rfl) ?_
                    refine p_q _ rfl rfl rfl (fun _ _ => v_fieldAddr rfl Try.underlying55 inf3 rfl rfl rfl rfl) ?_
                    refine p_q _ rfl rfl rfl (fun _ _ => v_ld1 rfl Try.underlying3 rfl rfl rfl) ?_
                    refine p_q _ rfl rfl rfl (fun _ _ => v_indexAddrS rfl Try.underlying43 inf3 rfl rfl rfl (by omega) (by omega) rfl) ?_
                    refine p_q _ rfl rfl rfl (fun _ _ => v_loadE1 rfl Try.underlying3 rfl rfl (by omega) rfl rfl) ?_
                    refine p_q _ rfl rfl rfl (fun _ _ => v_max2 rfl rfl rfl) ?_
                    refine p_q _ rfl rfl rfl (fun _ _ => v_fieldAddr rfl Try.underlying24 inf3 rfl rfl rfl rfl) ?_
                    refine p_q _ rfl rfl rfl (fun _ _ => v_ld1 rfl Try.underlying3 rfl rfl rfl) ?_
                    refine p_q _ rfl rfl rfl (fun _ _ => v_move rfl rfl) ?_
                    refine p_q _ rfl rfl rfl (fun _ _ => v_fieldAddr rfl Try.underlying55 inf3 rfl rfl rfl rfl) ?_
                    refine p_q _ rfl rfl rfl (fun _ _ => v_ld1 rfl Try.underlying3 rfl rfl rfl) ?_
                    refine p_q _ rfl rfl rfl (fun _ _ => v_indexAddrS rfl Try.underlying43 inf3 rfl rfl rfl (by omega) (by omega) rfl) ?_
                    refine p_q _ rfl rfl rfl (fun _ _ => v_loadE1 rfl Try.underlying3 rfl rfl (by omega) rfl rfl) ?_
                    refine p_q _ rfl rfl rfl (fun _ _ => v_move rfl rfl) ?_
                    refine p_q _ rfl rfl rfl (fun _ _ => v_add rfl rfl rfl (by omega)) ?_
                    refine p_q _ rfl rfl rfl (fun _ _ => v_min2 rfl rfl rfl) ?_
                    refine p_q _ rfl rfl rfl (fun _ _ => v_bS rfl Try.underlying24 inf24 plt24 rfl rfl rfl (by repeat (first | exact trivial | refine ⟨rfl, ?_⟩)) (by rfl)) ?_
                    refine p_nil2 (by simp only [List.nil_append, List.cons_append]; rfl) rfl ?_
                    refine f_q rfl ?_
                    refine f_q rfl ?_
                    refine f_q rfl ?_
                    refine f_q rfl ?_
                    refine f_q rfl ?_
                    refine f_q rfl ?_
                    refine f_q rfl ?_
                    refine f_q rfl ?_
                    refine f_q rfl ?_
                    refine f_q rfl ?_
                    refine f_q rfl ?_
                    refine f_q rfl ?_
                    refine f_q rfl ?_
                    refine f_q rfl ?_
                    refine f_q rfl ?_
                    refine f_q rfl ?_
                    refine f_q rfl ?_
                    refine f_q rfl ?_
                    refine f_q rfl ?_
                    refine f_q rfl ?_
                    refine f_q rfl ?_
                    refine f_q rfl ?_
                    refine f_nil ?_
                    refine o_q _ rfl rfl rfl (v_indexAddrBi rfl Try.underlying25 inf24 rfl rfl (by omega) (by omega)) ?_
                    refine o_st rfl inf24 rfl rfl rfl rfl rfl rfl rfl (Nat.ble_eq_true_of_le (by rw [List.length_append, flat_len encS_len]; show (B.signs.getD k default).bank.toNat * 2 + 2 ≤ _; omega)) ?_
                    refine o_nil ?_
                    with_reducible refine r_in_normal ?_; refine r_then ?_
                    refine r_region ?_
                    refine o_q _ rfl rfl rfl (v_move rfl rfl) ?_
                    refine o_q _ rfl rfl rfl (v_add rfl rfl rfl (by omega)) ?_
                    refine o_q _ rfl rfl rfl (v_assign rfl rfl) ?_
                    refine o_nil ?_
                    with_reducible refine r_then ?_
                    exact r_next ((k + 1, (l.set (B.signs.getD k default).bank.toNat (sgS (B.signs.getD k default) (w.getD (B.signs.getD k default).day.toNat default) (l.getD (B.signs.getD k default).bank.toNat default))))) (by refine Imp.box_to xb ((l.set (B.signs.getD k default).bank.toNat (sgS (B.signs.getD k default) (w.getD (B.signs.getD k default).day.toNat default) (l.getD (B.signs.getD k default).bank.toNat default))).flatMap encS ++ xsp) (by first | exact (congrArg (splice (l.flatMap encS ++ xsp) ((B.signs.getD k default).bank.toNat * 2)) (sg_5 (by assumption))).trans (flat_put encS_len (by omega) _) | exact (congrArg (splice (l.flatMap encS ++ xsp) ((B.signs.getD k default).bank.toNat * 2)) (sg_10 (by assumption))).trans (flat_put encS_len (by omega) _)) ?_; exact r_here (by repeat (first | exact FSub.nil | refine FSub.cons rfl ?_)) SelMC.sel SubRC.sub) (by exact ⟨by show k + 1 ≤ _; omega, fit_s hI1.2 (by assumption) (by assumption)⟩) (by show _ - (k + 1) < _ - k; omega)
        ·
          refine r_exit ?_
          with_reducible refine r_then_exit ?_; refine r_then_exit ?_; refine r_in_here ?_; refine r_then ?_
          refine r_seq ?_
          refine r_seq ?_
          obtain rfl : k = B.signs.length := by omega
          have hll := (fitTo_some hg _ _ hI1.1 hI1.2).1
          refine Imp.sealB xb ?_
          refine Imp.rowP (b := xb) l encS_len rfl ?_
          refine r_region ?_
          refine o_q _ rfl rfl rfl (v_assign rfl rfl) ?_
          refine o_nil ?_
          with_reducible refine r_then ?_
          refine r_block ?_
          refine r_loop (ι := Nat) (fun i => i ≤ l.length ∧ ∀ j, j < i → (l.getD j default).lo ≤ (l.getD j default).hi) (fun i => [(8, .slice (some ⟨xb, 0, none⟩) l.length xcap), (14, i64 i)]) (fun i => M) (fun i => rowD (some ⟨xb, 0, none⟩) 2 encS l :: ([rowD bo 4 encB B.banks, rowD ro 2 encS B.rain, rowD so 3 encG B.signs, rowD wo 1 encI w] ++ Rf)) (fun i => l.length - i) 0 ?_ ?_ ?_
          ·
            exact r_here (by repeat (first | exact FSub.nil | refine FSub.cons rfl ?_ | refine FSub.cons2 rfl (by rw [hll]) ?_)) SelMC.sel SubRC.sub
          ·
            exact ⟨Nat.zero_le _, fun j hj => absurd hj (by omega)⟩
          ·
            rintro i hI2
            have hIi := hI2.1
            refine r_seq ?_
            refine r_seq ?_
            refine r_region ?_
            refine o_q _ rfl rfl rfl (v_move rfl rfl) ?_
            refine o_q _ rfl rfl rfl (v_move rfl rfl) ?_
            refine o_q _ rfl rfl rfl (v_len rfl rfl Try.underlying25 rfl) ?_
            refine o_q _ rfl rfl rfl (v_lss rfl rfl rfl) ?_
            refine o_nil ?_
            with_reducible refine r_then ?_
            refine r_condd rfl (fun hc87 => ?_) (fun hc87 => ?_)
            ·
              refine r_skip ?_
              with_reducible refine r_then ?_
              refine r_seq ?_
              refine r_block ?_
              refine r_seq ?_
              refine r_region_q mixed (by kernel_rfl) ?_
              refine q_q _ rfl rfl rfl (v_move rfl rfl) ?_
              refine q_q _ rfl rfl rfl (v_move rfl rfl) ?_
              refine q_q _ rfl rfl rfl (v_indexAddrSn rfl Try.underlying25 inf24 rfl rfl rfl (by omega) rfl) ?_
              refine q_q _ rfl rfl rfl (v_fieldAddr rfl Try.underlying24 inf3 rfl rfl rfl rfl) ?_
              refine q_q _ rfl rfl rfl (v_loadE1 rfl Try.underlying3 rfl rfl (by omega) rfl rfl) ?_
              refine q_q _ rfl rfl rfl (v_move rfl rfl) ?_
              refine q_q _ rfl rfl rfl (v_move rfl rfl) ?_
              refine q_q _ rfl rfl rfl (v_indexAddrSn rfl Try.underlying25 inf24 rfl rfl rfl (by omega) rfl) ?_
              refine q_q _ rfl rfl rfl (v_fieldAddr rfl Try.underlying24 inf3 rfl rfl rfl rfl) ?_
              refine q_q _ rfl rfl rfl (v_loadE1 rfl Try.underlying3 rfl rfl (by omega) rfl rfl) ?_
              refine q_q _ rfl rfl rfl (v_gtr rfl rfl rfl) ?_
              refine q_nil ?_
              with_reducible refine r_then ?_
              refine r_condd rfl (fun hc100 => ?_) (fun hc100 => ?_)
              ·
                refine r_seq ?_
                refine r_region ?_
                refine o_q _ rfl rfl rfl (v_assign rfl rfl) ?_
                refine o_q _ rfl rfl rfl (v_assign rfl rfl) ?_
                refine o_nil ?_
                with_reducible refine r_then ?_
                refine r_ret ?_
                with_reducible refine r_in_ret ?_; refine r_then_ret ?_; refine r_then_ret ?_; refine r_in_ret ?_; refine r_then_ret ?_
                (have hfn := fit_z hI1.2 (i := i) (by omega) (by omega); refine Imp.derive (ψ := rowD none 2 encS ([] : List Burst8.Span)) ?_ (fun V _ => .inl rfl); exact r_rete [] [rowD none 2 encS ([] : List Burst8.Span)] (Rd.two rfl (RdI.tmp rfl) (RdI.tmp rfl)) ⟨(none, 0), by rw [hfn]; rfl, rfl, by rw [hfn]; rfl⟩ SelMC.sel (SubR.append SubRC.sub SubRC.sub))
              ·
                refine r_skip ?_
                with_reducible refine r_in_normal ?_; refine r_then ?_
                refine r_region ?_
                refine o_q _ rfl rfl rfl (v_move rfl rfl) ?_
                refine o_q _ rfl rfl rfl (v_add rfl rfl rfl (by omega)) ?_
                refine o_q _ rfl rfl rfl (v_assign rfl rfl) ?_
                refine o_nil ?_
                with_reducible refine r_then ?_
                refine r_next (i + 1) ?_ ?_ ?_
                ·
                  exact r_here (by repeat (first | exact FSub.nil | refine FSub.cons rfl ?_)) SelMC.sel SubRC.sub
                ·
                  exact ⟨by show i + 1 ≤ _; omega, all_step hI2.2 (by omega)⟩
                ·
                  omega
            ·
              refine r_exit ?_
              with_reducible refine r_then_exit ?_; refine r_then_exit ?_; refine r_in_here ?_; refine r_then ?_
              refine r_seq ?_
              refine r_region ?_
              refine o_q _ rfl rfl rfl (v_move rfl rfl) ?_
              refine o_q _ rfl rfl rfl (v_assign rfl rfl) ?_
              refine o_q _ rfl rfl rfl (v_assign rfl rfl) ?_
              refine o_nil ?_
              with_reducible refine r_then ?_
              refine r_ret ?_
              (have hfn := fit_y hI1.2 (fun j hj => hI2.2 j (by omega)); exact r_rete [] [rowD (some ⟨xb, 0, none⟩) 2 encS l] (Rd.two rfl (RdI.tmp rfl) (RdI.tmp rfl)) ⟨(some ⟨xb, 0, none⟩, xcap), by rw [hfn]; rfl, rfl, by rw [hfn]; rfl⟩ SelMC.sel (SubR.append SubRC.sub SubRC.sub))
end Go.Proofs.Ytoggggnlponfhaa


namespace Go.Proofs.Ytoggggnlponfhaa
open Go.G Burst8
set_option maxRecDepth 1000000
attribute [local irreducible] G.ParO G.Fin
attribute [local irreducible] fw fwR fwC emptyT tabOf knownT canB boundsL
theorem o_fnX {α : Type} {W : World} {n : Nat} {D : List Deferred} {L : Tm} {M M1 : List Res} {R : List Fact} {Q : Exit → Act → World → Prop} {o : Oper} {ops : Array Oper} {rest : List Oper} {k : FuncId} {args : List Value} {R0 : List Fact} {r : Res} {g : α → Value} {Pp : α → Prop} {Mr : α → Res} {Rr : α → List Fact} {xs : List Operand} {ts : Array TypeId} {d : Nat} [hM : DelC M r M1]
    (h : FnS Try.prog k args [r] R0 (fun e M' R' => ∃ x, e = .returned (g x) ∧ Pp x ∧ M' = [Mr x] ∧ R' = Rr x)) (ho : o.op = .call { callee := .value (.func k), args := xs.toArray, argTypes := ts })
    (hx : evs L xs = some args) (hg : o.guard = none) (hdst : o.dst = some d) (hd : Nat.blt d n = true) (hs : SubR R R0)
    (hret : ∀ x, Pp x → Imp W n D ((d, g x) :: L) (Mr x :: M1) (Rr x ++ R) (wpList Try.prog ops Q rest)) : Imp W n D L M R (wpList Try.prog ops Q (o :: rest)) := by
  refine o_call h ho [] [] rfl hx (by simp) hg (by simp [okD, hdst, hd]) (Mf := M1) ⟨[], by simpa using hM.del.perm⟩ hs ?_ ?_ ?_
  · rintro v M' R' ⟨x, he, hp, rfl, rfl⟩
    cases he
    rw [hdst]
    exact hret x hp
  · rintro c M' R' ⟨x, he, _⟩; cases he
  · rintro M' R' ⟨x, he, _⟩; cases he
theorem o_fnF {α : Type} {W : World} {n : Nat} {D : List Deferred} {L : Tm} {M : List Res} {R : List Fact} {Q : Exit → Act → World → Prop} {o : Oper} {ops : Array Oper} {rest : List Oper} {k : FuncId} {args : List Value} {R0 : List Fact} {g : α → Value} {Rr : α → List Fact} {xs : List Operand} {ts : Array TypeId} {d : Nat}
    (h : FnS Try.prog k args [] R0 (fun e M' R' => ∃ x, e = .returned (g x) ∧ M' = [] ∧ R' = Rr x)) (ho : o.op = .call { callee := .value (.func k), args := xs.toArray, argTypes := ts })
    (hx : evs L xs = some args) (hg : o.guard = none) (hdst : o.dst = some d) (hd : Nat.blt d n = true) (hs : SubR R R0)
    (hret : ∀ x, Imp W n D ((d, g x) :: L) M (Rr x ++ R) (wpList Try.prog ops Q rest)) : Imp W n D L M R (wpList Try.prog ops Q (o :: rest)) := by
  refine o_call h ho [] [] rfl hx (by simp) hg (by simp [okD, hdst, hd]) (Mf := M) SelM.refl hs ?_ ?_ ?_
  · rintro v M' R' ⟨x, he, rfl, rfl⟩
    cases he
    rw [hdst]
    exact hret x
  · rintro c M' R' ⟨x, he, _⟩; cases he
  · rintro M' R' ⟨x, he, _⟩; cases he
/-- Where a way lies. -/
structure TrV where
  wo : Option Addr
  wn : Nat
  wc : Nat
  ao : Option Addr
  an : Nat
  ac : Nat
  deriving Inhabited
def encT2 (x : TrV) : List Value := [.slice x.wo x.wn x.wc, .slice x.ao x.an x.ac]
theorem encT2_len (x : TrV) : (encT2 x).length = 2 := rfl
def RowsW (xs : List TrV) (LL : List Tr) : Prop := xs.length = LL.length ∧ ∀ h, h < xs.length → (xs.getD h default).wn = (LL.getD h default).1.length ∧ (xs.getD h default).an = (LL.getD h default).2.length
def waysF (xs : List TrV) (LL : List Tr) : Fact := fun V => ∀ h, h < xs.length → rowD (xs.getD h default).wo 1 encI (LL.getD h default).1 V ∧ rowD (xs.getD h default).ao 2 encS (LL.getD h default).2 V
theorem RowsW_nil : RowsW [] [] := ⟨rfl, fun _ h => absurd h (by simp)⟩
theorem waysF_nil {V : View} : waysF [] [] V := fun _ h => absurd h (by simp)
theorem at_l {α : Type} [Inhabited α] {l m : List α} {k : Nat} (h : k < l.length) : (l ++ m).getD k default = l.getD k default := by
  simp only [List.getD_eq_getElem?_getD]; rw [List.getElem?_append_left h]
theorem at_e {α : Type} [Inhabited α] {l : List α} {x : α} {k : Nat} (h : k = l.length) : (l ++ [x]).getD k default = x := by
  subst h; simp [List.getD_eq_getElem?_getD]
theorem RowsW_add {xs : List TrV} {LL : List Tr} {x : TrV} {t : Tr} (h : RowsW xs LL) (hx : x.wn = t.1.length ∧ x.an = t.2.length) : RowsW (xs ++ [x]) (LL ++ [t]) := by
  refine ⟨by simp [h.1], fun k hk => ?_⟩
  rw [List.length_append, List.length_singleton] at hk
  by_cases e : k = xs.length
  · rw [at_e e, at_e (by rw [e, h.1])]; exact hx
  · rw [at_l (by omega), at_l (by rw [← h.1]; omega)]; exact h.2 k (by omega)
theorem waysF_add {xs : List TrV} {LL : List Tr} {x : TrV} {t : Tr} {V : View} (hl : RowsW xs LL) (h : waysF xs LL V) (hx : rowD x.wo 1 encI t.1 V ∧ rowD x.ao 2 encS t.2 V) : waysF (xs ++ [x]) (LL ++ [t]) V := by
  intro k hk
  rw [List.length_append, List.length_singleton] at hk
  by_cases e : k = xs.length
  · rw [at_e e, at_e (by rw [e, hl.1])]; exact hx
  · rw [at_l (by omega), at_l (by rw [← hl.1]; omega)]; exact h k (by omega)
abbrev Near2 (w : List Int) : Prop := ∀ d, d < w.length → -40 - 20 * (d : Int) ≤ w.getD d default ∧ w.getD d default ≤ 40 + 20 * (d : Int)
theorem near_mild {w : List Int} (h : Near2 w) (hl : w.length ≤ 6) : MildW w := fun d hd => by have := h d hd; omega
theorem next_0 {B : Bog} {w : List Int} (h : w.length = 0) : nextS B w = ⟨B.wlo, B.whi⟩ := by unfold nextS; rw [if_pos h]
theorem next_p {B : Bog} {w : List Int} (h : w.length ≠ 0) : nextS B w = ⟨w.getD (w.length - 1) default + (B.rain.getD (w.length - 1) default).lo - B.drain, w.getD (w.length - 1) default + (B.rain.getD (w.length - 1) default).hi - B.drain⟩ := by unfold nextS; rw [if_neg h]
theorem next_bd {B : Bog} (hg : GoodB B) {w : List Int} (hw : Near2 w) (hl : w.length ≤ B.rain.length) : -40 - 20 * (w.length : Int) ≤ (nextS B w).lo ∧ (nextS B w).hi ≤ 40 + 20 * (w.length : Int) := by
  by_cases e : w.length = 0
  · rw [next_0 e]; have := hg.w; dsimp only; omega
  · rw [next_p e]
    have h1 := hw (w.length - 1) (by omega)
    have h2 := hg.rain (w.length - 1) (by omega)
    have h3 := hg.dr
    unfold RainOk at h2
    dsimp only
    omega
theorem near_snoc {w : List Int} {x : Int} (hw : Near2 w) (hx : -40 - 20 * (w.length : Int) ≤ x ∧ x ≤ 40 + 20 * (w.length : Int)) : Near2 (w ++ [x]) := fun d hd => by
  rw [List.length_append, List.length_singleton] at hd
  by_cases e : d = w.length
  · rw [at_e e, e]; exact hx
  · rw [at_l (by omega)]; exact hw d (by omega)
variable (B : Bog) (bo ro so : Option Addr) (bc rc sc : Nat) (bb mb : Nat)
attribute [local irreducible] leastU setB pop
theorem fits_n (hg : GoodB B) (m : Nat) (hm : m < 64) (w : List Int) (wo : Option Addr) (wc : Nat) (hwl : w.length = B.rain.length + 1) (hwb : MildW w) (hf : fitB B m w = none) : FnS Try.prog 98 [valB B bo ro so bc rc sc, i64 (m : Nat), .slice wo w.length wc] [] [rowD bo 4 encB B.banks, rowD ro 2 encS B.rain, rowD so 3 encG B.signs, rowD wo 1 encI w] (fun e M' R' => ∃ x : Option Addr × Nat, e = .returned (.tuple #[.slice x.1 ([] : List Burst8.Span).length x.2, .bool false]) ∧ M' = [] ∧ R' = [rowD x.1 2 encS ([] : List Burst8.Span)]) := by
  have h := fits_s B bo ro so bc rc sc hg m hm w wo wc hwl hwb
  rw [hf] at h
  exact h
theorem fits_y (hg : GoodB B) (m : Nat) (hm : m < 64) (w : List Int) (wo : Option Addr) (wc : Nat) (hwl : w.length = B.rain.length + 1) (hwb : MildW w) (l : List Burst8.Span) (hf : fitB B m w = some l) : FnS Try.prog 98 [valB B bo ro so bc rc sc, i64 (m : Nat), .slice wo w.length wc] [] [rowD bo 4 encB B.banks, rowD ro 2 encS B.rain, rowD so 3 encG B.signs, rowD wo 1 encI w] (fun e M' R' => ∃ x : Option Addr × Nat, e = .returned (.tuple #[.slice x.1 l.length x.2, .bool true]) ∧ M' = [] ∧ R' = [rowD x.1 2 encS l]) := by
  have h := fits_s B bo ro so bc rc sc hg m hm w wo wc hwl hwb
  rw [hf] at h
  exact h
set_option maxHeartbeats 4000000 in
theorem goes_0y (hg : GoodB B) (m : Nat) (hm : m < 64) (w : List Int) (wo : Option Addr) (wc : Nat) (vo : Value) (xs0 : List TrV) (LL : List Tr) (hwn : Near2 w) (hxs : RowsW xs0 LL) (hr : w.length + 0 = B.rain.length + 1) (hrm : LL.length + 1 ≤ 10000) (l : List Burst8.Span) (hf : fitB B m w = some l) : FnS Try.prog 77 [valB B bo ro so bc rc sc, i64 (m : Nat), .slice wo w.length wc, vo] [ownL vo 82 2 encT2 xs0] [waysF xs0 LL, rowD bo 4 encB B.banks, rowD ro 2 encS B.rain, rowD so 3 encG B.signs, rowD wo 1 encI w] (fun e M' R' => ∃ y : Value × List TrV, e = .returned y.1 ∧ RowsW y.2 (LL ++ goesL B m 0 w) ∧ M' = [ownL y.1 82 2 encT2 y.2] ∧ R' = [waysF y.2 (LL ++ goesL B m 0 w)]) := by
  have hb1 := hg.nb
  have hb2 := hg.nr
  have hb3 := hg.ns
  refine FnS.intro1 Try.call77 Try.func77 rfl Try.ntmps77 rfl ?_
  intro W M Rf
  refine r_seq ?_
  refine r_region ?_
  refine o_boxA rfl rfl rfl rfl rfl (fun b4 => ?_)
  refine o_q _ rfl rfl rfl (v_assign rfl rfl) ?_
  refine o_nil ?_
  with_reducible refine r_then ?_
  refine r_seq ?_
  refine r_region ?_
  refine o_q _ rfl rfl rfl (v_move rfl rfl) ?_
  refine o_q _ rfl rfl rfl (v_len rfl rfl Try.underlying43 rfl) ?_
  refine o_q _ rfl rfl rfl (v_assign rfl rfl) ?_
  refine o_nil ?_
  with_reducible refine r_then ?_
  refine r_seq ?_
  refine r_seq ?_
  refine r_region ?_
  refine o_q _ rfl rfl rfl (v_move rfl rfl) ?_
  refine o_q _ rfl rfl rfl (v_fieldAddr rfl Try.underlying28 inf25 rfl rfl rfl rfl) ?_
  refine o_q _ rfl rfl rfl (v_ld1 rfl Try.underlying25 rfl rfl rfl) ?_
  refine o_q _ rfl rfl rfl (v_len rfl rfl Try.underlying25 rfl) ?_
  refine o_q _ rfl rfl rfl (v_add rfl rfl rfl (by omega)) ?_
  refine o_q _ rfl rfl rfl (v_eql rfl rfl rfl) ?_
  refine o_nil ?_
  with_reducible refine r_then ?_
  refine r_condd rfl (fun hc22 => ?_) (fun hc22 => ?_)
  ·
    refine r_seq ?_
    refine r_region ?_
    refine o_q _ rfl rfl rfl (v_ldW rfl Try.underlying28 rfl inf28 rfl rfl) ?_
    refine o_q _ rfl rfl rfl (v_move rfl rfl) ?_
    refine o_q _ rfl rfl rfl (v_move rfl rfl) ?_
    refine o_fnF (fits_y B bo ro so bc rc sc hg m hm w wo wc (by omega) (near_mild hwn (by omega)) l hf) rfl rfl rfl rfl rfl SubRC.sub (fun fx => ?_)
    all_goals
      have hxl := hxs.1
      refine o_q _ rfl rfl rfl (v_move rfl rfl) ?_
      refine o_q _ rfl rfl rfl (v_extract rfl rfl rfl) ?_
      refine o_q _ rfl rfl rfl (v_extract rfl rfl rfl) ?_
      refine o_q _ rfl rfl rfl (v_assign rfl rfl) ?_
      refine o_q _ rfl rfl rfl (v_assign rfl rfl) ?_
      refine o_nil ?_
      with_reducible refine r_then ?_
      refine r_seq ?_
      refine r_seq ?_
      refine r_region ?_
      refine o_q _ rfl rfl rfl (v_move rfl rfl) ?_
      refine o_nil ?_
      with_reducible refine r_then ?_
      refine r_cond rfl (fun hc30 => ?_) (fun hc30 => ?_)
      ·
        refine r_region ?_
        refine o_q _ rfl rfl rfl (v_move rfl rfl) ?_
        refine o_q _ rfl rfl rfl (v_move rfl rfl) ?_
        refine o_q _ rfl rfl rfl (v_move rfl rfl) ?_
        refine o_q _ rfl rfl rfl (v_bS rfl Try.underlying82 inf82 plt82 rfl rfl rfl (by repeat (first | exact trivial | refine ⟨rfl, ?_⟩)) (by rfl)) ?_
        refine o_lit rfl Try.underlying78 inf82 rfl rfl rfl rfl rfl rfl rfl rfl (by repeat (first | exact trivial | refine ⟨rfl, ?_⟩)) (by rfl) (fun b35 => ?_)
        refine o_app1 ((⟨wo, w.length, wc, fx.1, l.length, fx.2⟩ : TrV)) rfl Try.underlying78 inf82 rfl (by rfl) (by rfl) rfl rfl rfl rfl rfl (by rfl) (by rfl) (by rfl) (by first | omega | (constructor <;> first | omega | decide)) (fun v36 => ?_)
        refine o_q _ rfl rfl rfl (v_assign rfl rfl) ?_
        refine o_nil ?_
        with_reducible refine r_then ?_
        refine r_seq ?_
        refine r_region ?_
        refine o_q _ rfl rfl rfl (v_move rfl rfl) ?_
        refine o_q _ rfl rfl rfl (v_assign rfl rfl) ?_
        refine o_nil ?_
        with_reducible refine r_then ?_
        refine r_ret ?_
        with_reducible refine r_then_ret ?_
        (refine Imp.derive (ψ := waysF (xs0 ++ [(⟨wo, w.length, wc, fx.1, l.length, fx.2⟩ : TrV)]) (LL ++ goesL B m 0 w)) ?_ (fun V hV => by rw [goesL_y hf]; exact waysF_add hxs (hV (waysF xs0 LL) (by simp)) ⟨hV (rowD wo 1 encI w) (by simp), hV (rowD fx.1 2 encS l) (by simp)⟩); exact r_rete [ownL v36 82 2 encT2 (xs0 ++ [(⟨wo, w.length, wc, fx.1, l.length, fx.2⟩ : TrV)])] [waysF (xs0 ++ [(⟨wo, w.length, wc, fx.1, l.length, fx.2⟩ : TrV)]) (LL ++ goesL B m 0 w)] (Rd.tmp rfl rfl) ⟨(v36, _), rfl, by rw [goesL_y hf]; exact RowsW_add hxs ⟨rfl, rfl⟩, rfl, rfl⟩ SelMC.sel (SubR.append SubRC.sub SubRC.sub))
      ·
        (exfalso; revert hc30; decide)
  ·
    (exfalso; omega)
set_option maxHeartbeats 4000000 in
theorem goes_0n (hg : GoodB B) (m : Nat) (hm : m < 64) (w : List Int) (wo : Option Addr) (wc : Nat) (vo : Value) (xs0 : List TrV) (LL : List Tr) (hwn : Near2 w) (hxs : RowsW xs0 LL) (hr : w.length + 0 = B.rain.length + 1) (hrm : LL.length + 1 ≤ 10000) (hf : fitB B m w = none) : FnS Try.prog 77 [valB B bo ro so bc rc sc, i64 (m : Nat), .slice wo w.length wc, vo] [ownL vo 82 2 encT2 xs0] [waysF xs0 LL, rowD bo 4 encB B.banks, rowD ro 2 encS B.rain, rowD so 3 encG B.signs, rowD wo 1 encI w] (fun e M' R' => ∃ y : Value × List TrV, e = .returned y.1 ∧ RowsW y.2 (LL ++ goesL B m 0 w) ∧ M' = [ownL y.1 82 2 encT2 y.2] ∧ R' = [waysF y.2 (LL ++ goesL B m 0 w)]) := by
  have hb1 := hg.nb
  have hb2 := hg.nr
  have hb3 := hg.ns
  refine FnS.intro1 Try.call77 Try.func77 rfl Try.ntmps77 rfl ?_
  intro W M Rf
  refine r_seq ?_
  refine r_region ?_
  refine o_boxA rfl rfl rfl rfl rfl (fun b4 => ?_)
  refine o_q _ rfl rfl rfl (v_assign rfl rfl) ?_
  refine o_nil ?_
  with_reducible refine r_then ?_
  refine r_seq ?_
  refine r_region ?_
  refine o_q _ rfl rfl rfl (v_move rfl rfl) ?_
  refine o_q _ rfl rfl rfl (v_len rfl rfl Try.underlying43 rfl) ?_
  refine o_q _ rfl rfl rfl (v_assign rfl rfl) ?_
  refine o_nil ?_
  with_reducible refine r_then ?_
  refine r_seq ?_
  refine r_seq ?_
  refine r_region ?_
  refine o_q _ rfl rfl rfl (v_move rfl rfl) ?_
  refine o_q _ rfl rfl rfl (v_fieldAddr rfl Try.underlying28 inf25 rfl rfl rfl rfl) ?_
  refine o_q _ rfl rfl rfl (v_ld1 rfl Try.underlying25 rfl rfl rfl) ?_
  refine o_q _ rfl rfl rfl (v_len rfl rfl Try.underlying25 rfl) ?_
  refine o_q _ rfl rfl rfl (v_add rfl rfl rfl (by omega)) ?_
  refine o_q _ rfl rfl rfl (v_eql rfl rfl rfl) ?_
  refine o_nil ?_
  with_reducible refine r_then ?_
  refine r_condd rfl (fun hc22 => ?_) (fun hc22 => ?_)
  ·
    refine r_seq ?_
    refine r_region ?_
    refine o_q _ rfl rfl rfl (v_ldW rfl Try.underlying28 rfl inf28 rfl rfl) ?_
    refine o_q _ rfl rfl rfl (v_move rfl rfl) ?_
    refine o_q _ rfl rfl rfl (v_move rfl rfl) ?_
    refine o_fnF (fits_n B bo ro so bc rc sc hg m hm w wo wc (by omega) (near_mild hwn (by omega)) hf) rfl rfl rfl rfl rfl SubRC.sub (fun fx => ?_)
    all_goals
      have hxl := hxs.1
      refine o_q _ rfl rfl rfl (v_move rfl rfl) ?_
      refine o_q _ rfl rfl rfl (v_extract rfl rfl rfl) ?_
      refine o_q _ rfl rfl rfl (v_extract rfl rfl rfl) ?_
      refine o_q _ rfl rfl rfl (v_assign rfl rfl) ?_
      refine o_q _ rfl rfl rfl (v_assign rfl rfl) ?_
      refine o_nil ?_
      with_reducible refine r_then ?_
      refine r_seq ?_
      refine r_seq ?_
      refine r_region ?_
      refine o_q _ rfl rfl rfl (v_move rfl rfl) ?_
      refine o_nil ?_
      with_reducible refine r_then ?_
      refine r_cond rfl (fun hc30 => ?_) (fun hc30 => ?_)
      ·
        (exfalso; revert hc30; decide)
      ·
        refine r_skip ?_
        with_reducible refine r_then ?_
        refine r_seq ?_
        refine r_region ?_
        refine o_q _ rfl rfl rfl (v_move rfl rfl) ?_
        refine o_q _ rfl rfl rfl (v_assign rfl rfl) ?_
        refine o_nil ?_
        with_reducible refine r_then ?_
        refine r_ret ?_
        with_reducible refine r_then_ret ?_
        (refine Imp.derive (ψ := waysF xs0 (LL ++ goesL B m 0 w)) ?_ (fun V hV => by rw [goesL_n hf, List.append_nil]; exact hV (waysF xs0 LL) (by simp)); exact r_rete [ownL vo 82 2 encT2 xs0] [waysF xs0 (LL ++ goesL B m 0 w)] (Rd.tmp rfl rfl) ⟨(vo, _), rfl, by rw [goesL_n hf, List.append_nil]; exact hxs, rfl, rfl⟩ SelMC.sel (SubR.append SubRC.sub SubRC.sub))
  ·
    (exfalso; omega)
set_option maxHeartbeats 4000000 in
theorem goes_s (hg : GoodB B) (m : Nat) (hm : m < 64) (w : List Int) (wo : Option Addr) (wc : Nat) (vo : Value) (xs0 : List TrV) (LL : List Tr) (hwn : Near2 w) (hxs : RowsW xs0 LL) (r : Nat) (ih : ∀ (w : List Int) (wo : Option Addr) (wc : Nat) (vo : Value) (xs : List TrV) (LL : List Tr), Near2 w → RowsW xs LL → w.length + r = B.rain.length + 1 → LL.length + wayN B r ≤ 10000 → FnS Try.prog 77 [valB B bo ro so bc rc sc, i64 (m : Nat), .slice wo w.length wc, vo] [ownL vo 82 2 encT2 xs] [waysF xs LL, rowD bo 4 encB B.banks, rowD ro 2 encS B.rain, rowD so 3 encG B.signs, rowD wo 1 encI w] (fun e M' R' => ∃ y : Value × List TrV, e = .returned y.1 ∧ RowsW y.2 (LL ++ goesL B m r w) ∧ M' = [ownL y.1 82 2 encT2 y.2] ∧ R' = [waysF y.2 (LL ++ goesL B m r w)])) (hr : w.length + (r + 1) = B.rain.length + 1) (hrm : LL.length + wayN B (r + 1) ≤ 10000) : FnS Try.prog 77 [valB B bo ro so bc rc sc, i64 (m : Nat), .slice wo w.length wc, vo] [ownL vo 82 2 encT2 xs0] [waysF xs0 LL, rowD bo 4 encB B.banks, rowD ro 2 encS B.rain, rowD so 3 encG B.signs, rowD wo 1 encI w] (fun e M' R' => ∃ y : Value × List TrV, e = .returned y.1 ∧ RowsW y.2 (LL ++ goesL B m (r + 1) w) ∧ M' = [ownL y.1 82 2 encT2 y.2] ∧ R' = [waysF y.2 (LL ++ goesL B m (r + 1) w)]) := by
  have hb1 := hg.nb
  have hb2 := hg.nr
  have hb3 := hg.ns
  refine FnS.intro1 Try.call77 Try.func77 rfl Try.ntmps77 rfl ?_
  intro W M Rf
  refine r_seq ?_
  refine r_region ?_
  refine o_boxA rfl rfl rfl rfl rfl (fun b4 => ?_)
  refine o_q _ rfl rfl rfl (v_assign rfl rfl) ?_
  refine o_nil ?_
  with_reducible refine r_then ?_
  refine r_seq ?_
  refine r_region ?_
  refine o_q _ rfl rfl rfl (v_move rfl rfl) ?_
  refine o_q _ rfl rfl rfl (v_len rfl rfl Try.underlying43 rfl) ?_
  refine o_q _ rfl rfl rfl (v_assign rfl rfl) ?_
  refine o_nil ?_
  with_reducible refine r_then ?_
  refine r_seq ?_
  refine r_seq ?_
  refine r_region ?_
  refine o_q _ rfl rfl rfl (v_move rfl rfl) ?_
  refine o_q _ rfl rfl rfl (v_fieldAddr rfl Try.underlying28 inf25 rfl rfl rfl rfl) ?_
  refine o_q _ rfl rfl rfl (v_ld1 rfl Try.underlying25 rfl rfl rfl) ?_
  refine o_q _ rfl rfl rfl (v_len rfl rfl Try.underlying25 rfl) ?_
  refine o_q _ rfl rfl rfl (v_add rfl rfl rfl (by omega)) ?_
  refine o_q _ rfl rfl rfl (v_eql rfl rfl rfl) ?_
  refine o_nil ?_
  with_reducible refine r_then ?_
  refine r_condd rfl (fun hc22 => ?_) (fun hc22 => ?_)
  ·
    (exfalso; omega)
  ·
    refine r_skip ?_
    with_reducible refine r_then ?_
    refine r_seq ?_
    refine r_region ?_
    refine o_q _ rfl rfl rfl (v_fieldAddr rfl Try.underlying28 inf24 rfl rfl rfl rfl) ?_
    refine o_q _ rfl rfl rfl (v_ldN rfl Try.underlying24 rfl inf24 rfl rfl rfl) ?_
    refine o_alloc rfl inf24 rfl rfl rfl rfl rfl (fun b12 => ?_)
    refine o_st rfl inf24 rfl rfl rfl rfl rfl rfl rfl rfl ?_
    refine o_nil ?_
    with_reducible refine r_then ?_
    refine r_seq ?_
    refine r_seq ?_
    refine r_region ?_
    refine o_q _ rfl rfl rfl (v_move rfl rfl) ?_
    refine o_q _ rfl rfl rfl (v_gtr rfl rfl rfl) ?_
    refine o_nil ?_
    with_reducible refine r_then ?_
    refine r_condd rfl (fun hc41 => ?_) (fun hc41 => ?_)
    ·
      refine r_seq ?_
      have hw1 := hwn (w.length - 1) (by omega)
      have hrn := hg.rain (w.length - 1) (by omega)
      unfold RainOk at hrn
      have hdr := hg.dr
      refine r_region ?_
      refine o_q _ rfl rfl rfl (v_fieldAddr rfl Try.underlying28 inf25 rfl rfl rfl rfl) ?_
      refine o_q _ rfl rfl rfl (v_ld1 rfl Try.underlying25 rfl rfl rfl) ?_
      refine o_q _ rfl rfl rfl (v_move rfl rfl) ?_
      refine o_q _ rfl rfl rfl ((v_cast (v := i64 ((w.length - 1 : Nat) : Int)) (v_sub rfl rfl rfl (by omega)) (congrArg (Value.int .i64) (by omega)))) ?_
      refine o_q _ rfl rfl rfl (v_indexAddrSn rfl Try.underlying25 inf24 rfl rfl rfl (by omega) rfl) ?_
      refine o_q _ rfl rfl rfl (v_loadEN rfl Try.underlying24 rfl inf24 rfl (by omega) rfl rfl rfl) ?_
      refine o_alloc rfl inf24 rfl rfl rfl rfl rfl (fun b13 => ?_)
      refine o_st rfl inf24 rfl rfl rfl rfl rfl rfl rfl rfl ?_
      refine o_nil ?_
      with_reducible refine r_then ?_
      refine r_par' 22 mixed (by kernel_rfl) (by rfl) ?_
      refine p_q _ rfl rfl rfl (fun _ _ => v_move rfl rfl) ?_
      refine p_q _ rfl rfl rfl (fun _ _ => v_move rfl rfl) ?_
      refine p_q _ rfl rfl rfl (fun _ _ => (v_cast (v := i64 ((w.length - 1 : Nat) : Int)) (v_sub rfl rfl rfl (by omega)) (congrArg (Value.int .i64) (by omega)))) ?_
      refine p_q _ rfl rfl rfl (fun _ _ => v_indexAddrSn rfl Try.underlying43 inf3 rfl rfl rfl (by omega) rfl) ?_
      refine p_q _ rfl rfl rfl (fun _ _ => v_loadE1 rfl Try.underlying3 rfl rfl (by omega) rfl rfl) ?_
      refine p_q _ rfl rfl rfl (fun _ _ => v_fieldAddr rfl Try.underlying24 inf3 rfl rfl rfl rfl) ?_
      refine p_q _ rfl rfl rfl (fun _ _ => v_ld1 rfl Try.underlying3 rfl rfl rfl) ?_
      refine p_q _ rfl rfl rfl (fun _ _ => v_add rfl rfl rfl (by omega)) ?_
      refine p_q _ rfl rfl rfl (fun _ _ => v_fieldAddr rfl Try.underlying28 inf3 rfl rfl rfl rfl) ?_
      refine p_q _ rfl rfl rfl (fun _ _ => v_ld1 rfl Try.underlying3 rfl rfl rfl) ?_
      refine p_q _ rfl rfl rfl (fun _ _ => v_sub rfl rfl rfl (by omega)) ?_
      refine p_q _ rfl rfl rfl (fun _ _ => v_move rfl rfl) ?_
      refine p_q _ rfl rfl rfl (fun _ _ => v_move rfl rfl) ?_
      refine p_q _ rfl rfl rfl (fun _ _ => (v_cast (v := i64 ((w.length - 1 : Nat) : Int)) (v_sub rfl rfl rfl (by omega)) (congrArg (Value.int .i64) (by omega)))) ?_
      refine p_q _ rfl rfl rfl (fun _ _ => v_indexAddrSn rfl Try.underlying43 inf3 rfl rfl rfl (by omega) rfl) ?_
      refine p_q _ rfl rfl rfl (fun _ _ => v_loadE1 rfl Try.underlying3 rfl rfl (by omega) rfl rfl) ?_
      refine p_q _ rfl rfl rfl (fun _ _ => v_fieldAddr rfl Try.underlying24 inf3 rfl rfl rfl rfl) ?_
      refine p_q _ rfl rfl rfl (fun _ _ => v_ld1 rfl Try.underlying3 rfl rfl rfl) ?_
      refine p_q _ rfl rfl rfl (fun _ _ => v_add rfl rfl rfl (by omega)) ?_
      refine p_q _ rfl rfl rfl (fun _ _ => v_fieldAddr rfl Try.underlying28 inf3 rfl rfl rfl rfl) ?_
      refine p_q _ rfl rfl rfl (fun _ _ => v_ld1 rfl Try.underlying3 rfl rfl rfl) ?_
      refine p_q _ rfl rfl rfl (fun _ _ => v_sub rfl rfl rfl (by omega)) ?_
      refine p_nil2 (by simp only [List.nil_append, List.cons_append]; rfl) rfl ?_
      refine f_q rfl ?_
      refine f_q rfl ?_
      refine f_q rfl ?_
      refine f_q rfl ?_
      refine f_q rfl ?_
      refine f_q rfl ?_
      refine f_q rfl ?_
      refine f_q rfl ?_
      refine f_q rfl ?_
      refine f_q rfl ?_
      refine f_q rfl ?_
      refine f_q rfl ?_
      refine f_q rfl ?_
      refine f_q rfl ?_
      refine f_q rfl ?_
      refine f_q rfl ?_
      refine f_q rfl ?_
      refine f_q rfl ?_
      refine f_q rfl ?_
      refine f_q rfl ?_
      refine f_q rfl ?_
      refine f_q rfl ?_
      refine f_nil ?_
      refine o_q _ rfl rfl rfl (v_bS rfl Try.underlying24 inf24 plt24 rfl rfl rfl (by repeat (first | exact trivial | refine ⟨rfl, ?_⟩)) (by rfl)) ?_
      refine o_st rfl inf24 rfl rfl rfl rfl rfl rfl rfl rfl ?_
      refine o_nil ?_
      with_reducible refine r_then ?_
      refine r_seq ?_
      refine r_seq ?_
      refine Imp.box_to b12 [i64 (nextS B w).lo, i64 (nextS B w).hi] (by rw [next_p (by omega)]; rfl) ?_
      have hnb := next_bd hg hwn (by omega)
      have hxl0 := hxs.1
      refine r_region ?_
      refine o_q _ rfl rfl rfl (v_fieldAddr rfl Try.underlying24 inf3 rfl rfl rfl rfl) ?_
      refine o_q _ rfl rfl rfl (v_ld1 rfl Try.underlying3 rfl rfl rfl) ?_
      refine o_q _ rfl rfl rfl (v_assign rfl rfl) ?_
      refine o_nil ?_
      with_reducible refine r_then ?_
      refine r_block ?_
      refine r_loop (ι := Nat × Value × List TrV) (fun gh => gh.1 ≤ (cntS (nextS B w)) ∧ RowsW gh.2.2 (LL ++ goesT B m r w gh.1)) (fun gh => [(1, i64 (m : Nat)), (2, .slice wo w.length wc), (3, gh.2.1), (4, pt b4 0), (12, pt b12 0), (14, i64 ((nextS B w).lo + (gh.1 : Int)))]) (fun gh => ownL gh.2.1 82 2 encT2 gh.2.2 :: bx b4 28 (cellsB B bo ro so bc rc sc) :: bx b12 24 [i64 (nextS B w).lo, i64 (nextS B w).hi] :: M) (fun gh => waysF gh.2.2 (LL ++ goesT B m r w gh.1) :: ([waysF xs0 LL, rowD bo 4 encB B.banks, rowD ro 2 encS B.rain, rowD so 3 encG B.signs, rowD wo 1 encI w] ++ Rf)) (fun gh => (cntS (nextS B w)) - gh.1) (0, vo, xs0) ?_ ?_ ?_
      ·
        refine Imp.derive (ψ := waysF xs0 (LL ++ goesT B m r w 0)) ?_ (fun V hV => by rw [goesT_0, List.append_nil]; exact hV (waysF xs0 LL) (by simp))
        exact r_here (by repeat (first | exact FSub.nil | refine FSub.cons rfl ?_ | refine FSub.cons2 rfl (congrArg (Value.int .i64) (by omega)) ?_)) SelMC.sel SubRC.sub
      ·
        exact ⟨Nat.zero_le _, by show RowsW xs0 (LL ++ goesT B m r w 0); rw [goesT_0, List.append_nil]; exact hxs⟩
      ·
        rintro ⟨i, v, xs⟩ hI0
        dsimp only at hI0
        dsimp only
        have hcn : (cntS (nextS B w)) = ((nextS B w).hi + 1 - (nextS B w).lo).toNat := rfl
        have hIi := hI0.1
        skip
        refine r_seq ?_
        refine r_seq ?_
        refine r_region ?_
        refine o_q _ rfl rfl rfl (v_move rfl rfl) ?_
        refine o_q _ rfl rfl rfl (v_fieldAddr rfl Try.underlying24 inf3 rfl rfl rfl rfl) ?_
        refine o_q _ rfl rfl rfl (v_ld1 rfl Try.underlying3 rfl rfl rfl) ?_
        refine o_q _ rfl rfl rfl (v_leq rfl rfl rfl) ?_
        refine o_nil ?_
        with_reducible refine r_then ?_
        refine r_condd rfl (fun hc76 => ?_) (fun hc76 => ?_)
        ·
          refine r_skip ?_
          with_reducible refine r_then ?_
          refine r_seq ?_
          refine r_block ?_
          have hroom := goesT_room (B := B) (m := m) (r := r) (i := i) (w := w) hr (by omega)
          refine r_par' 9 mixed (by kernel_rfl) (by rfl) ?_
          refine p_q _ rfl rfl rfl (fun _ _ => v_ldW rfl Try.underlying28 rfl inf28 rfl rfl) ?_
          refine p_q _ rfl rfl rfl (fun _ _ => v_move rfl rfl) ?_
          refine p_lit0 rfl Try.underlying43 inf3 rfl rfl rfl ?_
          refine p_q _ rfl rfl rfl (fun _ _ => v_move rfl rfl) ?_
          refine p_acc (by simp only [List.nil_append, List.cons_append]; rfl) ?_
          refine p_appNL (sz := 1) 7 2 rfl rfl rfl (by kernel_rfl) rfl rfl rfl rfl Try.underlying43 inf3 rfl rfl rfl encI_len (fun _ => rfl) ⟨by omega, by decide⟩ ?_
          refine p_q _ rfl rfl rfl (fun _ _ => v_move rfl rfl) ?_
          refine p_lit rfl Try.underlying43 inf3 rfl rfl rfl rfl rfl rfl rfl rfl (by repeat (first | exact trivial | refine ⟨rfl, ?_⟩)) (by rfl) ?_
          refine p_acc (by simp only [List.nil_append, List.cons_append]; rfl) ?_
          refine p_appT (sz := 1) 4 6 (((nextS B w).lo + (i : Int))) rfl rfl rfl (by kernel_rfl) rfl rfl rfl (by kernel_rfl) rfl rfl rfl rfl rfl Try.underlying43 inf3 rfl rfl rfl encI_len rfl rfl ⟨by omega, by decide⟩ ?_
          refine p_q _ rfl rfl rfl (fun _ _ => v_move rfl rfl) ?_
          refine p_nil2 (by simp only [List.nil_append, List.cons_append]; rfl) rfl ?_ (by kernel_rfl)
          refine f_q rfl ?_
          refine f_q rfl ?_
          refine f_l0 rfl (fun b81 => ?_)
          refine f_q rfl ?_
          refine f_ozl rfl (fun v83 => ?_)
          refine f_q rfl ?_
          refine f_lit rfl (fun b85 => ?_)
          refine f_apt rfl (fun v86 => ?_)
          refine f_q rfl ?_
          refine f_nil ?_
          refine Imp.settleS v86 encI_len (fun on cn hv => ?_); subst hv; refine o_fnX (ih (w ++ [((nextS B w).lo + (i : Int))]) on cn v xs (LL ++ goesT B m r w i) (near_snoc hwn (by omega)) hI0.2 (by simp; omega) (by simp only [List.length_append]; omega)) rfl rfl rfl rfl rfl SubRC.sub (fun y hy => ?_)
          all_goals
            refine o_q _ rfl rfl rfl (v_assign rfl rfl) ?_
            refine o_nil ?_
            with_reducible refine r_in_normal ?_; refine r_then ?_
            refine r_region ?_
            refine o_q _ rfl rfl rfl (v_move rfl rfl) ?_
            refine o_q _ rfl rfl rfl (v_add rfl rfl rfl (by omega)) ?_
            refine o_q _ rfl rfl rfl (v_assign rfl rfl) ?_
            refine o_nil ?_
            with_reducible refine r_then ?_
            exact r_next ((i + 1, y.1, y.2)) (by (refine Imp.derive (ψ := waysF y.2 (LL ++ goesT B m r w (i + 1))) ?_ (fun V hV => by have h := hV (waysF y.2 ((LL ++ goesT B m r w i) ++ goesL B m r (w ++ [((nextS B w).lo + (i : Int))]))) InR.mem; rw [List.append_assoc, goesT_s] at h; exact h)); exact r_here (by repeat (first | exact FSub.nil | refine FSub.cons rfl ?_ | refine FSub.cons2 rfl (congrArg (Value.int .i64) (by omega)) ?_)) SelMC.sel SubRC.sub) (by exact ⟨by show i + 1 ≤ _; omega, by have h := hy; rw [List.append_assoc, goesT_s] at h; exact h⟩) (by show _ - (i + 1) < _ - i; omega)
        ·
          refine r_exit ?_
          with_reducible refine r_then_exit ?_; refine r_then_exit ?_; refine r_in_here ?_; refine r_then ?_
          refine r_seq ?_
          refine r_region ?_
          refine o_q _ rfl rfl rfl (v_move rfl rfl) ?_
          refine o_q _ rfl rfl rfl (v_assign rfl rfl) ?_
          refine o_nil ?_
          with_reducible refine r_then ?_
          refine r_ret ?_
          obtain rfl : i = (cntS (nextS B w)) := by omega
          rw [goesT_all] at hI0
          refine Imp.derive (ψ := waysF xs (LL ++ goesL B m (r + 1) w)) ?_ (fun V hV => by have h := hV (waysF xs (LL ++ goesT B m r w (cntS (nextS B w)))) InR.mem; rw [goesT_all] at h; exact h)
          exact r_rete [ownL v 82 2 encT2 xs] [waysF xs (LL ++ goesL B m (r + 1) w)] (Rd.tmp rfl rfl) ⟨(v, xs), rfl, hI0.2, rfl, rfl⟩ SelMC.sel (SubR.append SubRC.sub SubRC.sub)
    ·
      refine r_skip ?_
      with_reducible refine r_then ?_
      refine r_seq ?_
      refine r_seq ?_
      refine Imp.box_to b12 [i64 (nextS B w).lo, i64 (nextS B w).hi] (by rw [next_0 (by omega)]; rfl) ?_
      have hnb := next_bd hg hwn (by omega)
      have hxl0 := hxs.1
      refine r_region ?_
      refine o_q _ rfl rfl rfl (v_fieldAddr rfl Try.underlying24 inf3 rfl rfl rfl rfl) ?_
      refine o_q _ rfl rfl rfl (v_ld1 rfl Try.underlying3 rfl rfl rfl) ?_
      refine o_q _ rfl rfl rfl (v_assign rfl rfl) ?_
      refine o_nil ?_
      with_reducible refine r_then ?_
      refine r_block ?_
      refine r_loop (ι := Nat × Value × List TrV) (fun gh => gh.1 ≤ (cntS (nextS B w)) ∧ RowsW gh.2.2 (LL ++ goesT B m r w gh.1)) (fun gh => [(1, i64 (m : Nat)), (2, .slice wo w.length wc), (3, gh.2.1), (4, pt b4 0), (12, pt b12 0), (14, i64 ((nextS B w).lo + (gh.1 : Int)))]) (fun gh => ownL gh.2.1 82 2 encT2 gh.2.2 :: bx b4 28 (cellsB B bo ro so bc rc sc) :: bx b12 24 [i64 (nextS B w).lo, i64 (nextS B w).hi] :: M) (fun gh => waysF gh.2.2 (LL ++ goesT B m r w gh.1) :: ([waysF xs0 LL, rowD bo 4 encB B.banks, rowD ro 2 encS B.rain, rowD so 3 encG B.signs, rowD wo 1 encI w] ++ Rf)) (fun gh => (cntS (nextS B w)) - gh.1) (0, vo, xs0) ?_ ?_ ?_
      ·
        refine Imp.derive (ψ := waysF xs0 (LL ++ goesT B m r w 0)) ?_ (fun V hV => by rw [goesT_0, List.append_nil]; exact hV (waysF xs0 LL) (by simp))
        exact r_here (by repeat (first | exact FSub.nil | refine FSub.cons rfl ?_ | refine FSub.cons2 rfl (congrArg (Value.int .i64) (by omega)) ?_)) SelMC.sel SubRC.sub
      ·
        exact ⟨Nat.zero_le _, by show RowsW xs0 (LL ++ goesT B m r w 0); rw [goesT_0, List.append_nil]; exact hxs⟩
      ·
        rintro ⟨i, v, xs⟩ hI0
        dsimp only at hI0
        dsimp only
        have hcn : (cntS (nextS B w)) = ((nextS B w).hi + 1 - (nextS B w).lo).toNat := rfl
        have hIi := hI0.1
        skip
        refine r_seq ?_
        refine r_seq ?_
        refine r_region ?_
        refine o_q _ rfl rfl rfl (v_move rfl rfl) ?_
        refine o_q _ rfl rfl rfl (v_fieldAddr rfl Try.underlying24 inf3 rfl rfl rfl rfl) ?_
        refine o_q _ rfl rfl rfl (v_ld1 rfl Try.underlying3 rfl rfl rfl) ?_
        refine o_q _ rfl rfl rfl (v_leq rfl rfl rfl) ?_
        refine o_nil ?_
        with_reducible refine r_then ?_
        refine r_condd rfl (fun hc76 => ?_) (fun hc76 => ?_)
        ·
          refine r_skip ?_
          with_reducible refine r_then ?_
          refine r_seq ?_
          refine r_block ?_
          have hroom := goesT_room (B := B) (m := m) (r := r) (i := i) (w := w) hr (by omega)
          refine r_par' 9 mixed (by kernel_rfl) (by rfl) ?_
          refine p_q _ rfl rfl rfl (fun _ _ => v_ldW rfl Try.underlying28 rfl inf28 rfl rfl) ?_
          refine p_q _ rfl rfl rfl (fun _ _ => v_move rfl rfl) ?_
          refine p_lit0 rfl Try.underlying43 inf3 rfl rfl rfl ?_
          refine p_q _ rfl rfl rfl (fun _ _ => v_move rfl rfl) ?_
          refine p_acc (by simp only [List.nil_append, List.cons_append]; rfl) ?_
          refine p_appNL (sz := 1) 7 2 rfl rfl rfl (by kernel_rfl) rfl rfl rfl rfl Try.underlying43 inf3 rfl rfl rfl encI_len (fun _ => rfl) ⟨by omega, by decide⟩ ?_
          refine p_q _ rfl rfl rfl (fun _ _ => v_move rfl rfl) ?_
          refine p_lit rfl Try.underlying43 inf3 rfl rfl rfl rfl rfl rfl rfl rfl (by repeat (first | exact trivial | refine ⟨rfl, ?_⟩)) (by rfl) ?_
          refine p_acc (by simp only [List.nil_append, List.cons_append]; rfl) ?_
          refine p_appT (sz := 1) 4 6 (((nextS B w).lo + (i : Int))) rfl rfl rfl (by kernel_rfl) rfl rfl rfl (by kernel_rfl) rfl rfl rfl rfl rfl Try.underlying43 inf3 rfl rfl rfl encI_len rfl rfl ⟨by omega, by decide⟩ ?_
          refine p_q _ rfl rfl rfl (fun _ _ => v_move rfl rfl) ?_
          refine p_nil2 (by simp only [List.nil_append, List.cons_append]; rfl) rfl ?_ (by kernel_rfl)
          refine f_q rfl ?_
          refine f_q rfl ?_
          refine f_l0 rfl (fun b81 => ?_)
          refine f_q rfl ?_
          refine f_ozl rfl (fun v83 => ?_)
          refine f_q rfl ?_
          refine f_lit rfl (fun b85 => ?_)
          refine f_apt rfl (fun v86 => ?_)
          refine f_q rfl ?_
          refine f_nil ?_
          refine Imp.settleS v86 encI_len (fun on cn hv => ?_); subst hv; refine o_fnX (ih (w ++ [((nextS B w).lo + (i : Int))]) on cn v xs (LL ++ goesT B m r w i) (near_snoc hwn (by omega)) hI0.2 (by simp; omega) (by simp only [List.length_append]; omega)) rfl rfl rfl rfl rfl SubRC.sub (fun y hy => ?_)
          all_goals
            refine o_q _ rfl rfl rfl (v_assign rfl rfl) ?_
            refine o_nil ?_
            with_reducible refine r_in_normal ?_; refine r_then ?_
            refine r_region ?_
            refine o_q _ rfl rfl rfl (v_move rfl rfl) ?_
            refine o_q _ rfl rfl rfl (v_add rfl rfl rfl (by omega)) ?_
            refine o_q _ rfl rfl rfl (v_assign rfl rfl) ?_
            refine o_nil ?_
            with_reducible refine r_then ?_
            exact r_next ((i + 1, y.1, y.2)) (by (refine Imp.derive (ψ := waysF y.2 (LL ++ goesT B m r w (i + 1))) ?_ (fun V hV => by have h := hV (waysF y.2 ((LL ++ goesT B m r w i) ++ goesL B m r (w ++ [((nextS B w).lo + (i : Int))]))) InR.mem; rw [List.append_assoc, goesT_s] at h; exact h)); exact r_here (by repeat (first | exact FSub.nil | refine FSub.cons rfl ?_ | refine FSub.cons2 rfl (congrArg (Value.int .i64) (by omega)) ?_)) SelMC.sel SubRC.sub) (by exact ⟨by show i + 1 ≤ _; omega, by have h := hy; rw [List.append_assoc, goesT_s] at h; exact h⟩) (by show _ - (i + 1) < _ - i; omega)
        ·
          refine r_exit ?_
          with_reducible refine r_then_exit ?_; refine r_then_exit ?_; refine r_in_here ?_; refine r_then ?_
          refine r_seq ?_
          refine r_region ?_
          refine o_q _ rfl rfl rfl (v_move rfl rfl) ?_
          refine o_q _ rfl rfl rfl (v_assign rfl rfl) ?_
          refine o_nil ?_
          with_reducible refine r_then ?_
          refine r_ret ?_
          obtain rfl : i = (cntS (nextS B w)) := by omega
          rw [goesT_all] at hI0
          refine Imp.derive (ψ := waysF xs (LL ++ goesL B m (r + 1) w)) ?_ (fun V hV => by have h := hV (waysF xs (LL ++ goesT B m r w (cntS (nextS B w)))) InR.mem; rw [goesT_all] at h; exact h)
          exact r_rete [ownL v 82 2 encT2 xs] [waysF xs (LL ++ goesL B m (r + 1) w)] (Rd.tmp rfl rfl) ⟨(v, xs), rfl, hI0.2, rfl, rfl⟩ SelMC.sel (SubR.append SubRC.sub SubRC.sub)
theorem goes_m (hg : GoodB B) (m : Nat) (hm : m < 64) : ∀ (r : Nat) (w : List Int) (wo : Option Addr) (wc : Nat) (vo : Value) (xs : List TrV) (LL : List Tr), Near2 w → RowsW xs LL → w.length + r = B.rain.length + 1 → LL.length + wayN B r ≤ 10000 → FnS Try.prog 77 [valB B bo ro so bc rc sc, i64 (m : Nat), .slice wo w.length wc, vo] [ownL vo 82 2 encT2 xs] [waysF xs LL, rowD bo 4 encB B.banks, rowD ro 2 encS B.rain, rowD so 3 encG B.signs, rowD wo 1 encI w] (fun e M' R' => ∃ y : Value × List TrV, e = .returned y.1 ∧ RowsW y.2 (LL ++ goesL B m r w) ∧ M' = [ownL y.1 82 2 encT2 y.2] ∧ R' = [waysF y.2 (LL ++ goesL B m r w)])
  | 0, w, wo, wc, vo, xs, LL, hn, hx, hr, hm2 => by
    rcases hf : fitB B m w with _ | l
    · exact goes_0n B bo ro so bc rc sc hg m hm w wo wc vo xs LL hn hx hr hm2 hf
    · exact goes_0y B bo ro so bc rc sc hg m hm w wo wc vo xs LL hn hx hr hm2 l hf
  | r + 1, w, wo, wc, vo, xs, LL, hn, hx, hr, hm2 => goes_s B bo ro so bc rc sc hg m hm w wo wc vo xs LL hn hx r (goes_m hg m hm r) hr hm2
theorem goes_all (hg : GoodB B) (m : Nat) (hm : m < 64) (hw : wayN B (B.rain.length + 1) ≤ 1000) : FnS Try.prog 77 [valB B bo ro so bc rc sc, i64 (m : Nat), .slice none 0 0, .slice none 0 0] [ownL (.slice none 0 0) 82 2 encT2 []] [waysF [] [], rowD bo 4 encB B.banks, rowD ro 2 encS B.rain, rowD so 3 encG B.signs, rowD none 1 encI ([] : List Int)] (fun e M' R' => ∃ y : Value × List TrV, e = .returned y.1 ∧ RowsW y.2 (allW B m) ∧ M' = [ownL y.1 82 2 encT2 y.2] ∧ R' = [waysF y.2 (allW B m)]) :=
  goes_m B bo ro so bc rc sc hg m hm (B.rain.length + 1) [] none 0 (.slice none 0 0) [] [] (fun d hd => absurd hd (by simp)) RowsW_nil (by simp) (by simp only [List.length_nil]; omega)
end Go.Proofs.Ytoggggnlponfhaa


namespace Go.Proofs.Ytoggggnlponfhaa
open Go.G Burst8
set_option maxRecDepth 1000000
attribute [local irreducible] G.ParO G.Fin
attribute [local irreducible] fw fwR fwC emptyT tabOf knownT canB boundsL
theorem row_nil {V : View} {α : Type} {enc : α → List Value} {sz : Nat} : rowD none sz enc ([] : List α) V := .inl rfl
/-- The ways that are told lie where the slice says. -/
def toldF (B : Bog) (v : Value) : Fact := fun V => ∃ xs : List TrV, RowsW xs (allW B (allS B)) ∧ rowD (adr v) 2 encT2 xs V ∧ waysF xs (allW B (allS B)) V
def fst1 : Value → Value
  | .tuple a => a.getD 0 undef
  | _ => undef
def toldV (B : Bog) (v : Value) : Prop := ∃ u, isSl (allW B (allS B)).length u ∧ v = .tuple #[u, i64 0]
theorem Mono.ways (xs : List TrV) (LL : List Tr) : Mono (waysF xs LL) := fun V V' h hl k hk => ⟨Mono.row _ _ _ _ V V' (h k hk).1 hl, Mono.row _ _ _ _ V V' (h k hk).2 hl⟩
theorem Mono.told (xs : List TrV) (LL : List Tr) (oa : Option Addr) : Mono (fun V => RowsW xs LL ∧ rowD oa 2 encT2 xs V ∧ waysF xs LL V) := fun V V' h hl => ⟨h.1, Mono.row _ _ _ _ V V' h.2.1 hl, Mono.ways xs LL V V' h.2.2 hl⟩
theorem Imp.told {B : Bog} {W : World} {n : Nat} {D : List Deferred} {L : Tm} {M : List Res} {R : List Fact} {X : Act → World → Prop} {tq : Option Addr} {N tc : Nat} (hm : toldF B (.slice tq N tc) ∈ R) (h : ∀ xs, RowsW xs (allW B (allS B)) → Imp W n D L M (rowD tq 2 encT2 xs :: waysF xs (allW B (allS B)) :: R) X) : Imp W n D L M R X := by
  refine Imp.exF (φ := fun xs V => RowsW xs (allW B (allS B)) ∧ rowD tq 2 encT2 xs V ∧ waysF xs (allW B (allS B)) V) hm (fun xs => Mono.told xs _ tq) (fun xs => ?_)
  refine Imp.fact (φ := fun V => RowsW xs (allW B (allS B)) ∧ rowD tq 2 encT2 xs V ∧ waysF xs (allW B (allS B)) V) (List.mem_cons_self ..) (fun hf => ?_)
  obtain ⟨V0, hx, _⟩ := hf
  refine Imp.derive (ψ := waysF xs (allW B (allS B))) ?_ (fun V hV => (hV _ (List.mem_cons_self ..)).2.2)
  refine Imp.derive (ψ := rowD tq 2 encT2 xs) ?_ (fun V hV => (hV _ (List.mem_cons_of_mem _ (List.mem_cons_self ..))).2.1)
  exact fun a w h1 h2 h3 => h xs hx a w h1 h2 (St.weak h3 fun φ hφ => by
    rcases List.mem_cons.1 hφ with e | hφ
    · exact List.mem_cons.2 (.inl e)
    · rcases List.mem_cons.1 hφ with e | hφ
      · exact List.mem_cons_of_mem _ (List.mem_cons.2 (.inl e))
      · exact List.mem_cons_of_mem _ (List.mem_cons_of_mem _ (List.mem_cons_of_mem _ hφ)))
theorem can_zero {B : Bog} (hg : GoodB B) {m : Nat} : canB B m 0 false = true ↔ ¬ ((allW B m).length : Int) = 0 := by
  rw [can_all hg]; omega
variable (B : Bog) (bo ro so : Option Addr) (bc rc sc : Nat) (bb mb : Nat)
attribute [local irreducible] leastU setB pop
set_option maxHeartbeats 4000000 in
theorem told_r (hl1 : B.banks.length ≤ 40) (hl2 : B.rain.length ≤ 40) (hl3 : B.signs.length ≤ 40) (hg : GoodB B) (hw : wayN B (B.rain.length + 1) ≤ 1000) (hc : canB B (allS B) 0 false = true) : FnR Try.prog 51 [valB B bo ro so bc rc sc, .bool true] [rowD bo 4 encB B.banks, rowD ro 2 encS B.rain, rowD so 3 encG B.signs] (toldV B) (fun v => [toldF B (fst1 v)]) := by
  have hb1 := hg.nb
  have hb2 := hg.nr
  have hb3 := hg.ns
  have hal : allS B < 64 := by unfold allS; have := (pow_62 (show B.signs.length ≤ 5 by omega) (by omega)).1; have h5 : 2 ^ B.signs.length ≤ 2 ^ 5 := Nat.pow_le_pow_right (by omega) (by omega); omega
  refine FnR.intro Try.call51 Try.func51 rfl Try.ntmps51 rfl ?_
  intro W M Rf
  refine r_seq ?_
  refine r_region ?_
  refine o_boxA rfl rfl rfl rfl rfl (fun b2 => ?_)
  refine o_q _ rfl rfl rfl (v_assign rfl rfl) ?_
  refine o_q _ rfl rfl rfl (v_assign rfl rfl) ?_
  refine o_nil ?_
  with_reducible refine r_then ?_
  refine r_seq ?_
  refine r_seq ?_
  refine r_region ?_
  refine o_q _ rfl rfl rfl (v_ldW rfl Try.underlying28 rfl inf28 rfl rfl) ?_
  refine o_q _ rfl rfl rfl (v_cast (v := .bool true) (OpQ.fn (Burst_v B bo ro so bc rc sc hl1 hl2 hl3) rfl rfl SubRC.sub) (congrArg Value.bool (decide_eq_true hg))) ?_
  refine o_q _ rfl rfl rfl (v_not rfl rfl) ?_
  refine o_nil ?_
  with_reducible refine r_then ?_
  refine r_cond rfl (fun hc9 => ?_) (fun hc9 => ?_)
  ·
    (exfalso; revert hc9; decide)
  ·
    refine r_skip ?_
    with_reducible refine r_then ?_
    refine r_seq ?_
    refine r_seq ?_
    refine r_region ?_
    refine o_q _ rfl rfl rfl (v_move rfl rfl) ?_
    refine o_q _ rfl rfl rfl (v_not rfl rfl) ?_
    refine o_nil ?_
    with_reducible refine r_then ?_
    refine r_cond rfl (fun hc11 => ?_) (fun hc11 => ?_)
    ·
      (exfalso; revert hc11; decide)
    ·
      refine r_skip ?_
      with_reducible refine r_then ?_
      refine r_seq ?_
      refine Imp.nilL 82 2 encT2 ?_
      refine Imp.derive (ψ := waysF [] []) ?_ (fun V _ => waysF_nil)
      refine Imp.derive (ψ := rowD none 1 encI ([] : List Int)) ?_ (fun V _ => row_nil)
      refine r_par' 3 mixed (by kernel_rfl) (by rfl) ?_
      refine p_q _ rfl rfl rfl (fun _ _ => v_ldW rfl Try.underlying28 rfl inf28 rfl rfl) ?_
      refine p_q _ rfl rfl rfl (fun _ _ => v_ldW rfl Try.underlying28 rfl inf28 rfl rfl) ?_
      refine p_q _ rfl rfl rfl (fun _ _ => OpQ.fn (revery_v B bo ro so bc rc sc (by omega)) rfl rfl SubRC.sub) ?_
      refine p_nil2 (by simp only [List.nil_append, List.cons_append]; rfl) rfl ?_
      refine f_q rfl ?_
      refine f_q rfl ?_
      refine f_q rfl ?_
      refine f_nil ?_
      refine o_fnX (goes_all B bo ro so bc rc sc hg (allS B) hal hw) rfl rfl rfl rfl rfl SubRC.sub (fun y hy => ?_)
      all_goals
        obtain ⟨yv, ys⟩ := y
        dsimp only at hy
        refine Imp.settleS yv encT2_len (fun so2 sc2 hv => ?_)
        dsimp only at hv
        subst hv
        have hyl := hy.1
        have hcz := can_zero hg (m := allS B)
        refine o_q _ rfl rfl rfl (v_assign rfl rfl) ?_
        refine o_nil ?_
        with_reducible refine r_then ?_
        refine r_seq ?_
        refine r_seq ?_
        refine r_region ?_
        refine o_q _ rfl rfl rfl (v_move rfl rfl) ?_
        refine o_q _ rfl rfl rfl (v_len rfl rfl Try.underlying78 rfl) ?_
        refine o_q _ rfl rfl rfl (v_eql rfl rfl rfl) ?_
        refine o_nil ?_
        with_reducible refine r_then ?_
        refine r_condd rfl (fun hc18 => ?_) (fun hc18 => ?_)
        ·
          refine r_seq ?_
          refine r_region ?_
          refine o_q _ rfl rfl rfl (v_assign rfl rfl) ?_
          refine o_q _ rfl rfl rfl (v_assign rfl rfl) ?_
          refine o_nil ?_
          with_reducible refine r_then ?_
          refine r_ret ?_
          with_reducible refine r_then_ret ?_
          (exfalso; exact absurd (hcz.1 hc) (by omega))
        ·
          refine r_skip ?_
          with_reducible refine r_then ?_
          refine r_seq ?_
          refine r_region ?_
          refine o_q _ rfl rfl rfl (v_move rfl rfl) ?_
          refine o_q _ rfl rfl rfl (v_assign rfl rfl) ?_
          refine o_q _ rfl rfl rfl (v_assign rfl rfl) ?_
          refine o_nil ?_
          with_reducible refine r_then ?_
          refine r_ret ?_
          (refine Imp.derive (ψ := toldF B (.slice so2 ys.length sc2)) ?_ (fun V hV => ⟨ys, hy, hV (rowD so2 2 encT2 ys) (by simp), hV (waysF ys (allW B (allS B))) (by simp)⟩); exact r_retr (v := .tuple #[.slice so2 ys.length sc2, i64 0]) (Rd.two rfl (RdI.tmp rfl) (RdI.tmp rfl)) ⟨_, ⟨so2, sc2, by rw [hyl]⟩, rfl⟩ SelMC.sel (by show SubR _ ([toldF B (.slice so2 ys.length sc2)] ++ _); exact SubR.append SubRC.sub SubRC.sub))
set_option maxHeartbeats 4000000 in
theorem told_1 (hl1 : B.banks.length ≤ 40) (hl2 : B.rain.length ≤ 40) (hl3 : B.signs.length ≤ 40) (hng : ¬ GoodB B) (v : Bool) : FnV Try.prog 51 [valB B bo ro so bc rc sc, .bool v] [rowD bo 4 encB B.banks, rowD ro 2 encS B.rain, rowD so 3 encG B.signs] (.tuple #[.slice none 0 0, i64 1]) := by
  refine FnV.intro Try.call51 Try.func51 rfl Try.ntmps51 rfl ?_
  intro W M Rf
  refine r_seq ?_
  refine r_region ?_
  refine o_boxA rfl rfl rfl rfl rfl (fun b2 => ?_)
  refine o_q _ rfl rfl rfl (v_assign rfl rfl) ?_
  refine o_q _ rfl rfl rfl (v_assign rfl rfl) ?_
  refine o_nil ?_
  with_reducible refine r_then ?_
  refine r_seq ?_
  refine r_seq ?_
  refine r_region ?_
  refine o_q _ rfl rfl rfl (v_ldW rfl Try.underlying28 rfl inf28 rfl rfl) ?_
  refine o_q _ rfl rfl rfl (v_cast (v := .bool false) (OpQ.fn (Burst_v B bo ro so bc rc sc hl1 hl2 hl3) rfl rfl SubRC.sub) (congrArg Value.bool (decide_eq_false hng))) ?_
  refine o_q _ rfl rfl rfl (v_not rfl rfl) ?_
  refine o_nil ?_
  with_reducible refine r_then ?_
  refine r_cond rfl (fun hc9 => ?_) (fun hc9 => ?_)
  ·
    refine r_seq ?_
    refine r_region ?_
    refine o_q _ rfl rfl rfl (v_assign rfl rfl) ?_
    refine o_q _ rfl rfl rfl (v_assign rfl rfl) ?_
    refine o_nil ?_
    with_reducible refine r_then ?_
    refine r_ret ?_
    with_reducible refine r_then_ret ?_
    exact r_retv2 (Rd.two rfl (RdI.tmp rfl) (RdI.tmp rfl)) rfl SelMC.sel SubRC.sub
  ·
    (exfalso; revert hc9; decide)
set_option maxHeartbeats 4000000 in
theorem told_2 (hl1 : B.banks.length ≤ 40) (hl2 : B.rain.length ≤ 40) (hl3 : B.signs.length ≤ 40) (hg : GoodB B) : FnV Try.prog 51 [valB B bo ro so bc rc sc, .bool false] [rowD bo 4 encB B.banks, rowD ro 2 encS B.rain, rowD so 3 encG B.signs] (.tuple #[.slice none 0 0, i64 2]) := by
  refine FnV.intro Try.call51 Try.func51 rfl Try.ntmps51 rfl ?_
  intro W M Rf
  refine r_seq ?_
  refine r_region ?_
  refine o_boxA rfl rfl rfl rfl rfl (fun b2 => ?_)
  refine o_q _ rfl rfl rfl (v_assign rfl rfl) ?_
  refine o_q _ rfl rfl rfl (v_assign rfl rfl) ?_
  refine o_nil ?_
  with_reducible refine r_then ?_
  refine r_seq ?_
  refine r_seq ?_
  refine r_region ?_
  refine o_q _ rfl rfl rfl (v_ldW rfl Try.underlying28 rfl inf28 rfl rfl) ?_
  refine o_q _ rfl rfl rfl (v_cast (v := .bool true) (OpQ.fn (Burst_v B bo ro so bc rc sc hl1 hl2 hl3) rfl rfl SubRC.sub) (congrArg Value.bool (decide_eq_true hg))) ?_
  refine o_q _ rfl rfl rfl (v_not rfl rfl) ?_
  refine o_nil ?_
  with_reducible refine r_then ?_
  refine r_cond rfl (fun hc9 => ?_) (fun hc9 => ?_)
  ·
    (exfalso; revert hc9; decide)
  ·
    refine r_skip ?_
    with_reducible refine r_then ?_
    refine r_seq ?_
    refine r_seq ?_
    refine r_region ?_
    refine o_q _ rfl rfl rfl (v_move rfl rfl) ?_
    refine o_q _ rfl rfl rfl (v_not rfl rfl) ?_
    refine o_nil ?_
    with_reducible refine r_then ?_
    refine r_cond rfl (fun hc11 => ?_) (fun hc11 => ?_)
    ·
      refine r_seq ?_
      refine r_region ?_
      refine o_q _ rfl rfl rfl (v_assign rfl rfl) ?_
      refine o_q _ rfl rfl rfl (v_assign rfl rfl) ?_
      refine o_nil ?_
      with_reducible refine r_then ?_
      refine r_ret ?_
      with_reducible refine r_then_ret ?_
      exact r_retv2 (Rd.two rfl (RdI.tmp rfl) (RdI.tmp rfl)) rfl SelMC.sel SubRC.sub
    ·
      (exfalso; revert hc11; decide)
set_option maxHeartbeats 4000000 in
theorem told_10 (hl1 : B.banks.length ≤ 40) (hl2 : B.rain.length ≤ 40) (hl3 : B.signs.length ≤ 40) (hg : GoodB B) (hw : wayN B (B.rain.length + 1) ≤ 1000) (hc : canB B (allS B) 0 false = false) : FnV Try.prog 51 [valB B bo ro so bc rc sc, .bool true] [rowD bo 4 encB B.banks, rowD ro 2 encS B.rain, rowD so 3 encG B.signs] (.tuple #[.slice none 0 0, i64 10]) := by
  have hb1 := hg.nb
  have hb2 := hg.nr
  have hb3 := hg.ns
  have hal : allS B < 64 := by unfold allS; have := (pow_62 (show B.signs.length ≤ 5 by omega) (by omega)).1; have h5 : 2 ^ B.signs.length ≤ 2 ^ 5 := Nat.pow_le_pow_right (by omega) (by omega); omega
  refine FnV.intro Try.call51 Try.func51 rfl Try.ntmps51 rfl ?_
  intro W M Rf
  refine r_seq ?_
  refine r_region ?_
  refine o_boxA rfl rfl rfl rfl rfl (fun b2 => ?_)
  refine o_q _ rfl rfl rfl (v_assign rfl rfl) ?_
  refine o_q _ rfl rfl rfl (v_assign rfl rfl) ?_
  refine o_nil ?_
  with_reducible refine r_then ?_
  refine r_seq ?_
  refine r_seq ?_
  refine r_region ?_
  refine o_q _ rfl rfl rfl (v_ldW rfl Try.underlying28 rfl inf28 rfl rfl) ?_
  refine o_q _ rfl rfl rfl (v_cast (v := .bool true) (OpQ.fn (Burst_v B bo ro so bc rc sc hl1 hl2 hl3) rfl rfl SubRC.sub) (congrArg Value.bool (decide_eq_true hg))) ?_
  refine o_q _ rfl rfl rfl (v_not rfl rfl) ?_
  refine o_nil ?_
  with_reducible refine r_then ?_
  refine r_cond rfl (fun hc9 => ?_) (fun hc9 => ?_)
  ·
    (exfalso; revert hc9; decide)
  ·
    refine r_skip ?_
    with_reducible refine r_then ?_
    refine r_seq ?_
    refine r_seq ?_
    refine r_region ?_
    refine o_q _ rfl rfl rfl (v_move rfl rfl) ?_
    refine o_q _ rfl rfl rfl (v_not rfl rfl) ?_
    refine o_nil ?_
    with_reducible refine r_then ?_
    refine r_cond rfl (fun hc11 => ?_) (fun hc11 => ?_)
    ·
      (exfalso; revert hc11; decide)
    ·
      refine r_skip ?_
      with_reducible refine r_then ?_
      refine r_seq ?_
      refine Imp.nilL 82 2 encT2 ?_
      refine Imp.derive (ψ := waysF [] []) ?_ (fun V _ => waysF_nil)
      refine Imp.derive (ψ := rowD none 1 encI ([] : List Int)) ?_ (fun V _ => row_nil)
      refine r_par' 3 mixed (by kernel_rfl) (by rfl) ?_
      refine p_q _ rfl rfl rfl (fun _ _ => v_ldW rfl Try.underlying28 rfl inf28 rfl rfl) ?_
      refine p_q _ rfl rfl rfl (fun _ _ => v_ldW rfl Try.underlying28 rfl inf28 rfl rfl) ?_
      refine p_q _ rfl rfl rfl (fun _ _ => OpQ.fn (revery_v B bo ro so bc rc sc (by omega)) rfl rfl SubRC.sub) ?_
      refine p_nil2 (by simp only [List.nil_append, List.cons_append]; rfl) rfl ?_
      refine f_q rfl ?_
      refine f_q rfl ?_
      refine f_q rfl ?_
      refine f_nil ?_
      refine o_fnX (goes_all B bo ro so bc rc sc hg (allS B) hal hw) rfl rfl rfl rfl rfl SubRC.sub (fun y hy => ?_)
      all_goals
        obtain ⟨yv, ys⟩ := y
        dsimp only at hy
        refine Imp.settleS yv encT2_len (fun so2 sc2 hv => ?_)
        dsimp only at hv
        subst hv
        have hyl := hy.1
        have hcz := can_zero hg (m := allS B)
        refine o_q _ rfl rfl rfl (v_assign rfl rfl) ?_
        refine o_nil ?_
        with_reducible refine r_then ?_
        refine r_seq ?_
        refine r_seq ?_
        refine r_region ?_
        refine o_q _ rfl rfl rfl (v_move rfl rfl) ?_
        refine o_q _ rfl rfl rfl (v_len rfl rfl Try.underlying78 rfl) ?_
        refine o_q _ rfl rfl rfl (v_eql rfl rfl rfl) ?_
        refine o_nil ?_
        with_reducible refine r_then ?_
        refine r_condd rfl (fun hc18 => ?_) (fun hc18 => ?_)
        ·
          refine r_seq ?_
          refine r_region ?_
          refine o_q _ rfl rfl rfl (v_assign rfl rfl) ?_
          refine o_q _ rfl rfl rfl (v_assign rfl rfl) ?_
          refine o_nil ?_
          with_reducible refine r_then ?_
          refine r_ret ?_
          with_reducible refine r_then_ret ?_
          exact r_retv2 (Rd.two rfl (RdI.tmp rfl) (RdI.tmp rfl)) rfl SelMC.sel SubRC.sub
        ·
          refine r_skip ?_
          with_reducible refine r_then ?_
          refine r_seq ?_
          refine r_region ?_
          refine o_q _ rfl rfl rfl (v_move rfl rfl) ?_
          refine o_q _ rfl rfl rfl (v_assign rfl rfl) ?_
          refine o_q _ rfl rfl rfl (v_assign rfl rfl) ?_
          refine o_nil ?_
          with_reducible refine r_then ?_
          refine r_ret ?_
          (exfalso; exact absurd (hcz.2 (by omega)) (by rw [hc]; decide))
theorem told_e (hl1 : B.banks.length ≤ 40) (hl2 : B.rain.length ≤ 40) (hl3 : B.signs.length ≤ 40) (hw : GoodB B → wayN B (B.rain.length + 1) ≤ 1000) (v : Bool) {e : Int} (he : chkB B v = e) (hn : e ≠ 0) : FnV Try.prog 51 [valB B bo ro so bc rc sc, .bool v] [rowD bo 4 encB B.banks, rowD ro 2 encS B.rain, rowD so 3 encG B.signs] (.tuple #[.slice none 0 0, i64 e]) := by
  subst he
  by_cases hg : GoodB B
  · cases v
    · rw [chkB_2 hg rfl]; exact told_2 B bo ro so bc rc sc hl1 hl2 hl3 hg
    · cases hc : canB B (allS B) 0 false
      · rw [chkB_10 hg rfl hc]; exact told_10 B bo ro so bc rc sc hl1 hl2 hl3 hg (hw hg) hc
      · exact absurd (chkB_0 hg rfl hc) hn
  · rw [chkB_1 hg]; exact told_1 B bo ro so bc rc sc hl1 hl2 hl3 hg v
end Go.Proofs.Ytoggggnlponfhaa


namespace Go.Proofs.Ytoggggnlponfhaa
open Go.G Burst8
attribute [local irreducible] fw fwR fwC emptyT tabOf knownT canB boundsL
def hullN (f : Nat → Burst8.Span) : Nat → Burst8.Span
  | 0 => f 0
  | k + 1 => ⟨min (hullN f k).lo (f k).lo, max (hullN f k).hi (f k).hi⟩
theorem hullN_bd (f : Nat → Burst8.Span) : ∀ n, (∀ j, j < n → (hullN f n).lo ≤ (f j).lo ∧ (f j).hi ≤ (hullN f n).hi) ∧ (∃ j, j < n + 1 ∧ (j < n ∨ j = 0) ∧ (hullN f n).lo = (f j).lo) ∧ ∃ j, j < n + 1 ∧ (j < n ∨ j = 0) ∧ (hullN f n).hi = (f j).hi
  | 0 => ⟨fun j hj => absurd hj (by omega), ⟨0, by omega, .inr rfl, rfl⟩, ⟨0, by omega, .inr rfl, rfl⟩⟩
  | k + 1 => by
    obtain ⟨h1, ⟨a, ha, ha0, ha2⟩, b, hb, hb0, hb2⟩ := hullN_bd f k
    have e1 : (hullN f (k + 1)).lo = min (hullN f k).lo (f k).lo := rfl
    have e2 : (hullN f (k + 1)).hi = max (hullN f k).hi (f k).hi := rfl
    rw [e1, e2]
    refine ⟨fun j hj => ?_, ?_, ?_⟩
    · by_cases e : j = k
      · subst e; omega
      · have := h1 j (by omega); omega
    · by_cases e : (hullN f k).lo ≤ (f k).lo
      · exact ⟨a, by omega, by omega, by omega⟩
      · exact ⟨k, by omega, by omega, by omega⟩
    · by_cases e : (f k).hi ≤ (hullN f k).hi
      · exact ⟨b, by omega, by omega, by omega⟩
      · exact ⟨k, by omega, by omega, by omega⟩
theorem hullN_spec (f : Nat → Burst8.Span) {n : Nat} (hn : 0 < n) : (∀ j, j < n → (hullN f n).lo ≤ (f j).lo ∧ (f j).hi ≤ (hullN f n).hi) ∧ (∃ j, j < n ∧ (hullN f n).lo = (f j).lo) ∧ ∃ j, j < n ∧ (hullN f n).hi = (f j).hi := by
  obtain ⟨h1, ⟨a, _, ha0, ha2⟩, b, _, hb0, hb2⟩ := hullN_bd f n
  exact ⟨h1, ⟨a, by omega, ha2⟩, b, by omega, hb2⟩
abbrev wayAt (B : Bog) (k : Nat) : Tr := (allW B (allS B)).getD k default
/-- The margin of a bank on a day, by a way. -/
def ofT (B : Bog) (i d k : Nat) : Burst8.Span := ⟨((wayAt B k).2.getD i default).lo - (wayAt B k).1.getD d default, ((wayAt B k).2.getD i default).hi - (wayAt B k).1.getD d default⟩
def watT (B : Bog) (d k : Nat) : Burst8.Span := ⟨(wayAt B k).1.getD d default, (wayAt B k).1.getD d default⟩
theorem in_all {B : Bog} {k : Nat} (h : k < (allW B (allS B)).length) : wayAt B k ∈ allW B (allS B) := by
  simp [wayAt, List.getD_eq_getElem?_getD, h]
theorem at_all {B : Bog} {t : Tr} (h : t ∈ allW B (allS B)) : ∃ k, k < (allW B (allS B)).length ∧ wayAt B k = t := by
  obtain ⟨i, hi, he⟩ := List.getElem_of_mem h
  exact ⟨i, hi, by simp [wayAt, List.getD_eq_getElem?_getD, hi, he]⟩
section
variable {B : Bog} (hg : GoodB B)
include hg
theorem los_in {m : Nat} {t : Tr} (ht : t ∈ allW B m) : t.2.length = B.banks.length ∧ InL t.2 (fun i => (t.2.getD i default).lo) ∧ InL t.2 (fun i => (t.2.getD i default).hi) := by
  obtain ⟨_, _, _, h2⟩ := mem_all.1 ht
  obtain ⟨a, b, _⟩ := fitB_some hg h2
  exact ⟨a, fun i hi => ⟨Int.le_refl _, b i hi⟩, fun i hi => ⟨b i hi, Int.le_refl _⟩⟩
theorem all_bd {m : Nat} {t : Tr} (ht : t ∈ allW B m) : t.1.length = B.rain.length + 1 ∧ t.2.length = B.banks.length ∧ (∀ d, d ≤ B.rain.length → -140 ≤ t.1.getD d default ∧ t.1.getD d default ≤ 140) ∧ ∀ i, i < B.banks.length → (-20 ≤ (t.2.getD i default).lo ∧ (t.2.getD i default).lo ≤ 60) ∧ -20 ≤ (t.2.getD i default).hi ∧ (t.2.getD i default).hi ≤ 60 := by
  obtain ⟨h1, h2, h3⟩ := los_in hg ht
  have h4 := way_in hg ht h2
  have h5 := way_in hg ht h3
  exact ⟨(mem_all.1 ht).1, h1, fun d hd => h4.wb' hg hd, fun i hi => ⟨h4.kb hg hi, h5.kb hg hi⟩⟩
theorem all_pos (hc : canB B (allS B) 0 false = true) : 0 < (allW B (allS B)).length := (can_all hg).1 hc
theorem hull_margin (hc : canB B (allS B) 0 false = true) {i d : Nat} (hi : i < B.banks.length) (hd : d ≤ B.rain.length) : hullN (ofT B i d) (allW B (allS B)).length = marginT (tB B) i d := by
  obtain ⟨h1, ⟨a, ha, ha2⟩, b, hb, hb2⟩ := hullN_spec (ofT B i d) (all_pos hg hc)
  have e := ends_eq (p := fun v => ∃ k w, TrW B (allS B) k w ∧ k i - w d = v) (lo := (hullN (ofT B i d) (allW B (allS B)).length).lo) (hi := (hullN (ofT B i d) (allW B (allS B)).length).hi) (lo' := 0 - tat (tB B) (5 + d) (1 + i)) (hi' := tat (tB B) (1 + i) (5 + d))
    (by
      rintro v ⟨k, w, h, rfl⟩
      obtain ⟨t, ht, hk, hw⟩ := way_of hg h
      obtain ⟨j, hj, rfl⟩ := at_all ht
      have h2 := h1 j hj
      have h3 := hk i (by rw [(los_in hg ht).1]; exact hi)
      have h4 : atW (wayAt B j).1 d = w d := hw d hd
      have h5 : (ofT B i d j).lo = ((wayAt B j).2.getD i default).lo - atW (wayAt B j).1 d := rfl
      have h6 : (ofT B i d j).hi = ((wayAt B j).2.getD i default).hi - atW (wayAt B j).1 d := rfl
      omega)
    ⟨_, _, way_in hg (in_all ha) (los_in hg (in_all ha)).2.1, ha2.symm⟩
    ⟨_, _, way_in hg (in_all hb) (los_in hg (in_all hb)).2.2, hb2.symm⟩
    (by rintro v ⟨k, w, h, rfl⟩; exact margin_in hg h hi hd)
    (margin_mid hg hc hi hd (Int.le_refl _) (known_le hg hc (by have := hg.nb; have := hg.nr; omega) (by have := hg.nb; have := hg.nr; omega)))
    (margin_mid hg hc hi hd (known_le hg hc (by have := hg.nb; have := hg.nr; omega) (by have := hg.nb; have := hg.nr; omega)) (Int.le_refl _))
  exact span_eqI e.1 e.2
end
def minTo (f : Nat → Int) : Nat → Int
  | 0 => f 0
  | j + 1 => min (minTo f j) (f j)
theorem minTo_s (f : Nat → Int) (j : Nat) : minTo f (j + 1) = min (minTo f j) (f j) := rfl
theorem minTo_bd (f : Nat → Int) : ∀ n, (∀ j, j < n → minTo f n ≤ f j) ∧ ∃ j, j < n + 1 ∧ (j < n ∨ j = 0) ∧ minTo f n = f j
  | 0 => ⟨fun j hj => absurd hj (by omega), 0, by omega, .inr rfl, rfl⟩
  | k + 1 => by
    obtain ⟨h1, a, ha, ha0, ha2⟩ := minTo_bd f k
    rw [minTo_s]
    refine ⟨fun j hj => ?_, ?_⟩
    · by_cases e : j = k
      · subst e; omega
      · have := h1 j (by omega); omega
    · by_cases e : minTo f k ≤ f k
      · exact ⟨a, by omega, by omega, by omega⟩
      · exact ⟨k, by omega, by omega, by omega⟩
theorem min_worst (T : Tab) (k d : Nat) : minTo (fun j => (marginT T k j).lo) (d + 1) = worstT T k d := by
  obtain ⟨h1, a, _, ha0, ha2⟩ := minTo_bd (fun j => (marginT T k j).lo) (d + 1)
  obtain ⟨b, hb, hb2⟩ := worst_at T k d
  have h3 := h1 b (by omega)
  have h4 := worst_le (T := T) (k := k) (d := d) (j := a) (by omega)
  omega
theorem first_all {T : Tab} {nb d : Nat} (hn : 0 < nb) : 0 ≤ (firstT T nb d).2 ↔ ∀ k, k < nb → 0 ≤ worstT T k d := by
  obtain ⟨h1, h2, h3, _⟩ := leastN_spec (fun k => worstT T k d) nb hn
  constructor
  · intro h k hk
    have e1 := h3 k hk
    have e2 : (firstT T nb d).2 = (leastN (fun k => worstT T k d) nb).2 := rfl
    omega
  · intro h
    have e1 := h _ h1
    have e2 : (firstT T nb d).2 = (leastN (fun k => worstT T k d) nb).2 := rfl
    omega
/-- By a way no bank need move up to a day. -/
abbrev StillT (B : Bog) (d j : Nat) : Prop := ∀ i, i < B.banks.length → ∀ e, e ≤ d → (wayAt B j).1.getD e default ≤ ((wayAt B j).2.getD i default).hi
theorem can_still {B : Bog} (hg : GoodB B) {d : Nat} (hd : d ≤ B.rain.length) : canB B (allS B) (d : Int) true = true ↔ ∃ j, j < (allW B (allS B)).length ∧ StillT B d j := by
  rw [can_calm hg]
  constructor
  · rintro ⟨k, w, h, hcm⟩
    obtain ⟨t, ht, hk, hw⟩ := way_of hg h
    obtain ⟨j, hj, rfl⟩ := at_all ht
    refine ⟨j, hj, fun i hi e he => ?_⟩
    have h1 := hcm i hi e (by omega) (by omega)
    have h2 := hk i (by rw [(los_in hg ht).1]; exact hi)
    have h3 : atW (wayAt B j).1 e = w e := hw e (by omega)
    have h4 : atW (wayAt B j).1 e = (wayAt B j).1.getD e default := rfl
    omega
  · rintro ⟨j, hj, h⟩
    exact ⟨_, _, way_in hg (in_all hj) (los_in hg (in_all hj)).2.2, fun i hi e _ he => h i hi e (by omega)⟩
/-- .. of the banks before the i-th, and of this one before day e. -/
def stillTo (B : Bog) (d j i e : Nat) : Prop := (∀ i', i' < i → ∀ e', e' ≤ d → (wayAt B j).1.getD e' default ≤ ((wayAt B j).2.getD i' default).hi) ∧ ∀ e', e' < e → (wayAt B j).1.getD e' default ≤ ((wayAt B j).2.getD i default).hi
instance (B : Bog) (d j i e : Nat) : Decidable (stillTo B d j i e) := by unfold stillTo; infer_instance
theorem still_0 (B : Bog) (d j : Nat) : stillTo B d j 0 0 := ⟨fun i h => absurd h (by omega), fun i h => absurd h (by omega)⟩
theorem still_s {B : Bog} {d j i e : Nat} : stillTo B d j i (e + 1) ↔ stillTo B d j i e ∧ (wayAt B j).1.getD e default ≤ ((wayAt B j).2.getD i default).hi := by
  constructor
  · exact fun h => ⟨⟨h.1, fun e' he => h.2 e' (by omega)⟩, h.2 e (by omega)⟩
  · rintro ⟨⟨h1, h2⟩, h3⟩
    refine ⟨h1, fun e' he => ?_⟩
    by_cases x : e' = e
    · subst x; exact h3
    · exact h2 e' (by omega)
theorem still_n {B : Bog} {d j i : Nat} : stillTo B d j (i + 1) 0 ↔ stillTo B d j i (d + 1) := by
  constructor
  · exact fun h => ⟨fun i' hi => h.1 i' (by omega), fun e' he => h.1 i (by omega) e' (by omega)⟩
  · rintro ⟨h1, h2⟩
    refine ⟨fun i' hi e' he => ?_, fun e' he => absurd he (by omega)⟩
    by_cases x : i' = i
    · subst x; exact h2 e' (by omega)
    · exact h1 i' (by omega) e' he
theorem still_all {B : Bog} {d j : Nat} : stillTo B d j B.banks.length 0 ↔ StillT B d j := ⟨fun h => h.1, fun h => ⟨h, fun e he => absurd he (by omega)⟩⟩
theorem can_none {B : Bog} (hg : GoodB B) {d : Nat} (hd : d ≤ B.rain.length) (h : ∀ j, j < (allW B (allS B)).length → ¬ StillT B d j) : canB B (allS B) (d : Int) true = false := by
  cases e : canB B (allS B) (d : Int) true
  · rfl
  · obtain ⟨j, hj, h2⟩ := (can_still hg hd).1 e
    exact absurd h2 (h j hj)
/-! ### the least set that clashes -/
theorem pop_full : ∀ n, n < 6 → ∀ k, k < 2 ^ n - 1 → pop k < pop (2 ^ n - 1) := by decide +kernel
/-- The least set of those before the k-th, by number of signs, and the whole if there is none less. -/
structure LeastTo (B : Bog) (k c : Nat) : Prop where
  le : c ≤ allS B
  no : canB B c 0 false = false
  be : ∀ j, j < k → j ≤ allS B → canB B j 0 false = false → pop c ≤ pop j ∧ (pop j = pop c → c ≤ j)
  or : c = allS B ∨ c < k
theorem least_0 {B : Bog} (hc : canB B (allS B) 0 false = false) : LeastTo B 0 (allS B) := ⟨Nat.le_refl _, hc, fun j hj => absurd hj (by omega), .inl rfl⟩
theorem least_y {B : Bog} {k c : Nat} (h : LeastTo B k c) (hk : k ≤ allS B) (h1 : pop k < pop c) (h2 : canB B k 0 false = false) : LeastTo B (k + 1) k := by
  refine ⟨hk, h2, fun j hj hje hjc => ?_, .inr (by omega)⟩
  by_cases e : j = k
  · subst e; exact ⟨Nat.le_refl _, fun _ => Nat.le_refl _⟩
  · have := (h.be j (by omega) hje hjc).1
    exact ⟨by omega, fun hx => by omega⟩
theorem least_n {B : Bog} (hg : GoodB B) {k c : Nat} (h : LeastTo B k c) (hn : ¬ (pop k < pop c ∧ canB B k 0 false = false)) : LeastTo B (k + 1) c := by
  refine ⟨h.le, h.no, fun j hj hje hjc => ?_, by have := h.or; omega⟩
  by_cases e : j = k
  · subst e
    have h1 : ¬ pop j < pop c := fun x => hn ⟨x, hjc⟩
    refine ⟨by omega, fun hx => ?_⟩
    rcases h.or with hcx | hcx
    · by_cases e2 : j = allS B
      · omega
      · have hns := hg.ns
        have := pop_full B.signs.length (by omega) j (by show j < allS B; omega)
        rw [hcx] at h1
        exact absurd this h1
    · omega
  · exact h.be j (by omega) hje hjc
theorem least_set {B : Bog} (hcf : canB B (allS B) 0 false = false) {k c : Nat} (h : LeastTo B k c) (hk : allS B < k) : c = setB B := by
  have hp : 0 < 2 ^ B.signs.length := Nat.two_pow_pos _
  have e : allS B = 2 ^ B.signs.length - 1 := rfl
  obtain ⟨s1, s2, s3⟩ := set_spec hcf
  obtain ⟨a1, a2⟩ := h.be (setB B) (by omega) (by omega) s2
  obtain ⟨b1, b2⟩ := s3 c (by have := h.le; omega) h.no
  have : pop (setB B) = pop c := by omega
  have := a2 this
  have := b2 (by omega)
  omega
end Go.Proofs.Ytoggggnlponfhaa


namespace Go.Proofs.Ytoggggnlponfhaa
open Go.G Burst8
set_option maxRecDepth 1000000
attribute [local irreducible] G.ParO G.Fin
attribute [local irreducible] fw fwR fwC emptyT tabOf knownT canB boundsL
variable (B : Bog) (bo ro so : Option Addr) (bc rc sc : Nat) (bb mb : Nat)
attribute [local irreducible] leastU setB pop
set_option maxHeartbeats 4000000 in
theorem hullm_v (hg : GoodB B) (hc : canB B (allS B) 0 false = true) (tq : Option Addr) (tc : Nat) (xs : List TrV) (hx : RowsW xs (allW B (allS B))) (hn : (allW B (allS B)).length ≤ 1000) (i d : Nat) (hi : i < B.banks.length) (hd : d ≤ B.rain.length) : FnV Try.prog 58 [.slice tq xs.length tc, i64 (i : Nat), i64 (d : Nat)] [rowD tq 2 encT2 xs, waysF xs (allW B (allS B))] (vS (hullN (ofT B i d) xs.length)) := by
  have hb1 := hg.nb
  have hb2 := hg.nr
  have hb3 := hg.ns
  have hxl := hx.1
  have hpo := all_pos hg hc
  refine FnV.intro Try.call58 Try.func58 rfl Try.ntmps58 rfl ?_
  intro W M Rf
  refine r_seq ?_
  refine r_region ?_
  refine o_alloc rfl inf24 rfl rfl rfl rfl rfl (fun b6 => ?_)
  refine o_nil ?_
  with_reducible refine r_then ?_
  refine r_seq ?_
  refine Imp.derive (ψ := rowD (xs.getD 0 default).wo 1 encI (wayAt B 0).1) ?_ (fun V hV => ((hV (waysF xs (allW B (allS B))) (by simp)) 0 (by omega)).1)
  refine Imp.derive (ψ := rowD (xs.getD 0 default).ao 2 encS (wayAt B 0).2) ?_ (fun V hV => ((hV (waysF xs (allW B (allS B))) (by simp)) 0 (by omega)).2)
  obtain ⟨q1, q2, q3, q4⟩ := all_bd hg (in_all (k := 0) (by omega))
  have q5 := q3 d (by omega)
  have q6 := q4 i (by omega)
  refine r_region ?_
  refine o_q _ rfl rfl rfl (v_move rfl rfl) ?_
  refine o_q _ rfl rfl rfl (v_indexAddrSn (k := 0) rfl Try.underlying78 inf82 rfl rfl rfl (by omega) rfl) ?_
  refine o_q _ rfl rfl rfl (v_cast (v := .agg #[.slice (xs.getD 0 default).wo (wayAt B 0).1.length (xs.getD 0 default).wc, .slice (xs.getD 0 default).ao (wayAt B 0).2.length (xs.getD 0 default).ac]) (v_loadEN (us := encT2 (xs.getD 0 default)) rfl Try.underlying82 rfl inf82 rfl (by omega) rfl rfl rfl) (by rw [← (hx.2 0 (by omega)).1, ← (hx.2 0 (by omega)).2]; rfl)) ?_
  refine o_q _ rfl rfl rfl (v_move rfl rfl) ?_
  refine o_q _ rfl rfl rfl (v_move rfl rfl) ?_
  refine o_q _ rfl rfl rfl (v_cast (v := vS (ofT B i d 0)) (OpQ.fn (of_v (wayAt B 0).1 (wayAt B 0).2 _ _ _ _ i d (by omega) (by omega) (by omega) (by omega)) rfl rfl SubRC.sub) rfl) ?_
  refine o_alloc rfl inf24 rfl rfl rfl rfl rfl (fun b7 => ?_)
  refine o_st rfl inf24 rfl rfl rfl rfl rfl rfl rfl rfl ?_
  refine o_nil ?_
  with_reducible refine r_then ?_
  refine r_seq ?_
  refine r_seq ?_
  refine r_region ?_
  refine o_q _ rfl rfl rfl (v_assign rfl rfl) ?_
  refine o_nil ?_
  with_reducible refine r_then ?_
  refine r_block ?_
  refine r_loop (ι := Nat) (fun k => k ≤ xs.length) (fun k => [(0, .slice tq xs.length tc), (1, i64 (i : Nat)), (2, i64 (d : Nat)), (6, pt b6 0), (7, pt b7 0), (8, i64 k)]) (fun k => bx b7 24 [i64 (hullN (ofT B i d) k).lo, i64 (hullN (ofT B i d) k).hi] :: bx b6 24 [i64 0, i64 0] :: M) (fun k => [rowD tq 2 encT2 xs, waysF xs (allW B (allS B))] ++ Rf) (fun k => xs.length - k) 0 ?_ ?_ ?_
  ·
    refine Imp.box_to b6 [i64 0, i64 0] rfl ?_
    refine Imp.box_to b7 [i64 (hullN (ofT B i d) 0).lo, i64 (hullN (ofT B i d) 0).hi] rfl ?_
    exact r_here (by repeat (first | exact FSub.nil | refine FSub.cons rfl ?_)) SelMC.sel SubRC.sub
  ·
    omega
  ·
    rintro k hI0
    have hI : k ≤ xs.length := hI0
    refine r_seq ?_
    refine r_seq ?_
    refine r_region ?_
    refine o_q _ rfl rfl rfl (v_move rfl rfl) ?_
    refine o_q _ rfl rfl rfl (v_move rfl rfl) ?_
    refine o_q _ rfl rfl rfl (v_len rfl rfl Try.underlying78 rfl) ?_
    refine o_q _ rfl rfl rfl (v_lss rfl rfl rfl) ?_
    refine o_nil ?_
    with_reducible refine r_then ?_
    refine r_condd rfl (fun hc18 => ?_) (fun hc18 => ?_)
    ·
      refine r_skip ?_
      with_reducible refine r_then ?_
      refine r_seq ?_
      refine r_block ?_
      refine Imp.derive (ψ := rowD (xs.getD k default).wo 1 encI (wayAt B k).1) ?_ (fun V hV => ((hV (waysF xs (allW B (allS B))) (by simp)) k (by omega)).1)
      refine Imp.derive (ψ := rowD (xs.getD k default).ao 2 encS (wayAt B k).2) ?_ (fun V hV => ((hV (waysF xs (allW B (allS B))) (by simp)) k (by omega)).2)
      obtain ⟨q1, q2, q3, q4⟩ := all_bd hg (in_all (k := k) (by omega))
      have q5 := q3 d (by omega)
      have q6 := q4 i (by omega)
      refine r_par' 8 mixed (by kernel_rfl) (by rfl) ?_
      refine p_q _ rfl rfl rfl (fun _ _ => v_ldW rfl Try.underlying24 rfl inf24 rfl rfl) ?_
      refine p_q _ rfl rfl rfl (fun _ _ => v_move rfl rfl) ?_
      refine p_q _ rfl rfl rfl (fun _ _ => v_move rfl rfl) ?_
      refine p_q _ rfl rfl rfl (fun _ _ => v_indexAddrSn rfl Try.underlying78 inf82 rfl rfl rfl (by omega) rfl) ?_
      refine p_q _ rfl rfl rfl (fun _ _ => v_cast (v := .agg #[.slice (xs.getD k default).wo (wayAt B k).1.length (xs.getD k default).wc, .slice (xs.getD k default).ao (wayAt B k).2.length (xs.getD k default).ac]) (v_loadEN (us := encT2 (xs.getD k default)) rfl Try.underlying82 rfl inf82 rfl (by omega) rfl rfl rfl) (by rw [← (hx.2 k (by omega)).1, ← (hx.2 k (by omega)).2]; rfl)) ?_
      refine p_q _ rfl rfl rfl (fun _ _ => v_move rfl rfl) ?_
      refine p_q _ rfl rfl rfl (fun _ _ => v_move rfl rfl) ?_
      refine p_q _ rfl rfl rfl (fun _ _ => v_cast (v := vS (ofT B i d k)) (OpQ.fn (of_v (wayAt B k).1 (wayAt B k).2 _ _ _ _ i d (by omega) (by omega) (by omega) (by omega)) rfl rfl SubRC.sub) rfl) ?_
      refine p_nil2 (by simp only [List.nil_append, List.cons_append]; rfl) rfl ?_
      refine f_q rfl ?_
      refine f_q rfl ?_
      refine f_q rfl ?_
      refine f_q rfl ?_
      refine f_q rfl ?_
      refine f_q rfl ?_
      refine f_q rfl ?_
      refine f_q rfl ?_
      refine f_nil ?_
      refine o_q _ rfl rfl rfl (v_cast (v := vS (hullN (ofT B i d) (k + 1))) (OpQ.call (hull_v (hullN (ofT B i d) k) (ofT B i d k)) rfl [] [] rfl rfl (by simp) SubRC.sub) rfl) ?_
      refine o_st rfl inf24 rfl rfl rfl rfl rfl rfl rfl rfl ?_
      refine o_nil ?_
      with_reducible refine r_in_normal ?_; refine r_then ?_
      refine r_region ?_
      refine o_q _ rfl rfl rfl (v_move rfl rfl) ?_
      refine o_q _ rfl rfl rfl (v_add rfl rfl rfl (by omega)) ?_
      refine o_q _ rfl rfl rfl (v_assign rfl rfl) ?_
      refine o_nil ?_
      with_reducible refine r_then ?_
      refine r_next (k + 1) ?_ ?_ ?_
      ·
        refine Imp.box_to b7 [i64 (hullN (ofT B i d) (k + 1)).lo, i64 (hullN (ofT B i d) (k + 1)).hi] rfl ?_
        exact r_here (by repeat (first | exact FSub.nil | refine FSub.cons rfl ?_)) SelMC.sel SubRC.sub
      ·
        omega
      ·
        omega
    ·
      refine r_exit ?_
      with_reducible refine r_then_exit ?_; refine r_then_exit ?_; refine r_in_here ?_; refine r_then ?_
      refine r_seq ?_
      refine r_region ?_
      refine o_q _ rfl rfl rfl (v_ldW rfl Try.underlying24 rfl inf24 rfl rfl) ?_
      refine o_st rfl inf24 rfl rfl rfl rfl rfl rfl rfl rfl ?_
      refine o_nil ?_
      with_reducible refine r_then ?_
      refine r_ret ?_
      obtain rfl : k = xs.length := by omega
      exact r_retv2 (Rd.one rfl (RdI.cellW Try.underlying24 rfl inf24 rfl rfl)) rfl SelMC.sel SubRC.sub
theorem rmargin_v (hg : GoodB B) (hc : canB B (allS B) 0 false = true) (tq : Option Addr) (tc : Nat) (xs : List TrV) (hx : RowsW xs (allW B (allS B))) (hn : (allW B (allS B)).length ≤ 1000) (i d : Nat) (hi : i < B.banks.length) (hd : d ≤ B.rain.length) : FnV Try.prog 58 [.slice tq xs.length tc, i64 (i : Nat), i64 (d : Nat)] [rowD tq 2 encT2 xs, waysF xs (allW B (allS B))] (vS (marginT (tB B) i d)) := by
  have h := hullm_v B hg hc tq tc xs hx hn i d hi hd
  rw [hx.1, hull_margin hg hc hi hd, ← hx.1] at h
  exact h
set_option maxHeartbeats 4000000 in
theorem leastm_v (hg : GoodB B) (hc : canB B (allS B) 0 false = true) (tq : Option Addr) (tc : Nat) (xs : List TrV) (hx : RowsW xs (allW B (allS B))) (hn : (allW B (allS B)).length ≤ 1000) (i d : Nat) (hi : i < B.banks.length) (hd : d ≤ B.rain.length) : FnV Try.prog 64 [.slice tq xs.length tc, i64 (i : Nat), i64 (d : Nat)] [rowD tq 2 encT2 xs, waysF xs (allW B (allS B))] (i64 (minTo (fun j => (marginT (tB B) i j).lo) (d + 1))) := by
  have hb1 := hg.nb
  have hb2 := hg.nr
  have hb3 := hg.ns
  have hxl := hx.1
  have hpo := all_pos hg hc
  refine FnV.intro Try.call64 Try.func64 rfl Try.ntmps64 rfl ?_
  intro W M Rf
  refine r_seq ?_
  refine r_region ?_
  refine o_q _ rfl rfl rfl (v_assign rfl rfl) ?_
  refine o_nil ?_
  with_reducible refine r_then ?_
  refine r_seq ?_
  refine r_region ?_
  refine o_q _ rfl rfl rfl (v_move rfl rfl) ?_
  refine o_q _ rfl rfl rfl (v_move rfl rfl) ?_
  refine o_q _ rfl rfl rfl (OpQ.fn (rmargin_v B hg hc tq tc xs hx hn i 0 (by omega) (by omega)) rfl rfl SubRC.sub) ?_
  refine o_q _ rfl rfl rfl (v_field rfl Try.underlying24 Try.underlying3 inf3 rfl rfl rfl rfl) ?_
  refine o_q _ rfl rfl rfl (v_assign rfl rfl) ?_
  refine o_nil ?_
  with_reducible refine r_then ?_
  refine r_seq ?_
  refine r_seq ?_
  refine r_region ?_
  refine o_q _ rfl rfl rfl (v_assign rfl rfl) ?_
  refine o_nil ?_
  with_reducible refine r_then ?_
  refine r_block ?_
  refine r_loop (ι := Nat) (fun k => k ≤ d + 1) (fun k => [(0, .slice tq xs.length tc), (1, i64 (i : Nat)), (2, i64 (d : Nat)), (7, i64 (minTo (fun j => (marginT (tB B) i j).lo) k)), (8, i64 k)]) (fun k => M) (fun k => [rowD tq 2 encT2 xs, waysF xs (allW B (allS B))] ++ Rf) (fun k => d + 1 - k) 0 ?_ ?_ ?_
  ·
    exact r_here (by repeat (first | exact FSub.nil | refine FSub.cons rfl ?_)) SelMC.sel SubRC.sub
  ·
    omega
  ·
    rintro k hI0
    have hI : k ≤ d + 1 := hI0
    refine r_seq ?_
    refine r_seq ?_
    refine r_region ?_
    refine o_q _ rfl rfl rfl (v_move rfl rfl) ?_
    refine o_q _ rfl rfl rfl (v_move rfl rfl) ?_
    refine o_q _ rfl rfl rfl (v_leq rfl rfl rfl) ?_
    refine o_nil ?_
    with_reducible refine r_then ?_
    refine r_condd rfl (fun hc15 => ?_) (fun hc15 => ?_)
    ·
      refine r_skip ?_
      with_reducible refine r_then ?_
      refine r_seq ?_
      refine r_block ?_
      refine r_region ?_
      refine o_q _ rfl rfl rfl (v_move rfl rfl) ?_
      refine o_q _ rfl rfl rfl (v_move rfl rfl) ?_
      refine o_q _ rfl rfl rfl (v_move rfl rfl) ?_
      refine o_q _ rfl rfl rfl (v_move rfl rfl) ?_
      refine o_q _ rfl rfl rfl (OpQ.fn (rmargin_v B hg hc tq tc xs hx hn i k (by omega) (by omega)) rfl rfl SubRC.sub) ?_
      refine o_q _ rfl rfl rfl (v_field rfl Try.underlying24 Try.underlying3 inf3 rfl rfl rfl rfl) ?_
      refine o_q _ rfl rfl rfl (v_min2 rfl rfl rfl) ?_
      refine o_q _ rfl rfl rfl (v_assign rfl rfl) ?_
      refine o_nil ?_
      with_reducible refine r_in_normal ?_; refine r_then ?_
      refine r_region ?_
      refine o_q _ rfl rfl rfl (v_move rfl rfl) ?_
      refine o_q _ rfl rfl rfl (v_add rfl rfl rfl (by omega)) ?_
      refine o_q _ rfl rfl rfl (v_assign rfl rfl) ?_
      refine o_nil ?_
      with_reducible refine r_then ?_
      refine r_next (k + 1) ?_ ?_ ?_
      ·
        exact r_here (by repeat (first | exact FSub.nil | refine FSub.cons rfl ?_)) SelMC.sel SubRC.sub
      ·
        omega
      ·
        omega
    ·
      refine r_exit ?_
      with_reducible refine r_then_exit ?_; refine r_then_exit ?_; refine r_in_here ?_; refine r_then ?_
      refine r_seq ?_
      refine r_region ?_
      refine o_q _ rfl rfl rfl (v_move rfl rfl) ?_
      refine o_q _ rfl rfl rfl (v_assign rfl rfl) ?_
      refine o_nil ?_
      with_reducible refine r_then ?_
      refine r_ret ?_
      obtain rfl : k = d + 1 := by omega
      exact r_retv2 (Rd.tmp rfl rfl) rfl SelMC.sel SubRC.sub
theorem rleast_v (hg : GoodB B) (hc : canB B (allS B) 0 false = true) (tq : Option Addr) (tc : Nat) (xs : List TrV) (hx : RowsW xs (allW B (allS B))) (hn : (allW B (allS B)).length ≤ 1000) (i d : Nat) (hi : i < B.banks.length) (hd : d ≤ B.rain.length) : FnV Try.prog 64 [.slice tq xs.length tc, i64 (i : Nat), i64 (d : Nat)] [rowD tq 2 encT2 xs, waysF xs (allW B (allS B))] (i64 (worstT (tB B) i d)) := by
  have h := leastm_v B hg hc tq tc xs hx hn i d hi hd
  rw [min_worst] at h
  exact h
set_option maxHeartbeats 4000000 in
theorem rsure_v (hg : GoodB B) (hc : canB B (allS B) 0 false = true) (tq : Option Addr) (tc : Nat) (xs : List TrV) (hx : RowsW xs (allW B (allS B))) (hn : (allW B (allS B)).length ≤ 1000) (d : Nat) (hd : d ≤ B.rain.length) : FnV Try.prog 69 [valB B bo ro so bc rc sc, .slice tq xs.length tc, i64 (d : Nat)] [rowD bo 4 encB B.banks, rowD ro 2 encS B.rain, rowD so 3 encG B.signs, rowD tq 2 encT2 xs, waysF xs (allW B (allS B))] (.bool (decide (0 ≤ (firstT (tB B) B.banks.length d).2))) := by
  have hb1 := hg.nb
  have hb2 := hg.nr
  have hb3 := hg.ns
  have hxl := hx.1
  have hpo := all_pos hg hc
  refine FnV.intro Try.call69 Try.func69 rfl Try.ntmps69 rfl ?_
  intro W M Rf
  refine r_seq ?_
  refine r_region ?_
  refine o_boxA rfl rfl rfl rfl rfl (fun b3 => ?_)
  refine o_q _ rfl rfl rfl (v_assign rfl rfl) ?_
  refine o_nil ?_
  with_reducible refine r_then ?_
  refine r_seq ?_
  refine r_seq ?_
  refine r_region ?_
  refine o_q _ rfl rfl rfl (v_assign rfl rfl) ?_
  refine o_nil ?_
  with_reducible refine r_then ?_
  refine r_block ?_
  refine r_loop (ι := Nat) (fun k => k ≤ B.banks.length ∧ ∀ j, j < k → 0 ≤ worstT (tB B) j d) (fun k => [(1, .slice tq xs.length tc), (2, i64 (d : Nat)), (3, pt b3 0), (7, i64 k)]) (fun k => bx b3 28 (cellsB B bo ro so bc rc sc) :: M) (fun k => [rowD bo 4 encB B.banks, rowD ro 2 encS B.rain, rowD so 3 encG B.signs, rowD tq 2 encT2 xs, waysF xs (allW B (allS B))] ++ Rf) (fun k => B.banks.length - k) 0 ?_ ?_ ?_
  ·
    exact r_here (by repeat (first | exact FSub.nil | refine FSub.cons rfl ?_)) SelMC.sel SubRC.sub
  ·
    exact ⟨Nat.zero_le _, fun j hj => absurd hj (by omega)⟩
  ·
    rintro k hI0
    have hI := hI0.1
    refine r_seq ?_
    refine r_seq ?_
    refine r_region ?_
    refine o_q _ rfl rfl rfl (v_move rfl rfl) ?_
    refine o_q _ rfl rfl rfl (v_fieldAddr rfl Try.underlying28 inf22 rfl rfl rfl rfl) ?_
    refine o_q _ rfl rfl rfl (v_ld1 rfl Try.underlying22 rfl rfl rfl) ?_
    refine o_q _ rfl rfl rfl (v_len rfl rfl Try.underlying22 rfl) ?_
    refine o_q _ rfl rfl rfl (v_lss rfl rfl rfl) ?_
    refine o_nil ?_
    with_reducible refine r_then ?_
    refine r_condd rfl (fun hc12 => ?_) (fun hc12 => ?_)
    ·
      refine r_skip ?_
      with_reducible refine r_then ?_
      refine r_seq ?_
      refine r_block ?_
      refine r_seq ?_
      refine r_region ?_
      refine o_q _ rfl rfl rfl (v_move rfl rfl) ?_
      refine o_q _ rfl rfl rfl (v_move rfl rfl) ?_
      refine o_q _ rfl rfl rfl (v_move rfl rfl) ?_
      refine o_q _ rfl rfl rfl (OpQ.fn (rleast_v B hg hc tq tc xs hx hn k d (by omega) (by omega)) rfl rfl SubRC.sub) ?_
      refine o_q _ rfl rfl rfl (v_lss rfl rfl rfl) ?_
      refine o_nil ?_
      with_reducible refine r_then ?_
      refine r_condd rfl (fun hc19 => ?_) (fun hc19 => ?_)
      ·
        refine r_seq ?_
        refine r_region ?_
        refine o_q _ rfl rfl rfl (v_assign rfl rfl) ?_
        refine o_nil ?_
        with_reducible refine r_then ?_
        refine r_ret ?_
        with_reducible refine r_in_ret ?_; refine r_then_ret ?_; refine r_then_ret ?_; refine r_in_ret ?_; refine r_then_ret ?_
        exact r_retv2 (Rd.tmp rfl rfl) (congrArg Value.bool (decide_eq_false (fun h => absurd ((first_all (by omega)).1 h k (by omega)) (by omega))).symm) SelMC.sel SubRC.sub
      ·
        refine r_skip ?_
        with_reducible refine r_in_normal ?_; refine r_then ?_
        refine r_region ?_
        refine o_q _ rfl rfl rfl (v_move rfl rfl) ?_
        refine o_q _ rfl rfl rfl (v_add rfl rfl rfl (by omega)) ?_
        refine o_q _ rfl rfl rfl (v_assign rfl rfl) ?_
        refine o_nil ?_
        with_reducible refine r_then ?_
        refine r_next (k + 1) ?_ ?_ ?_
        ·
          exact r_here (by repeat (first | exact FSub.nil | refine FSub.cons rfl ?_)) SelMC.sel SubRC.sub
        ·
          exact ⟨by show k + 1 ≤ _; omega, all_step hI0.2 (by omega)⟩
        ·
          omega
    ·
      refine r_exit ?_
      with_reducible refine r_then_exit ?_; refine r_then_exit ?_; refine r_in_here ?_; refine r_then ?_
      refine r_seq ?_
      refine r_region ?_
      refine o_q _ rfl rfl rfl (v_assign rfl rfl) ?_
      refine o_nil ?_
      with_reducible refine r_then ?_
      refine r_ret ?_
      exact r_retv2 (Rd.tmp rfl rfl) (congrArg Value.bool (decide_eq_true ((first_all (by omega)).2 (fun j hj => hI0.2 j (by omega)))).symm) SelMC.sel SubRC.sub
set_option maxHeartbeats 4000000 in
theorem rcan_v (hg : GoodB B) (hc : canB B (allS B) 0 false = true) (tq : Option Addr) (tc : Nat) (xs : List TrV) (hx : RowsW xs (allW B (allS B))) (hn : (allW B (allS B)).length ≤ 1000) (d : Nat) (hd : d ≤ B.rain.length) : FnV Try.prog 70 [valB B bo ro so bc rc sc, .slice tq xs.length tc, i64 (d : Nat)] [rowD bo 4 encB B.banks, rowD ro 2 encS B.rain, rowD so 3 encG B.signs, rowD tq 2 encT2 xs, waysF xs (allW B (allS B))] (.bool (canB B (allS B) (d : Int) true)) := by
  have hb1 := hg.nb
  have hb2 := hg.nr
  have hb3 := hg.ns
  have hxl := hx.1
  have hpo := all_pos hg hc
  refine FnV.intro Try.call70 Try.func70 rfl Try.ntmps70 rfl ?_
  intro W M Rf
  refine r_seq ?_
  refine r_region ?_
  refine o_boxA rfl rfl rfl rfl rfl (fun b3 => ?_)
  refine o_q _ rfl rfl rfl (v_assign rfl rfl) ?_
  refine o_nil ?_
  with_reducible refine r_then ?_
  refine r_seq ?_
  refine r_seq ?_
  refine r_region ?_
  refine o_q _ rfl rfl rfl (v_assign rfl rfl) ?_
  refine o_nil ?_
  with_reducible refine r_then ?_
  refine r_block ?_
  refine r_loop (ι := Nat) (fun j => j ≤ xs.length ∧ ∀ j', j' < j → ¬ StillT B d j') (fun j => [(1, .slice tq xs.length tc), (2, i64 (d : Nat)), (3, pt b3 0), (7, i64 j)]) (fun j => bx b3 28 (cellsB B bo ro so bc rc sc) :: M) (fun j => [rowD bo 4 encB B.banks, rowD ro 2 encS B.rain, rowD so 3 encG B.signs, rowD tq 2 encT2 xs, waysF xs (allW B (allS B))] ++ Rf) (fun j => xs.length - j) 0 ?_ ?_ ?_
  ·
    exact r_here (by repeat (first | exact FSub.nil | refine FSub.cons rfl ?_)) SelMC.sel SubRC.sub
  ·
    exact ⟨Nat.zero_le _, fun j hj => absurd hj (by omega)⟩
  ·
    rintro j hI0
    have hI := hI0.1
    refine r_seq ?_
    refine r_seq ?_
    refine r_region ?_
    refine o_q _ rfl rfl rfl (v_move rfl rfl) ?_
    refine o_q _ rfl rfl rfl (v_move rfl rfl) ?_
    refine o_q _ rfl rfl rfl (v_len rfl rfl Try.underlying78 rfl) ?_
    refine o_q _ rfl rfl rfl (v_lss rfl rfl rfl) ?_
    refine o_nil ?_
    with_reducible refine r_then ?_
    refine r_condd rfl (fun hc14 => ?_) (fun hc14 => ?_)
    ·
      refine r_skip ?_
      with_reducible refine r_then ?_
      refine r_seq ?_
      refine r_block ?_
      refine r_seq ?_
      refine r_region ?_
      refine o_q _ rfl rfl rfl (v_assign rfl rfl) ?_
      refine o_nil ?_
      with_reducible refine r_then ?_
      refine r_seq ?_
      refine r_seq ?_
      refine r_region ?_
      refine o_q _ rfl rfl rfl (v_assign rfl rfl) ?_
      refine o_nil ?_
      with_reducible refine r_then ?_
      refine r_block ?_
      refine r_loop (ι := Nat) (fun i => i ≤ B.banks.length) (fun i => [(1, .slice tq xs.length tc), (2, i64 (d : Nat)), (3, pt b3 0), (7, i64 j), (8, .bool (decide (stillTo B d j i 0))), (9, i64 i)]) (fun i => bx b3 28 (cellsB B bo ro so bc rc sc) :: M) (fun i => [rowD bo 4 encB B.banks, rowD ro 2 encS B.rain, rowD so 3 encG B.signs, rowD tq 2 encT2 xs, waysF xs (allW B (allS B))] ++ Rf) (fun i => B.banks.length - i) 0 ?_ ?_ ?_
      ·
        exact r_here (by repeat (first | exact FSub.nil | refine FSub.cons rfl ?_ | refine FSub.cons2 rfl (congrArg Value.bool ((decide_eq_true (still_0 B d j)).symm)) ?_)) SelMC.sel SubRC.sub
      ·
        omega
      ·
        rintro i hI1
        have hIi : i ≤ B.banks.length := hI1
        refine r_seq ?_
        refine r_seq ?_
        refine r_region ?_
        refine o_q _ rfl rfl rfl (v_move rfl rfl) ?_
        refine o_q _ rfl rfl rfl (v_fieldAddr rfl Try.underlying28 inf22 rfl rfl rfl rfl) ?_
        refine o_q _ rfl rfl rfl (v_ld1 rfl Try.underlying22 rfl rfl rfl) ?_
        refine o_q _ rfl rfl rfl (v_len rfl rfl Try.underlying22 rfl) ?_
        refine o_q _ rfl rfl rfl (v_lss rfl rfl rfl) ?_
        refine o_nil ?_
        with_reducible refine r_then ?_
        refine r_condd rfl (fun hc21 => ?_) (fun hc21 => ?_)
        ·
          refine r_skip ?_
          with_reducible refine r_then ?_
          refine r_seq ?_
          refine r_block ?_
          refine r_seq ?_
          refine r_region ?_
          refine o_q _ rfl rfl rfl (v_assign rfl rfl) ?_
          refine o_nil ?_
          with_reducible refine r_then ?_
          refine r_block ?_
          refine r_loop (ι := Nat) (fun e => e ≤ d + 1) (fun e => [(1, .slice tq xs.length tc), (2, i64 (d : Nat)), (3, pt b3 0), (7, i64 j), (8, .bool (decide (stillTo B d j i e))), (9, i64 i), (10, i64 e)]) (fun e => bx b3 28 (cellsB B bo ro so bc rc sc) :: M) (fun e => [rowD bo 4 encB B.banks, rowD ro 2 encS B.rain, rowD so 3 encG B.signs, rowD tq 2 encT2 xs, waysF xs (allW B (allS B))] ++ Rf) (fun e => d + 1 - e) 0 ?_ ?_ ?_
          ·
            exact r_here (by repeat (first | exact FSub.nil | refine FSub.cons rfl ?_)) SelMC.sel SubRC.sub
          ·
            omega
          ·
            rintro e hI2
            have hIe : e ≤ d + 1 := hI2
            refine r_seq ?_
            refine r_seq ?_
            refine r_region ?_
            refine o_q _ rfl rfl rfl (v_move rfl rfl) ?_
            refine o_q _ rfl rfl rfl (v_move rfl rfl) ?_
            refine o_q _ rfl rfl rfl (v_leq rfl rfl rfl) ?_
            refine o_nil ?_
            with_reducible refine r_then ?_
            refine r_condd rfl (fun hc26 => ?_) (fun hc26 => ?_)
            ·
              refine r_skip ?_
              with_reducible refine r_then ?_
              refine r_seq ?_
              refine r_block ?_
              refine Imp.derive (ψ := rowD (xs.getD j default).wo 1 encI (wayAt B j).1) ?_ (fun V hV => ((hV (waysF xs (allW B (allS B))) (by simp)) j (by omega)).1)
              refine Imp.derive (ψ := rowD (xs.getD j default).ao 2 encS (wayAt B j).2) ?_ (fun V hV => ((hV (waysF xs (allW B (allS B))) (by simp)) j (by omega)).2)
              obtain ⟨q1, q2, q3, q4⟩ := all_bd hg (in_all (k := j) (by omega))
              have q5 := q3 e (by omega)
              have q6 := q4 i (by omega)
              refine r_region_q mixed (by kernel_rfl) ?_
              refine q_q _ rfl rfl rfl (v_move rfl rfl) ?_
              refine q_test rfl rfl rfl (v_move rfl rfl) (fun h30 => ?_) (fun h30 => ?_)
              all_goals
                first | refine q_gn rfl rfl rfl rfl ?_ | refine q_g _ rfl rfl rfl rfl (v_move rfl rfl) ?_
                first | refine q_gn rfl rfl rfl rfl ?_ | refine q_g _ rfl rfl rfl rfl (v_move rfl rfl) ?_
                first | refine q_gn rfl rfl rfl rfl ?_ | refine q_g _ rfl rfl rfl rfl (v_indexAddrSn rfl Try.underlying78 inf82 rfl rfl rfl (by omega) rfl) ?_
                first | refine q_gn rfl rfl rfl rfl ?_ | refine q_g _ rfl rfl rfl rfl (v_fieldAddr rfl Try.underlying82 inf25 rfl rfl rfl rfl) ?_
                first | refine q_gn rfl rfl rfl rfl ?_ | refine q_g _ rfl rfl rfl rfl (v_cast (v := .slice (xs.getD j default).ao (wayAt B j).2.length (xs.getD j default).ac) (v_loadE1 (v := .slice (xs.getD j default).ao (xs.getD j default).an (xs.getD j default).ac) rfl Try.underlying25 rfl rfl (by omega) rfl rfl) (by rw [← (hx.2 j (by omega)).2])) ?_
                first | refine q_gn rfl rfl rfl rfl ?_ | refine q_g _ rfl rfl rfl rfl (v_move rfl rfl) ?_
                first | refine q_gn rfl rfl rfl rfl ?_ | refine q_g _ rfl rfl rfl rfl (v_indexAddrSn rfl Try.underlying25 inf24 rfl rfl rfl (by omega) rfl) ?_
                first | refine q_gn rfl rfl rfl rfl ?_ | refine q_g _ rfl rfl rfl rfl (v_fieldAddr rfl Try.underlying24 inf3 rfl rfl rfl rfl) ?_
                first | refine q_gn rfl rfl rfl rfl ?_ | refine q_g _ rfl rfl rfl rfl (v_loadE1 rfl Try.underlying3 rfl rfl (by omega) rfl rfl) ?_
                first | refine q_gn rfl rfl rfl rfl ?_ | refine q_g _ rfl rfl rfl rfl (v_move rfl rfl) ?_
                first | refine q_gn rfl rfl rfl rfl ?_ | refine q_g _ rfl rfl rfl rfl (v_move rfl rfl) ?_
                first | refine q_gn rfl rfl rfl rfl ?_ | refine q_g _ rfl rfl rfl rfl (v_indexAddrSn rfl Try.underlying78 inf82 rfl rfl rfl (by omega) rfl) ?_
                first | refine q_gn rfl rfl rfl rfl ?_ | refine q_g _ rfl rfl rfl rfl (v_fieldAddr rfl Try.underlying82 inf43 rfl rfl rfl rfl) ?_
                first | refine q_gn rfl rfl rfl rfl ?_ | refine q_g _ rfl rfl rfl rfl (v_cast (v := .slice (xs.getD j default).wo (wayAt B j).1.length (xs.getD j default).wc) (v_loadE1 (v := .slice (xs.getD j default).wo (xs.getD j default).wn (xs.getD j default).wc) rfl Try.underlying43 rfl rfl (by omega) rfl rfl) (by rw [← (hx.2 j (by omega)).1])) ?_
                first | refine q_gn rfl rfl rfl rfl ?_ | refine q_g _ rfl rfl rfl rfl (v_move rfl rfl) ?_
                first | refine q_gn rfl rfl rfl rfl ?_ | refine q_g _ rfl rfl rfl rfl (v_indexAddrSn rfl Try.underlying43 inf3 rfl rfl rfl (by omega) rfl) ?_
                first | refine q_gn rfl rfl rfl rfl ?_ | refine q_g _ rfl rfl rfl rfl (v_loadE1 rfl Try.underlying3 rfl rfl (by omega) rfl rfl) ?_
                first | refine q_gn rfl rfl rfl rfl ?_ | refine q_gtest rfl rfl rfl rfl (v_geq rfl rfl rfl) (fun h48 => ?_) (fun h48 => ?_)
                all_goals
                  first | refine q_q _ rfl rfl rfl (v_pick_t rfl rfl rfl) ?_ | refine q_q _ rfl rfl rfl (v_pick_f rfl rfl rfl) ?_
                  refine q_q _ rfl rfl rfl (v_assign rfl rfl) ?_
                  refine q_nil ?_
                  with_reducible refine r_in_normal ?_; refine r_then ?_
                  refine r_region ?_
                  refine o_q _ rfl rfl rfl (v_move rfl rfl) ?_
                  refine o_q _ rfl rfl rfl (v_add rfl rfl rfl (by omega)) ?_
                  refine o_q _ rfl rfl rfl (v_assign rfl rfl) ?_
                  refine o_nil ?_
                  with_reducible refine r_then ?_
                  refine r_next (e + 1) ?_ ?_ ?_
                  ·
                    exact r_here (by repeat (first | exact FSub.nil | refine FSub.cons rfl ?_ | refine FSub.cons2 rfl (congrArg Value.bool ((decide_eq_true (still_s.2 ⟨by assumption, by assumption⟩)).symm)) ?_ | refine FSub.cons2 rfl (congrArg Value.bool ((decide_eq_false (fun h => absurd (still_s.1 h).2 (by assumption))).symm)) ?_ | refine FSub.cons2 rfl (congrArg Value.bool ((decide_eq_false (fun h => absurd (still_s.1 h).1 (by assumption))).symm)) ?_ | refine FSub.cons2 rfl (congrArg Value.bool (decide_eq_decide.2 ⟨fun h => still_s.2 ⟨by assumption, h⟩, fun h => (still_s.1 h).2⟩)) ?_)) SelMC.sel SubRC.sub
                  ·
                    omega
                  ·
                    omega
            ·
              refine r_exit ?_
              with_reducible refine r_then_exit ?_; refine r_then_exit ?_; refine r_in_here ?_; refine r_in_normal ?_; refine r_then ?_
              refine r_region ?_
              refine o_q _ rfl rfl rfl (v_move rfl rfl) ?_
              refine o_q _ rfl rfl rfl (v_add rfl rfl rfl (by omega)) ?_
              refine o_q _ rfl rfl rfl (v_assign rfl rfl) ?_
              refine o_nil ?_
              with_reducible refine r_then ?_
              refine r_next (i + 1) ?_ ?_ ?_
              ·
                obtain rfl : e = d + 1 := by omega
                exact r_here (by repeat (first | exact FSub.nil | refine FSub.cons rfl ?_ | refine FSub.cons2 rfl (congrArg Value.bool (decide_eq_decide.2 still_n.symm)) ?_)) SelMC.sel SubRC.sub
              ·
                omega
              ·
                omega
        ·
          refine r_exit ?_
          with_reducible refine r_then_exit ?_; refine r_then_exit ?_; refine r_in_here ?_; refine r_then ?_
          refine r_seq ?_
          refine r_region ?_
          refine o_test rfl rfl rfl (v_move rfl rfl) (fun h50 => ?_) (fun h50 => ?_)
          all_goals
            refine o_nil ?_
            with_reducible refine r_then ?_
            refine r_cond rfl (fun hc50 => ?_) (fun hc50 => ?_)
            ·
              first
              | (exfalso; revert hc50; decide)
              | skip
                refine r_seq ?_
                refine r_region ?_
                refine o_q _ rfl rfl rfl (v_assign rfl rfl) ?_
                refine o_nil ?_
                with_reducible refine r_then ?_
                refine r_ret ?_
                with_reducible refine r_in_ret ?_; refine r_then_ret ?_; refine r_then_ret ?_; refine r_in_ret ?_; refine r_then_ret ?_
                exact r_retv2 (Rd.tmp rfl rfl) (congrArg Value.bool ((can_still hg hd).2 ⟨j, by omega, still_all.1 ((show i = B.banks.length by omega) ▸ (by assumption))⟩).symm) SelMC.sel SubRC.sub
            ·
              first
              | (exfalso; revert hc50; decide)
              | skip
                refine r_skip ?_
                with_reducible refine r_in_normal ?_; refine r_then ?_
                refine r_region ?_
                refine o_q _ rfl rfl rfl (v_move rfl rfl) ?_
                refine o_q _ rfl rfl rfl (v_add rfl rfl rfl (by omega)) ?_
                refine o_q _ rfl rfl rfl (v_assign rfl rfl) ?_
                refine o_nil ?_
                with_reducible refine r_then ?_
                refine r_next (j + 1) ?_ ?_ ?_
                ·
                  exact r_here (by repeat (first | exact FSub.nil | refine FSub.cons rfl ?_)) SelMC.sel SubRC.sub
                ·
                  exact ⟨by show j + 1 ≤ _; omega, all_step hI0.2 (fun h => absurd (still_all.2 h) ((show i = B.banks.length by omega) ▸ (by assumption)))⟩
                ·
                  omega
    ·
      refine r_exit ?_
      with_reducible refine r_then_exit ?_; refine r_then_exit ?_; refine r_in_here ?_; refine r_then ?_
      refine r_seq ?_
      refine r_region ?_
      refine o_q _ rfl rfl rfl (v_assign rfl rfl) ?_
      refine o_nil ?_
      with_reducible refine r_then ?_
      refine r_ret ?_
      exact r_retv2 (Rd.tmp rfl rfl) (congrArg Value.bool (can_none hg hd (fun j' hj => hI0.2 j' (by omega))).symm) SelMC.sel SubRC.sub
end Go.Proofs.Ytoggggnlponfhaa


namespace Go.Proofs.Ytoggggnlponfhaa
open Go.G Burst8
set_option maxRecDepth 1000000
attribute [local irreducible] G.ParO G.Fin
attribute [local irreducible] fw fwR fwC emptyT tabOf knownT canB boundsL
theorem o_callG {P : Program} {W : World} {n : Nat} {D : List Deferred} {L : Tm} {M : List Res} {R : List Fact} {Q : Exit → Act → World → Prop} {ops : Array Oper} {o : Oper} {rest : List Oper} {k : FuncId} {args : List Value} {M0 Mf : List Res} {R0 : List Fact} {Post : Ending → List Res → List Fact → Prop} {f : Operand} {xs : List Operand} {ts : Array TypeId} {vs : List Value} {j : Nat} {b : Bool}
    (h : FnS P k args M0 R0 Post) (ho : o.op = .call { callee := .value f, args := xs.toArray, argTypes := ts }) (first captured : List Value) (hf : ev L f = some (.func (.func k) first.toArray captured.toArray))
    (hx : evs L xs = some vs) (ha : first ++ vs ++ captured = args) (hg : o.guard = some (j, b)) (hsd : said ops L j = some b) (hd : okD n o.dst = true) (hM : SelM M (M0 ++ Mf)) (hs : SubR R R0)
    (hret : ∀ v M' R', Post (.returned v) M' R' → Imp W n D (putL o.dst v L) (M' ++ Mf) (R' ++ R) (wpList P ops Q rest))
    (hpan : ∀ c M' R', Post (.panicked c) M' R' → Imp W n D L (M' ++ Mf) (R' ++ R) (Q (.panic c)))
    (hout : ∀ M' R', Post .outgrown M' R' → False) : Imp W n D L M R (wpList P ops Q (o :: rest)) := by
  intro a w h1 h2 h3
  refine wpList_step fun K hK => ?_
  rw [if_pos (by simp [Region.wanted, hg, said_sound h1 hsd])]
  unfold Oper.wp
  rw [exec_call first captured ho (h1.ev hf) (h1.evs hx) h.enter, ha]
  refine (h.calls W Mf R w ((h3.sel hM).both hs)).mono ?_
  rintro e w' ⟨M', R', hp, hw'⟩
  have hw2 : St W (M' ++ Mf) (R' ++ R) w' := hw'.weak (fun φ hφ => by
    rcases List.mem_append.1 hφ with hφ | hφ
    · exact List.mem_append_left _ hφ
    · exact List.mem_append_right _ (List.mem_append_right _ hφ))
  cases e with
  | returned v => exact hK _ _ (hret v M' R' hp _ w' (h1.putL hd v) (by rw [put_defers]; exact h2) hw2)
  | panicked c => exact hpan c M' R' hp a w' h1 h2 hw2
  | outgrown => exact (hout M' R' hp).elim
theorem o_fnGX {α : Type} {W : World} {n : Nat} {D : List Deferred} {L : Tm} {M M1 : List Res} {R : List Fact} {Q : Exit → Act → World → Prop} {o : Oper} {ops : Array Oper} {rest : List Oper} {k : FuncId} {args : List Value} {R0 : List Fact} {r : Res} {g : α → Value} {Pp : α → Prop} {Mr : α → Res} {Rr : α → List Fact} {xs : List Operand} {ts : Array TypeId} {d j : Nat} {b : Bool} [hM : DelC M r M1]
    (h : FnS Try.prog k args [r] R0 (fun e M' R' => ∃ x, e = .returned (g x) ∧ Pp x ∧ M' = [Mr x] ∧ R' = Rr x)) (ho : o.op = .call { callee := .value (.func k), args := xs.toArray, argTypes := ts })
    (hx : evs L xs = some args) (hg : o.guard = some (j, b)) (hsd : said ops L j = some b) (hdst : o.dst = some d) (hd : Nat.blt d n = true) (hs : SubR R R0)
    (hret : ∀ x, Pp x → Imp W n D ((d, g x) :: L) (Mr x :: M1) (Rr x ++ R) (wpList Try.prog ops Q rest)) : Imp W n D L M R (wpList Try.prog ops Q (o :: rest)) := by
  refine o_callG h ho [] [] rfl hx (by simp) hg hsd (by simp [okD, hdst, hd]) (Mf := M1) ⟨[], by simpa using hM.del.perm⟩ hs ?_ ?_ ?_
  · rintro v M' R' ⟨x, he, hp, rfl, rfl⟩
    cases he
    rw [hdst]
    exact hret x hp
  · rintro c M' R' ⟨x, he, _⟩; cases he
  · rintro M' R' ⟨x, he, _⟩; cases he
theorem chk_ok {B : Bog} {v : Bool} (h : chkB B v = 0) : GoodB B ∧ v = true ∧ canB B (allS B) 0 false = true := by
  by_cases hg : GoodB B
  · cases v
    · rw [chkB_2 hg rfl] at h; exact absurd h (by decide)
    · cases hc : canB B (allS B) 0 false
      · rw [chkB_10 hg rfl hc] at h; exact absurd h (by decide)
      · exact ⟨hg, rfl, rfl⟩
  · rw [chkB_1 hg] at h; exact absurd h (by decide)
theorem arg_y {f : Nat → Int} {k : Nat} (h : f k < f (leastN f k).1) : (leastN f (k + 1)).1 = k := by
  by_cases e : k = 0
  · subst e; rw [leastN_y (.inl rfl)]
  · have := (leastN_spec f k (by omega)).2.1
    rw [leastN_y (.inr (by omega))]
theorem arg_n {f : Nat → Int} {k : Nat} (h : ¬ f k < f (leastN f k).1) : (leastN f (k + 1)).1 = (leastN f k).1 := by
  by_cases e : k = 0
  · subst e; rw [leastN_y (.inl rfl)]; rfl
  · have := (leastN_spec f k (by omega)).2.1
    rw [leastN_n (by rintro (h2 | h2); exact e h2; omega)]
theorem arg_lt (f : Nat → Int) {k n : Nat} (hk : k ≤ n) (hn : 0 < n) : (leastN f k).1 < n := by
  by_cases e : k = 0
  · subst e; exact hn
  · have := (leastN_spec f k (by omega)).1; omega
variable (B : Bog) (bo ro so : Option Addr) (bc rc sc : Nat) (bb mb : Nat)
attribute [local irreducible] leastU setB pop
set_option maxHeartbeats 4000000 in
theorem rsafe2_ok (hl1 : B.banks.length ≤ 40) (hl2 : B.rain.length ≤ 40) (hl3 : B.signs.length ≤ 40) (hg : GoodB B) (hw : wayN B (B.rain.length + 1) ≤ 1000) (hc : canB B (allS B) 0 false = true) (d : Nat) (hd : d ≤ B.rain.length) (h2 : 0 ≤ (firstT (tB B) B.banks.length d).2) : FnV Try.prog 23 [valB B bo ro so bc rc sc, i64 (d : Nat)] [rowD bo 4 encB B.banks, rowD ro 2 encS B.rain, rowD so 3 encG B.signs] (.tuple #[i64 2, i64 0]) := by
  have hb1 := hg.nb
  have hb2 := hg.nr
  have hb3 := hg.ns
  have hpo := all_pos hg hc
  have hn : (allW B (allS B)).length ≤ 1000 := Nat.le_trans (goesL_cnt _ _ (by simp)) hw
  refine FnV.intro Try.call23 Try.func23 rfl Try.ntmps23 rfl ?_
  intro W M Rf
  refine r_seq ?_
  refine r_region ?_
  refine o_boxA rfl rfl rfl rfl rfl (fun b2 => ?_)
  refine o_q _ rfl rfl rfl (v_assign rfl rfl) ?_
  refine o_q _ rfl rfl rfl (v_assign rfl rfl) ?_
  refine o_nil ?_
  with_reducible refine r_then ?_
  refine r_seq ?_
  refine r_par' 9 mixed (by kernel_rfl) (by rfl) ?_
  refine p_q _ rfl rfl rfl (fun _ _ => v_ldW rfl Try.underlying28 rfl inf28 rfl rfl) ?_
  refine p_q _ rfl rfl rfl (fun _ _ => v_ldW rfl Try.underlying28 rfl inf28 rfl rfl) ?_
  refine p_q _ rfl rfl rfl (fun _ _ => v_move rfl rfl) ?_
  refine p_q _ rfl rfl rfl (fun _ _ => v_cast (v := .bool true) (OpQ.fn (rDay_v B bo ro so bc rc sc (d : Int) hl1 hl2 hl3) rfl rfl SubRC.sub) (congrArg Value.bool (decide_eq_true (by omega)))) ?_
  refine p_fn (told_r B bo ro so bc rc sc hl1 hl2 hl3 hg hw hc) rfl rfl rfl rfl rfl SubRC.sub ?_
  refine p_acc (by simp only [List.nil_append, List.cons_append]; rfl) ?_
  refine p_depG (pv := (toldV B)) (fc := (fun v => [toldF B (fst1 v)])) 4 (fun u => u) rfl rfl rfl (by kernel_rfl) rfl rfl rfl (fun u h => ⟨h, fun φ hφ => hφ⟩) (fun u _ _ _ => v_move rfl rfl) ?_
  refine p_acc (by simp only [List.nil_append, List.cons_append]; rfl) ?_
  refine p_depG (pv := (isSl (allW B (allS B)).length)) (fc := (fun v => [toldF B v])) 5 (fst1) rfl rfl rfl (by kernel_rfl) rfl rfl rfl (by rintro u ⟨x, hx, rfl⟩; exact ⟨hx, fun φ hφ => hφ⟩) ((by rintro u ⟨x, hx, rfl⟩ Mx Rx; exact v_extract rfl rfl rfl)) ?_
  refine p_acc (by simp only [List.nil_append, List.cons_append]; rfl) ?_
  refine p_dep (v := i64 0) 5 rfl rfl rfl (by kernel_rfl) rfl rfl rfl ((by rintro u ⟨x, hx, rfl⟩ Mx Rx; exact v_extract rfl rfl rfl)) ?_
  refine p_acc (by simp only [List.nil_append, List.cons_append]; rfl) ?_
  refine p_depG (pv := (isSl (allW B (allS B)).length)) (fc := (fun v => [toldF B v])) 6 (fun u => u) rfl rfl rfl (by kernel_rfl) rfl rfl rfl (fun u h => ⟨h, fun φ hφ => hφ⟩) (fun u _ _ _ => v_assign rfl rfl) ?_
  refine p_nil2 (by simp only [List.nil_append, List.cons_append]; rfl) rfl ?_
  refine f_q rfl ?_
  refine f_q rfl ?_
  refine f_q rfl ?_
  refine f_q rfl ?_
  refine f_gf rfl (fun _ _ => ?_)
  refine f_gf rfl (fun _ _ => ?_)
  refine f_gf rfl (fun _ _ => ?_)
  refine f_q rfl ?_
  refine f_gf rfl (fun v6 k6 => ?_)
  refine f_nil ?_
  refine o_q _ rfl rfl rfl (v_assign rfl rfl) ?_
  refine o_nil ?_
  with_reducible refine r_then ?_
  refine r_seq ?_
  refine r_seq ?_
  obtain ⟨tq, tc, rfl⟩ := k6
  refine Imp.told (B := B) (tq := tq) (tc := tc) (List.mem_cons_self ..) (fun xs hx => ?_)
  have hxl := hx.1
  rw [← hxl]
  refine r_region ?_
  refine o_q _ rfl rfl rfl (v_move rfl rfl) ?_
  refine o_q _ rfl rfl rfl (v_neq rfl rfl rfl) ?_
  refine o_nil ?_
  with_reducible refine r_then ?_
  refine r_condd rfl (fun hc17 => ?_) (fun hc17 => ?_)
  ·
    (exfalso; revert hc17; decide)
  ·
    refine r_skip ?_
    with_reducible refine r_then ?_
    refine r_seq ?_
    refine r_seq ?_
    refine r_region ?_
    refine o_q _ rfl rfl rfl (v_ldW rfl Try.underlying28 rfl inf28 rfl rfl) ?_
    refine o_q _ rfl rfl rfl (v_move rfl rfl) ?_
    refine o_q _ rfl rfl rfl (v_move rfl rfl) ?_
    refine o_q _ rfl rfl rfl (v_cast (v := .bool true) (OpQ.fn (rsure_v B bo ro so bc rc sc hg hc tq tc xs hx hn d (by omega)) rfl rfl SubRC.sub) (congrArg Value.bool (decide_eq_true h2))) ?_
    refine o_nil ?_
    with_reducible refine r_then ?_
    refine r_cond rfl (fun hc22 => ?_) (fun hc22 => ?_)
    ·
      refine r_seq ?_
      refine r_region ?_
      refine o_q _ rfl rfl rfl (v_assign rfl rfl) ?_
      refine o_q _ rfl rfl rfl (v_assign rfl rfl) ?_
      refine o_nil ?_
      with_reducible refine r_then ?_
      refine r_ret ?_
      with_reducible refine r_then_ret ?_
      skip
      exact r_retv2 (Rd.two rfl (RdI.tmp rfl) (RdI.tmp rfl)) rfl SelMC.sel SubRC.sub
    ·
      (exfalso; revert hc22; decide)
set_option maxHeartbeats 4000000 in
theorem rsafe1_ok (hl1 : B.banks.length ≤ 40) (hl2 : B.rain.length ≤ 40) (hl3 : B.signs.length ≤ 40) (hg : GoodB B) (hw : wayN B (B.rain.length + 1) ≤ 1000) (hc : canB B (allS B) 0 false = true) (d : Nat) (hd : d ≤ B.rain.length) (h2 : ¬ 0 ≤ (firstT (tB B) B.banks.length d).2) (h1 : (canB B (allS B) (d : Int) true) = true) : FnV Try.prog 23 [valB B bo ro so bc rc sc, i64 (d : Nat)] [rowD bo 4 encB B.banks, rowD ro 2 encS B.rain, rowD so 3 encG B.signs] (.tuple #[i64 1, i64 0]) := by
  have hb1 := hg.nb
  have hb2 := hg.nr
  have hb3 := hg.ns
  have hpo := all_pos hg hc
  have hn : (allW B (allS B)).length ≤ 1000 := Nat.le_trans (goesL_cnt _ _ (by simp)) hw
  refine FnV.intro Try.call23 Try.func23 rfl Try.ntmps23 rfl ?_
  intro W M Rf
  refine r_seq ?_
  refine r_region ?_
  refine o_boxA rfl rfl rfl rfl rfl (fun b2 => ?_)
  refine o_q _ rfl rfl rfl (v_assign rfl rfl) ?_
  refine o_q _ rfl rfl rfl (v_assign rfl rfl) ?_
  refine o_nil ?_
  with_reducible refine r_then ?_
  refine r_seq ?_
  refine r_par' 9 mixed (by kernel_rfl) (by rfl) ?_
  refine p_q _ rfl rfl rfl (fun _ _ => v_ldW rfl Try.underlying28 rfl inf28 rfl rfl) ?_
  refine p_q _ rfl rfl rfl (fun _ _ => v_ldW rfl Try.underlying28 rfl inf28 rfl rfl) ?_
  refine p_q _ rfl rfl rfl (fun _ _ => v_move rfl rfl) ?_
  refine p_q _ rfl rfl rfl (fun _ _ => v_cast (v := .bool true) (OpQ.fn (rDay_v B bo ro so bc rc sc (d : Int) hl1 hl2 hl3) rfl rfl SubRC.sub) (congrArg Value.bool (decide_eq_true (by omega)))) ?_
  refine p_fn (told_r B bo ro so bc rc sc hl1 hl2 hl3 hg hw hc) rfl rfl rfl rfl rfl SubRC.sub ?_
  refine p_acc (by simp only [List.nil_append, List.cons_append]; rfl) ?_
  refine p_depG (pv := (toldV B)) (fc := (fun v => [toldF B (fst1 v)])) 4 (fun u => u) rfl rfl rfl (by kernel_rfl) rfl rfl rfl (fun u h => ⟨h, fun φ hφ => hφ⟩) (fun u _ _ _ => v_move rfl rfl) ?_
  refine p_acc (by simp only [List.nil_append, List.cons_append]; rfl) ?_
  refine p_depG (pv := (isSl (allW B (allS B)).length)) (fc := (fun v => [toldF B v])) 5 (fst1) rfl rfl rfl (by kernel_rfl) rfl rfl rfl (by rintro u ⟨x, hx, rfl⟩; exact ⟨hx, fun φ hφ => hφ⟩) ((by rintro u ⟨x, hx, rfl⟩ Mx Rx; exact v_extract rfl rfl rfl)) ?_
  refine p_acc (by simp only [List.nil_append, List.cons_append]; rfl) ?_
  refine p_dep (v := i64 0) 5 rfl rfl rfl (by kernel_rfl) rfl rfl rfl ((by rintro u ⟨x, hx, rfl⟩ Mx Rx; exact v_extract rfl rfl rfl)) ?_
  refine p_acc (by simp only [List.nil_append, List.cons_append]; rfl) ?_
  refine p_depG (pv := (isSl (allW B (allS B)).length)) (fc := (fun v => [toldF B v])) 6 (fun u => u) rfl rfl rfl (by kernel_rfl) rfl rfl rfl (fun u h => ⟨h, fun φ hφ => hφ⟩) (fun u _ _ _ => v_assign rfl rfl) ?_
  refine p_nil2 (by simp only [List.nil_append, List.cons_append]; rfl) rfl ?_
  refine f_q rfl ?_
  refine f_q rfl ?_
  refine f_q rfl ?_
  refine f_q rfl ?_
  refine f_gf rfl (fun _ _ => ?_)
  refine f_gf rfl (fun _ _ => ?_)
  refine f_gf rfl (fun _ _ => ?_)
  refine f_q rfl ?_
  refine f_gf rfl (fun v6 k6 => ?_)
  refine f_nil ?_
  refine o_q _ rfl rfl rfl (v_assign rfl rfl) ?_
  refine o_nil ?_
  with_reducible refine r_then ?_
  refine r_seq ?_
  refine r_seq ?_
  obtain ⟨tq, tc, rfl⟩ := k6
  refine Imp.told (B := B) (tq := tq) (tc := tc) (List.mem_cons_self ..) (fun xs hx => ?_)
  have hxl := hx.1
  rw [← hxl]
  refine r_region ?_
  refine o_q _ rfl rfl rfl (v_move rfl rfl) ?_
  refine o_q _ rfl rfl rfl (v_neq rfl rfl rfl) ?_
  refine o_nil ?_
  with_reducible refine r_then ?_
  refine r_condd rfl (fun hc17 => ?_) (fun hc17 => ?_)
  ·
    (exfalso; revert hc17; decide)
  ·
    refine r_skip ?_
    with_reducible refine r_then ?_
    refine r_seq ?_
    refine r_seq ?_
    refine r_region ?_
    refine o_q _ rfl rfl rfl (v_ldW rfl Try.underlying28 rfl inf28 rfl rfl) ?_
    refine o_q _ rfl rfl rfl (v_move rfl rfl) ?_
    refine o_q _ rfl rfl rfl (v_move rfl rfl) ?_
    refine o_q _ rfl rfl rfl (v_cast (v := .bool false) (OpQ.fn (rsure_v B bo ro so bc rc sc hg hc tq tc xs hx hn d (by omega)) rfl rfl SubRC.sub) (congrArg Value.bool (decide_eq_false h2))) ?_
    refine o_nil ?_
    with_reducible refine r_then ?_
    refine r_cond rfl (fun hc22 => ?_) (fun hc22 => ?_)
    ·
      (exfalso; revert hc22; decide)
    ·
      refine r_skip ?_
      with_reducible refine r_then ?_
      refine r_seq ?_
      refine r_seq ?_
      refine r_region ?_
      refine o_q _ rfl rfl rfl (v_ldW rfl Try.underlying28 rfl inf28 rfl rfl) ?_
      refine o_q _ rfl rfl rfl (v_move rfl rfl) ?_
      refine o_q _ rfl rfl rfl (v_move rfl rfl) ?_
      refine o_q _ rfl rfl rfl (v_cast (v := .bool true) (OpQ.fn (rcan_v B bo ro so bc rc sc hg hc tq tc xs hx hn d (by omega)) rfl rfl SubRC.sub) (congrArg Value.bool h1)) ?_
      refine o_q _ rfl rfl rfl (v_not rfl rfl) ?_
      refine o_nil ?_
      with_reducible refine r_then ?_
      refine r_cond rfl (fun hc27 => ?_) (fun hc27 => ?_)
      ·
        (exfalso; revert hc27; decide)
      ·
        refine r_skip ?_
        with_reducible refine r_then ?_
        refine r_seq ?_
        refine r_region ?_
        refine o_q _ rfl rfl rfl (v_assign rfl rfl) ?_
        refine o_q _ rfl rfl rfl (v_assign rfl rfl) ?_
        refine o_nil ?_
        with_reducible refine r_then ?_
        refine r_ret ?_
        skip
        exact r_retv2 (Rd.two rfl (RdI.tmp rfl) (RdI.tmp rfl)) rfl SelMC.sel SubRC.sub
set_option maxHeartbeats 4000000 in
theorem rsafe0_ok (hl1 : B.banks.length ≤ 40) (hl2 : B.rain.length ≤ 40) (hl3 : B.signs.length ≤ 40) (hg : GoodB B) (hw : wayN B (B.rain.length + 1) ≤ 1000) (hc : canB B (allS B) 0 false = true) (d : Nat) (hd : d ≤ B.rain.length) (h2 : ¬ 0 ≤ (firstT (tB B) B.banks.length d).2) (h1 : (canB B (allS B) (d : Int) true) = false) : FnV Try.prog 23 [valB B bo ro so bc rc sc, i64 (d : Nat)] [rowD bo 4 encB B.banks, rowD ro 2 encS B.rain, rowD so 3 encG B.signs] (.tuple #[i64 0, i64 0]) := by
  have hb1 := hg.nb
  have hb2 := hg.nr
  have hb3 := hg.ns
  have hpo := all_pos hg hc
  have hn : (allW B (allS B)).length ≤ 1000 := Nat.le_trans (goesL_cnt _ _ (by simp)) hw
  refine FnV.intro Try.call23 Try.func23 rfl Try.ntmps23 rfl ?_
  intro W M Rf
  refine r_seq ?_
  refine r_region ?_
  refine o_boxA rfl rfl rfl rfl rfl (fun b2 => ?_)
  refine o_q _ rfl rfl rfl (v_assign rfl rfl) ?_
  refine o_q _ rfl rfl rfl (v_assign rfl rfl) ?_
  refine o_nil ?_
  with_reducible refine r_then ?_
  refine r_seq ?_
  refine r_par' 9 mixed (by kernel_rfl) (by rfl) ?_
  refine p_q _ rfl rfl rfl (fun _ _ => v_ldW rfl Try.underlying28 rfl inf28 rfl rfl) ?_
  refine p_q _ rfl rfl rfl (fun _ _ => v_ldW rfl Try.underlying28 rfl inf28 rfl rfl) ?_
  refine p_q _ rfl rfl rfl (fun _ _ => v_move rfl rfl) ?_
  refine p_q _ rfl rfl rfl (fun _ _ => v_cast (v := .bool true) (OpQ.fn (rDay_v B bo ro so bc rc sc (d : Int) hl1 hl2 hl3) rfl rfl SubRC.sub) (congrArg Value.bool (decide_eq_true (by omega)))) ?_
  refine p_fn (told_r B bo ro so bc rc sc hl1 hl2 hl3 hg hw hc) rfl rfl rfl rfl rfl SubRC.sub ?_
  refine p_acc (by simp only [List.nil_append, List.cons_append]; rfl) ?_
  refine p_depG (pv := (toldV B)) (fc := (fun v => [toldF B (fst1 v)])) 4 (fun u => u) rfl rfl rfl (by kernel_rfl) rfl rfl rfl (fun u h => ⟨h, fun φ hφ => hφ⟩) (fun u _ _ _ => v_move rfl rfl) ?_
  refine p_acc (by simp only [List.nil_append, List.cons_append]; rfl) ?_
  refine p_depG (pv := (isSl (allW B (allS B)).length)) (fc := (fun v => [toldF B v])) 5 (fst1) rfl rfl rfl (by kernel_rfl) rfl rfl rfl (by rintro u ⟨x, hx, rfl⟩; exact ⟨hx, fun φ hφ => hφ⟩) ((by rintro u ⟨x, hx, rfl⟩ Mx Rx; exact v_extract rfl rfl rfl)) ?_
  refine p_acc (by simp only [List.nil_append, List.cons_append]; rfl) ?_
  refine p_dep (v := i64 0) 5 rfl rfl rfl (by kernel_rfl) rfl rfl rfl ((by rintro u ⟨x, hx, rfl⟩ Mx Rx; exact v_extract rfl rfl rfl)) ?_
  refine p_acc (by simp only [List.nil_append, List.cons_append]; rfl) ?_
  refine p_depG (pv := (isSl (allW B (allS B)).length)) (fc := (fun v => [toldF B v])) 6 (fun u => u) rfl rfl rfl (by kernel_rfl) rfl rfl rfl (fun u h => ⟨h, fun φ hφ => hφ⟩) (fun u _ _ _ => v_assign rfl rfl) ?_
  refine p_nil2 (by simp only [List.nil_append, List.cons_append]; rfl) rfl ?_
  refine f_q rfl ?_
  refine f_q rfl ?_
  refine f_q rfl ?_
  refine f_q rfl ?_
  refine f_gf rfl (fun _ _ => ?_)
  refine f_gf rfl (fun _ _ => ?_)
  refine f_gf rfl (fun _ _ => ?_)
  refine f_q rfl ?_
  refine f_gf rfl (fun v6 k6 => ?_)
  refine f_nil ?_
  refine o_q _ rfl rfl rfl (v_assign rfl rfl) ?_
  refine o_nil ?_
  with_reducible refine r_then ?_
  refine r_seq ?_
  refine r_seq ?_
  obtain ⟨tq, tc, rfl⟩ := k6
  refine Imp.told (B := B) (tq := tq) (tc := tc) (List.mem_cons_self ..) (fun xs hx => ?_)
  have hxl := hx.1
  rw [← hxl]
  refine r_region ?_
  refine o_q _ rfl rfl rfl (v_move rfl rfl) ?_
  refine o_q _ rfl rfl rfl (v_neq rfl rfl rfl) ?_
  refine o_nil ?_
  with_reducible refine r_then ?_
  refine r_condd rfl (fun hc17 => ?_) (fun hc17 => ?_)
  ·
    (exfalso; revert hc17; decide)
  ·
    refine r_skip ?_
    with_reducible refine r_then ?_
    refine r_seq ?_
    refine r_seq ?_
    refine r_region ?_
    refine o_q _ rfl rfl rfl (v_ldW rfl Try.underlying28 rfl inf28 rfl rfl) ?_
    refine o_q _ rfl rfl rfl (v_move rfl rfl) ?_
    refine o_q _ rfl rfl rfl (v_move rfl rfl) ?_
    refine o_q _ rfl rfl rfl (v_cast (v := .bool false) (OpQ.fn (rsure_v B bo ro so bc rc sc hg hc tq tc xs hx hn d (by omega)) rfl rfl SubRC.sub) (congrArg Value.bool (decide_eq_false h2))) ?_
    refine o_nil ?_
    with_reducible refine r_then ?_
    refine r_cond rfl (fun hc22 => ?_) (fun hc22 => ?_)
    ·
      (exfalso; revert hc22; decide)
    ·
      refine r_skip ?_
      with_reducible refine r_then ?_
      refine r_seq ?_
      refine r_seq ?_
      refine r_region ?_
      refine o_q _ rfl rfl rfl (v_ldW rfl Try.underlying28 rfl inf28 rfl rfl) ?_
      refine o_q _ rfl rfl rfl (v_move rfl rfl) ?_
      refine o_q _ rfl rfl rfl (v_move rfl rfl) ?_
      refine o_q _ rfl rfl rfl (v_cast (v := .bool false) (OpQ.fn (rcan_v B bo ro so bc rc sc hg hc tq tc xs hx hn d (by omega)) rfl rfl SubRC.sub) (congrArg Value.bool h1)) ?_
      refine o_q _ rfl rfl rfl (v_not rfl rfl) ?_
      refine o_nil ?_
      with_reducible refine r_then ?_
      refine r_cond rfl (fun hc27 => ?_) (fun hc27 => ?_)
      ·
        refine r_seq ?_
        refine r_region ?_
        refine o_q _ rfl rfl rfl (v_assign rfl rfl) ?_
        refine o_q _ rfl rfl rfl (v_assign rfl rfl) ?_
        refine o_nil ?_
        with_reducible refine r_then ?_
        refine r_ret ?_
        with_reducible refine r_then_ret ?_
        skip
        exact r_retv2 (Rd.two rfl (RdI.tmp rfl) (RdI.tmp rfl)) rfl SelMC.sel SubRC.sub
      ·
        (exfalso; revert hc27; decide)
set_option maxHeartbeats 4000000 in
theorem rfirst4_ok (hl1 : B.banks.length ≤ 40) (hl2 : B.rain.length ≤ 40) (hl3 : B.signs.length ≤ 40) (hg : GoodB B) (hw : wayN B (B.rain.length + 1) ≤ 1000) (hc : canB B (allS B) 0 false = true) (d : Nat) (hd : d ≤ B.rain.length) (h2 : 0 ≤ (firstT (tB B) B.banks.length d).2) : FnV Try.prog 27 [valB B bo ro so bc rc sc, i64 (d : Nat)] [rowD bo 4 encB B.banks, rowD ro 2 encS B.rain, rowD so 3 encG B.signs] (.tuple #[i64 0, i64 4]) := by
  have hb1 := hg.nb
  have hb2 := hg.nr
  have hb3 := hg.ns
  have hpo := all_pos hg hc
  have hn : (allW B (allS B)).length ≤ 1000 := Nat.le_trans (goesL_cnt _ _ (by simp)) hw
  refine FnV.intro Try.call27 Try.func27 rfl Try.ntmps27 rfl ?_
  intro W M Rf
  refine r_seq ?_
  refine r_region ?_
  refine o_boxA rfl rfl rfl rfl rfl (fun b2 => ?_)
  refine o_q _ rfl rfl rfl (v_assign rfl rfl) ?_
  refine o_q _ rfl rfl rfl (v_assign rfl rfl) ?_
  refine o_nil ?_
  with_reducible refine r_then ?_
  refine r_seq ?_
  refine r_par' 9 mixed (by kernel_rfl) (by rfl) ?_
  refine p_q _ rfl rfl rfl (fun _ _ => v_ldW rfl Try.underlying28 rfl inf28 rfl rfl) ?_
  refine p_q _ rfl rfl rfl (fun _ _ => v_ldW rfl Try.underlying28 rfl inf28 rfl rfl) ?_
  refine p_q _ rfl rfl rfl (fun _ _ => v_move rfl rfl) ?_
  refine p_q _ rfl rfl rfl (fun _ _ => v_cast (v := .bool true) (OpQ.fn (rDay_v B bo ro so bc rc sc (d : Int) hl1 hl2 hl3) rfl rfl SubRC.sub) (congrArg Value.bool (decide_eq_true (by omega)))) ?_
  refine p_fn (told_r B bo ro so bc rc sc hl1 hl2 hl3 hg hw hc) rfl rfl rfl rfl rfl SubRC.sub ?_
  refine p_acc (by simp only [List.nil_append, List.cons_append]; rfl) ?_
  refine p_depG (pv := (toldV B)) (fc := (fun v => [toldF B (fst1 v)])) 4 (fun u => u) rfl rfl rfl (by kernel_rfl) rfl rfl rfl (fun u h => ⟨h, fun φ hφ => hφ⟩) (fun u _ _ _ => v_move rfl rfl) ?_
  refine p_acc (by simp only [List.nil_append, List.cons_append]; rfl) ?_
  refine p_depG (pv := (isSl (allW B (allS B)).length)) (fc := (fun v => [toldF B v])) 5 (fst1) rfl rfl rfl (by kernel_rfl) rfl rfl rfl (by rintro u ⟨x, hx, rfl⟩; exact ⟨hx, fun φ hφ => hφ⟩) ((by rintro u ⟨x, hx, rfl⟩ Mx Rx; exact v_extract rfl rfl rfl)) ?_
  refine p_acc (by simp only [List.nil_append, List.cons_append]; rfl) ?_
  refine p_dep (v := i64 0) 5 rfl rfl rfl (by kernel_rfl) rfl rfl rfl ((by rintro u ⟨x, hx, rfl⟩ Mx Rx; exact v_extract rfl rfl rfl)) ?_
  refine p_acc (by simp only [List.nil_append, List.cons_append]; rfl) ?_
  refine p_depG (pv := (isSl (allW B (allS B)).length)) (fc := (fun v => [toldF B v])) 6 (fun u => u) rfl rfl rfl (by kernel_rfl) rfl rfl rfl (fun u h => ⟨h, fun φ hφ => hφ⟩) (fun u _ _ _ => v_assign rfl rfl) ?_
  refine p_nil2 (by simp only [List.nil_append, List.cons_append]; rfl) rfl ?_
  refine f_q rfl ?_
  refine f_q rfl ?_
  refine f_q rfl ?_
  refine f_q rfl ?_
  refine f_gf rfl (fun _ _ => ?_)
  refine f_gf rfl (fun _ _ => ?_)
  refine f_gf rfl (fun _ _ => ?_)
  refine f_q rfl ?_
  refine f_gf rfl (fun v6 k6 => ?_)
  refine f_nil ?_
  refine o_q _ rfl rfl rfl (v_assign rfl rfl) ?_
  refine o_nil ?_
  with_reducible refine r_then ?_
  refine r_seq ?_
  refine r_seq ?_
  obtain ⟨tq, tc, rfl⟩ := k6
  refine Imp.told (B := B) (tq := tq) (tc := tc) (List.mem_cons_self ..) (fun xs hx => ?_)
  have hxl := hx.1
  rw [← hxl]
  refine r_region ?_
  refine o_q _ rfl rfl rfl (v_move rfl rfl) ?_
  refine o_q _ rfl rfl rfl (v_neq rfl rfl rfl) ?_
  refine o_nil ?_
  with_reducible refine r_then ?_
  refine r_condd rfl (fun hc19 => ?_) (fun hc19 => ?_)
  ·
    (exfalso; revert hc19; decide)
  ·
    refine r_skip ?_
    with_reducible refine r_then ?_
    refine r_seq ?_
    refine r_seq ?_
    refine r_region ?_
    refine o_q _ rfl rfl rfl (v_ldW rfl Try.underlying28 rfl inf28 rfl rfl) ?_
    refine o_q _ rfl rfl rfl (v_move rfl rfl) ?_
    refine o_q _ rfl rfl rfl (v_move rfl rfl) ?_
    refine o_q _ rfl rfl rfl (v_cast (v := .bool true) (OpQ.fn (rsure_v B bo ro so bc rc sc hg hc tq tc xs hx hn d (by omega)) rfl rfl SubRC.sub) (congrArg Value.bool (decide_eq_true h2))) ?_
    refine o_nil ?_
    with_reducible refine r_then ?_
    refine r_cond rfl (fun hc24 => ?_) (fun hc24 => ?_)
    ·
      refine r_seq ?_
      refine r_region ?_
      refine o_q _ rfl rfl rfl (v_assign rfl rfl) ?_
      refine o_q _ rfl rfl rfl (v_assign rfl rfl) ?_
      refine o_nil ?_
      with_reducible refine r_then ?_
      refine r_ret ?_
      with_reducible refine r_then_ret ?_
      skip
      exact r_retv2 (Rd.two rfl (RdI.tmp rfl) (RdI.tmp rfl)) rfl SelMC.sel SubRC.sub
    ·
      (exfalso; revert hc24; decide)
set_option maxHeartbeats 4000000 in
theorem rfirst_ok (hl1 : B.banks.length ≤ 40) (hl2 : B.rain.length ≤ 40) (hl3 : B.signs.length ≤ 40) (hg : GoodB B) (hw : wayN B (B.rain.length + 1) ≤ 1000) (hc : canB B (allS B) 0 false = true) (d : Nat) (hd : d ≤ B.rain.length) (h2 : ¬ 0 ≤ (firstT (tB B) B.banks.length d).2) : FnV Try.prog 27 [valB B bo ro so bc rc sc, i64 (d : Nat)] [rowD bo 4 encB B.banks, rowD ro 2 encS B.rain, rowD so 3 encG B.signs] (.tuple #[i64 ((firstT (tB B) B.banks.length d).1 : Nat), i64 0]) := by
  have hb1 := hg.nb
  have hb2 := hg.nr
  have hb3 := hg.ns
  have hpo := all_pos hg hc
  have hn : (allW B (allS B)).length ≤ 1000 := Nat.le_trans (goesL_cnt _ _ (by simp)) hw
  refine FnV.intro Try.call27 Try.func27 rfl Try.ntmps27 rfl ?_
  intro W M Rf
  refine r_seq ?_
  refine r_region ?_
  refine o_boxA rfl rfl rfl rfl rfl (fun b2 => ?_)
  refine o_q _ rfl rfl rfl (v_assign rfl rfl) ?_
  refine o_q _ rfl rfl rfl (v_assign rfl rfl) ?_
  refine o_nil ?_
  with_reducible refine r_then ?_
  refine r_seq ?_
  refine r_par' 9 mixed (by kernel_rfl) (by rfl) ?_
  refine p_q _ rfl rfl rfl (fun _ _ => v_ldW rfl Try.underlying28 rfl inf28 rfl rfl) ?_
  refine p_q _ rfl rfl rfl (fun _ _ => v_ldW rfl Try.underlying28 rfl inf28 rfl rfl) ?_
  refine p_q _ rfl rfl rfl (fun _ _ => v_move rfl rfl) ?_
  refine p_q _ rfl rfl rfl (fun _ _ => v_cast (v := .bool true) (OpQ.fn (rDay_v B bo ro so bc rc sc (d : Int) hl1 hl2 hl3) rfl rfl SubRC.sub) (congrArg Value.bool (decide_eq_true (by omega)))) ?_
  refine p_fn (told_r B bo ro so bc rc sc hl1 hl2 hl3 hg hw hc) rfl rfl rfl rfl rfl SubRC.sub ?_
  refine p_acc (by simp only [List.nil_append, List.cons_append]; rfl) ?_
  refine p_depG (pv := (toldV B)) (fc := (fun v => [toldF B (fst1 v)])) 4 (fun u => u) rfl rfl rfl (by kernel_rfl) rfl rfl rfl (fun u h => ⟨h, fun φ hφ => hφ⟩) (fun u _ _ _ => v_move rfl rfl) ?_
  refine p_acc (by simp only [List.nil_append, List.cons_append]; rfl) ?_
  refine p_depG (pv := (isSl (allW B (allS B)).length)) (fc := (fun v => [toldF B v])) 5 (fst1) rfl rfl rfl (by kernel_rfl) rfl rfl rfl (by rintro u ⟨x, hx, rfl⟩; exact ⟨hx, fun φ hφ => hφ⟩) ((by rintro u ⟨x, hx, rfl⟩ Mx Rx; exact v_extract rfl rfl rfl)) ?_
  refine p_acc (by simp only [List.nil_append, List.cons_append]; rfl) ?_
  refine p_dep (v := i64 0) 5 rfl rfl rfl (by kernel_rfl) rfl rfl rfl ((by rintro u ⟨x, hx, rfl⟩ Mx Rx; exact v_extract rfl rfl rfl)) ?_
  refine p_acc (by simp only [List.nil_append, List.cons_append]; rfl) ?_
  refine p_depG (pv := (isSl (allW B (allS B)).length)) (fc := (fun v => [toldF B v])) 6 (fun u => u) rfl rfl rfl (by kernel_rfl) rfl rfl rfl (fun u h => ⟨h, fun φ hφ => hφ⟩) (fun u _ _ _ => v_assign rfl rfl) ?_
  refine p_nil2 (by simp only [List.nil_append, List.cons_append]; rfl) rfl ?_
  refine f_q rfl ?_
  refine f_q rfl ?_
  refine f_q rfl ?_
  refine f_q rfl ?_
  refine f_gf rfl (fun _ _ => ?_)
  refine f_gf rfl (fun _ _ => ?_)
  refine f_gf rfl (fun _ _ => ?_)
  refine f_q rfl ?_
  refine f_gf rfl (fun v6 k6 => ?_)
  refine f_nil ?_
  refine o_q _ rfl rfl rfl (v_assign rfl rfl) ?_
  refine o_nil ?_
  with_reducible refine r_then ?_
  refine r_seq ?_
  refine r_seq ?_
  obtain ⟨tq, tc, rfl⟩ := k6
  refine Imp.told (B := B) (tq := tq) (tc := tc) (List.mem_cons_self ..) (fun xs hx => ?_)
  have hxl := hx.1
  rw [← hxl]
  refine r_region ?_
  refine o_q _ rfl rfl rfl (v_move rfl rfl) ?_
  refine o_q _ rfl rfl rfl (v_neq rfl rfl rfl) ?_
  refine o_nil ?_
  with_reducible refine r_then ?_
  refine r_condd rfl (fun hc19 => ?_) (fun hc19 => ?_)
  ·
    (exfalso; revert hc19; decide)
  ·
    refine r_skip ?_
    with_reducible refine r_then ?_
    refine r_seq ?_
    refine r_seq ?_
    refine r_region ?_
    refine o_q _ rfl rfl rfl (v_ldW rfl Try.underlying28 rfl inf28 rfl rfl) ?_
    refine o_q _ rfl rfl rfl (v_move rfl rfl) ?_
    refine o_q _ rfl rfl rfl (v_move rfl rfl) ?_
    refine o_q _ rfl rfl rfl (v_cast (v := .bool false) (OpQ.fn (rsure_v B bo ro so bc rc sc hg hc tq tc xs hx hn d (by omega)) rfl rfl SubRC.sub) (congrArg Value.bool (decide_eq_false h2))) ?_
    refine o_nil ?_
    with_reducible refine r_then ?_
    refine r_cond rfl (fun hc24 => ?_) (fun hc24 => ?_)
    ·
      (exfalso; revert hc24; decide)
    ·
      refine r_skip ?_
      with_reducible refine r_then ?_
      refine r_seq ?_
      refine r_region ?_
      refine o_q _ rfl rfl rfl (v_assign rfl rfl) ?_
      refine o_nil ?_
      with_reducible refine r_then ?_
      refine r_seq ?_
      refine r_seq ?_
      refine r_region ?_
      refine o_q _ rfl rfl rfl (v_assign rfl rfl) ?_
      refine o_nil ?_
      with_reducible refine r_then ?_
      refine r_block ?_
      refine r_loop (ι := Nat) (fun k => k ≤ B.banks.length) (fun k => [(1, i64 (d : Nat)), (2, pt b2 0), (6, .slice tq xs.length tc), (8, i64 ((leastN (fun k => worstT (tB B) k d) k).1 : Nat)), (9, i64 k)]) (fun k => bx b2 28 (cellsB B bo ro so bc rc sc) :: M) (fun k => [rowD bo 4 encB B.banks, rowD ro 2 encS B.rain, rowD so 3 encG B.signs, rowD tq 2 encT2 xs, waysF xs (allW B (allS B))] ++ Rf) (fun k => B.banks.length - k) 0 ?_ ?_ ?_
      ·
        exact r_here (by repeat (first | exact FSub.nil | refine FSub.cons rfl ?_)) SelMC.sel SubRC.sub
      ·
        omega
      ·
        rintro k hI0
        have hI : k ≤ B.banks.length := hI0
        have hal := arg_lt (fun k => worstT (tB B) k d) hI (by omega)
        refine r_seq ?_
        refine r_seq ?_
        refine r_region ?_
        refine o_q _ rfl rfl rfl (v_move rfl rfl) ?_
        refine o_q _ rfl rfl rfl (v_fieldAddr rfl Try.underlying28 inf22 rfl rfl rfl rfl) ?_
        refine o_q _ rfl rfl rfl (v_ld1 rfl Try.underlying22 rfl rfl rfl) ?_
        refine o_q _ rfl rfl rfl (v_len rfl rfl Try.underlying22 rfl) ?_
        refine o_q _ rfl rfl rfl (v_lss rfl rfl rfl) ?_
        refine o_nil ?_
        with_reducible refine r_then ?_
        refine r_condd rfl (fun hc29 => ?_) (fun hc29 => ?_)
        ·
          refine r_skip ?_
          with_reducible refine r_then ?_
          refine r_seq ?_
          refine r_block ?_
          refine r_seq ?_
          refine r_region ?_
          refine o_q _ rfl rfl rfl (v_move rfl rfl) ?_
          refine o_q _ rfl rfl rfl (v_move rfl rfl) ?_
          refine o_q _ rfl rfl rfl (v_move rfl rfl) ?_
          refine o_q _ rfl rfl rfl (OpQ.fn (rleast_v B hg hc tq tc xs hx hn k d (by omega) (by omega)) rfl rfl SubRC.sub) ?_
          refine o_q _ rfl rfl rfl (v_move rfl rfl) ?_
          refine o_q _ rfl rfl rfl (v_move rfl rfl) ?_
          refine o_q _ rfl rfl rfl (v_move rfl rfl) ?_
          refine o_q _ rfl rfl rfl (OpQ.fn (rleast_v B hg hc tq tc xs hx hn (leastN (fun k => worstT (tB B) k d) k).1 d (by omega) (by omega)) rfl rfl SubRC.sub) ?_
          refine o_q _ rfl rfl rfl (v_lss rfl rfl rfl) ?_
          refine o_nil ?_
          with_reducible refine r_then ?_
          refine r_condd rfl (fun hc40 => ?_) (fun hc40 => ?_)
          ·
            refine r_region ?_
            refine o_q _ rfl rfl rfl (v_move rfl rfl) ?_
            refine o_q _ rfl rfl rfl (v_assign rfl rfl) ?_
            refine o_nil ?_
            with_reducible refine r_in_normal ?_; refine r_then ?_
            refine r_region ?_
            refine o_q _ rfl rfl rfl (v_move rfl rfl) ?_
            refine o_q _ rfl rfl rfl (v_add rfl rfl rfl (by omega)) ?_
            refine o_q _ rfl rfl rfl (v_assign rfl rfl) ?_
            refine o_nil ?_
            with_reducible refine r_then ?_
            refine r_next (k + 1) ?_ ?_ ?_
            ·
              exact r_here (by repeat (first | exact FSub.nil | refine FSub.cons rfl ?_ | refine FSub.cons2 rfl (congrArg (fun x : Nat => i64 (x : Int)) (by first | exact (arg_y (f := (fun k => worstT (tB B) k d)) (by assumption)).symm | exact (arg_n (f := (fun k => worstT (tB B) k d)) (by assumption)).symm)) ?_)) SelMC.sel SubRC.sub
            ·
              omega
            ·
              omega
          ·
            refine r_skip ?_
            with_reducible refine r_in_normal ?_; refine r_then ?_
            refine r_region ?_
            refine o_q _ rfl rfl rfl (v_move rfl rfl) ?_
            refine o_q _ rfl rfl rfl (v_add rfl rfl rfl (by omega)) ?_
            refine o_q _ rfl rfl rfl (v_assign rfl rfl) ?_
            refine o_nil ?_
            with_reducible refine r_then ?_
            refine r_next (k + 1) ?_ ?_ ?_
            ·
              exact r_here (by repeat (first | exact FSub.nil | refine FSub.cons rfl ?_ | refine FSub.cons2 rfl (congrArg (fun x : Nat => i64 (x : Int)) (by first | exact (arg_y (f := (fun k => worstT (tB B) k d)) (by assumption)).symm | exact (arg_n (f := (fun k => worstT (tB B) k d)) (by assumption)).symm)) ?_)) SelMC.sel SubRC.sub
            ·
              omega
            ·
              omega
        ·
          refine r_exit ?_
          with_reducible refine r_then_exit ?_; refine r_then_exit ?_; refine r_in_here ?_; refine r_then ?_
          refine r_seq ?_
          refine r_region ?_
          refine o_q _ rfl rfl rfl (v_move rfl rfl) ?_
          refine o_q _ rfl rfl rfl (v_assign rfl rfl) ?_
          refine o_q _ rfl rfl rfl (v_assign rfl rfl) ?_
          refine o_nil ?_
          with_reducible refine r_then ?_
          refine r_ret ?_
          skip
          obtain rfl : k = B.banks.length := by omega
          exact r_retv2 (Rd.two rfl (RdI.tmp rfl) (RdI.tmp rfl)) rfl SelMC.sel SubRC.sub
end Go.Proofs.Ytoggggnlponfhaa


namespace Go.Proofs.Ytoggggnlponfhaa
open Go.G Burst8
set_option maxRecDepth 1000000
attribute [local irreducible] G.ParO G.Fin
attribute [local irreducible] fw fwR fwC emptyT tabOf knownT canB boundsL
variable (B : Bog) (bo ro so : Option Addr) (bc rc sc : Nat) (bb mb : Nat)
attribute [local irreducible] leastU setB pop
set_option maxHeartbeats 4000000 in
theorem runtil (hl1 : B.banks.length ≤ 40) (hl2 : B.rain.length ≤ 40) (hl3 : B.signs.length ≤ 40) (hg : GoodB B) (hw : wayN B (B.rain.length + 1) ≤ 1000) (hc : canB B (allS B) 0 false = true) (h0 : 0 ≤ lastB B) : FnV Try.prog 25 [valB B bo ro so bc rc sc] [rowD bo 4 encB B.banks, rowD ro 2 encS B.rain, rowD so 3 encG B.signs] (.tuple #[i64 (lastB B), i64 0]) := by
  have hb1 := hg.nb
  have hb2 := hg.nr
  have hb3 := hg.ns
  have hpo := all_pos hg hc
  have hn : (allW B (allS B)).length ≤ 1000 := Nat.le_trans (goesL_cnt _ _ (by simp)) hw
  refine FnV.intro Try.call25 Try.func25 rfl Try.ntmps25 rfl ?_
  intro W M Rf
  refine r_seq ?_
  refine r_region ?_
  refine o_boxA rfl rfl rfl rfl rfl (fun b1 => ?_)
  refine o_q _ rfl rfl rfl (v_assign rfl rfl) ?_
  refine o_q _ rfl rfl rfl (v_assign rfl rfl) ?_
  refine o_nil ?_
  with_reducible refine r_then ?_
  refine r_seq ?_
  refine r_region ?_
  refine o_q _ rfl rfl rfl (v_ldW rfl Try.underlying28 rfl inf28 rfl rfl) ?_
  refine o_fn (told_r B bo ro so bc rc sc hl1 hl2 hl3 hg hw hc) rfl rfl rfl rfl rfl SubRC.sub (fun v9 hv9 => ?_)
  obtain ⟨u9, ⟨tq, tc, rfl⟩, rfl⟩ := hv9
  refine Imp.told (B := B) (tq := tq) (tc := tc) (List.mem_cons_self ..) (fun xs hx => ?_)
  have hxl := hx.1
  rw [← hxl]
  refine o_q _ rfl rfl rfl (v_move rfl rfl) ?_
  refine o_q _ rfl rfl rfl (v_extract rfl rfl rfl) ?_
  refine o_q _ rfl rfl rfl (v_extract rfl rfl rfl) ?_
  refine o_q _ rfl rfl rfl (v_assign rfl rfl) ?_
  refine o_q _ rfl rfl rfl (v_assign rfl rfl) ?_
  refine o_nil ?_
  with_reducible refine r_then ?_
  refine r_seq ?_
  refine r_seq ?_
  refine r_region ?_
  refine o_q _ rfl rfl rfl (v_move rfl rfl) ?_
  refine o_q _ rfl rfl rfl (v_neq rfl rfl rfl) ?_
  refine o_nil ?_
  with_reducible refine r_then ?_
  refine r_condd rfl (fun hc13 => ?_) (fun hc13 => ?_)
  ·
    (exfalso; revert hc13; decide)
  ·
    refine r_skip ?_
    with_reducible refine r_then ?_
    refine r_seq ?_
    refine r_seq ?_
    refine r_region ?_
    refine o_q _ rfl rfl rfl (v_fieldAddr rfl Try.underlying28 inf25 rfl rfl rfl rfl) ?_
    refine o_q _ rfl rfl rfl (v_ld1 rfl Try.underlying25 rfl rfl rfl) ?_
    refine o_q _ rfl rfl rfl (v_len rfl rfl Try.underlying25 rfl) ?_
    refine o_q _ rfl rfl rfl (v_assign rfl rfl) ?_
    refine o_nil ?_
    with_reducible refine r_then ?_
    refine r_block ?_
    refine r_loop (ι := Nat) (fun k => k ≤ B.rain.length + 1 ∧ lastB B = lastTo (safeB B) k) (fun k => [(1, pt b1 0), (4, .slice tq xs.length tc), (6, i64 ((k : Int) - 1))]) (fun k => bx b1 28 (cellsB B bo ro so bc rc sc) :: M) (fun k => [rowD bo 4 encB B.banks, rowD ro 2 encS B.rain, rowD so 3 encG B.signs, rowD tq 2 encT2 xs, waysF xs (allW B (allS B))] ++ Rf) (fun k => k) (B.rain.length + 1) ?_ ?_ ?_
    ·
      exact r_here (by repeat (first | exact FSub.nil | refine FSub.cons rfl ?_ | refine FSub.cons2 rfl (congrArg (Value.int .i64) (by omega)) ?_)) SelMC.sel SubRC.sub
    ·
      exact ⟨Nat.le_refl _, rfl⟩
    ·
      rintro k hI0
      have hI := hI0.1
      refine r_seq ?_
      refine r_seq ?_
      refine r_region ?_
      refine o_q _ rfl rfl rfl (v_move rfl rfl) ?_
      refine o_q _ rfl rfl rfl (v_geq rfl rfl rfl) ?_
      refine o_nil ?_
      with_reducible refine r_then ?_
      refine r_condd rfl (fun hc19 => ?_) (fun hc19 => ?_)
      ·
        refine r_skip ?_
        with_reducible refine r_then ?_
        refine r_seq ?_
        refine r_block ?_
        refine r_seq ?_
        obtain ⟨q, rfl⟩ : ∃ q, k = q + 1 := ⟨k - 1, by omega⟩
        refine r_region ?_
        refine o_q _ rfl rfl rfl (v_ldW rfl Try.underlying28 rfl inf28 rfl rfl) ?_
        refine o_q _ rfl rfl rfl (v_move rfl rfl) ?_
        refine o_q _ rfl rfl rfl (v_cast (v := i64 (q : Nat)) (v_move rfl rfl) (congrArg (Value.int .i64) (by omega))) ?_
        refine o_q _ rfl rfl rfl (OpQ.fn (rsure_v B bo ro so bc rc sc hg hc tq tc xs hx hn q (by omega)) rfl rfl SubRC.sub) ?_
        refine o_nil ?_
        with_reducible refine r_then ?_
        refine r_condd rfl (fun hc25 => ?_) (fun hc25 => ?_)
        ·
          refine r_seq ?_
          refine r_region ?_
          refine o_q _ rfl rfl rfl (v_cast (v := i64 (q : Nat)) (v_move rfl rfl) (congrArg (Value.int .i64) (by omega))) ?_
          refine o_q _ rfl rfl rfl (v_assign rfl rfl) ?_
          refine o_q _ rfl rfl rfl (v_assign rfl rfl) ?_
          refine o_nil ?_
          with_reducible refine r_then ?_
          refine r_ret ?_
          with_reducible refine r_in_ret ?_; refine r_then_ret ?_; refine r_then_ret ?_; refine r_in_ret ?_; refine r_then_ret ?_
          (have hl := hI0.2.trans (lastTo_y (show safeB B q = true from decide_eq_true (by assumption))); exact r_retv2 (Rd.two rfl (RdI.tmp rfl) (RdI.tmp rfl)) (by rw [hl]) SelMC.sel SubRC.sub)
        ·
          refine r_skip ?_
          with_reducible refine r_in_normal ?_; refine r_then ?_
          refine r_region ?_
          refine o_q _ rfl rfl rfl (v_move rfl rfl) ?_
          refine o_q _ rfl rfl rfl (v_sub rfl rfl rfl (by omega)) ?_
          refine o_q _ rfl rfl rfl (v_assign rfl rfl) ?_
          refine o_nil ?_
          with_reducible refine r_then ?_
          exact r_next (q) (by exact r_here (by repeat (first | exact FSub.nil | refine FSub.cons rfl ?_ | refine FSub.cons2 rfl (congrArg (Value.int .i64) (by omega)) ?_)) SelMC.sel SubRC.sub) (by exact ⟨by show q ≤ _; omega, hI0.2.trans (lastTo_n (by unfold safeB; rw [decide_eq_true_iff]; assumption))⟩) (by show q < q + 1; omega)
      ·
        refine r_exit ?_
        with_reducible refine r_then_exit ?_; refine r_then_exit ?_; refine r_in_here ?_; refine r_then ?_
        refine r_seq ?_
        refine r_region ?_
        refine o_q _ rfl rfl rfl (v_assign rfl rfl) ?_
        refine o_q _ rfl rfl rfl (v_assign rfl rfl) ?_
        refine o_nil ?_
        with_reducible refine r_then ?_
        refine r_ret ?_
        (exfalso; obtain rfl : k = 0 := (by omega); have hl := hI0.2; rw [show lastTo (safeB B) 0 = -1 from rfl] at hl; omega)
set_option maxHeartbeats 4000000 in
theorem runtil4 (hl1 : B.banks.length ≤ 40) (hl2 : B.rain.length ≤ 40) (hl3 : B.signs.length ≤ 40) (hg : GoodB B) (hw : wayN B (B.rain.length + 1) ≤ 1000) (hc : canB B (allS B) 0 false = true) (h0 : ¬ 0 ≤ lastB B) : FnV Try.prog 25 [valB B bo ro so bc rc sc] [rowD bo 4 encB B.banks, rowD ro 2 encS B.rain, rowD so 3 encG B.signs] (.tuple #[i64 0, i64 4]) := by
  have hb1 := hg.nb
  have hb2 := hg.nr
  have hb3 := hg.ns
  have hpo := all_pos hg hc
  have hn : (allW B (allS B)).length ≤ 1000 := Nat.le_trans (goesL_cnt _ _ (by simp)) hw
  refine FnV.intro Try.call25 Try.func25 rfl Try.ntmps25 rfl ?_
  intro W M Rf
  refine r_seq ?_
  refine r_region ?_
  refine o_boxA rfl rfl rfl rfl rfl (fun b1 => ?_)
  refine o_q _ rfl rfl rfl (v_assign rfl rfl) ?_
  refine o_q _ rfl rfl rfl (v_assign rfl rfl) ?_
  refine o_nil ?_
  with_reducible refine r_then ?_
  refine r_seq ?_
  refine r_region ?_
  refine o_q _ rfl rfl rfl (v_ldW rfl Try.underlying28 rfl inf28 rfl rfl) ?_
  refine o_fn (told_r B bo ro so bc rc sc hl1 hl2 hl3 hg hw hc) rfl rfl rfl rfl rfl SubRC.sub (fun v9 hv9 => ?_)
  obtain ⟨u9, ⟨tq, tc, rfl⟩, rfl⟩ := hv9
  refine Imp.told (B := B) (tq := tq) (tc := tc) (List.mem_cons_self ..) (fun xs hx => ?_)
  have hxl := hx.1
  rw [← hxl]
  refine o_q _ rfl rfl rfl (v_move rfl rfl) ?_
  refine o_q _ rfl rfl rfl (v_extract rfl rfl rfl) ?_
  refine o_q _ rfl rfl rfl (v_extract rfl rfl rfl) ?_
  refine o_q _ rfl rfl rfl (v_assign rfl rfl) ?_
  refine o_q _ rfl rfl rfl (v_assign rfl rfl) ?_
  refine o_nil ?_
  with_reducible refine r_then ?_
  refine r_seq ?_
  refine r_seq ?_
  refine r_region ?_
  refine o_q _ rfl rfl rfl (v_move rfl rfl) ?_
  refine o_q _ rfl rfl rfl (v_neq rfl rfl rfl) ?_
  refine o_nil ?_
  with_reducible refine r_then ?_
  refine r_condd rfl (fun hc13 => ?_) (fun hc13 => ?_)
  ·
    (exfalso; revert hc13; decide)
  ·
    refine r_skip ?_
    with_reducible refine r_then ?_
    refine r_seq ?_
    refine r_seq ?_
    refine r_region ?_
    refine o_q _ rfl rfl rfl (v_fieldAddr rfl Try.underlying28 inf25 rfl rfl rfl rfl) ?_
    refine o_q _ rfl rfl rfl (v_ld1 rfl Try.underlying25 rfl rfl rfl) ?_
    refine o_q _ rfl rfl rfl (v_len rfl rfl Try.underlying25 rfl) ?_
    refine o_q _ rfl rfl rfl (v_assign rfl rfl) ?_
    refine o_nil ?_
    with_reducible refine r_then ?_
    refine r_block ?_
    refine r_loop (ι := Nat) (fun k => k ≤ B.rain.length + 1 ∧ lastB B = lastTo (safeB B) k) (fun k => [(1, pt b1 0), (4, .slice tq xs.length tc), (6, i64 ((k : Int) - 1))]) (fun k => bx b1 28 (cellsB B bo ro so bc rc sc) :: M) (fun k => [rowD bo 4 encB B.banks, rowD ro 2 encS B.rain, rowD so 3 encG B.signs, rowD tq 2 encT2 xs, waysF xs (allW B (allS B))] ++ Rf) (fun k => k) (B.rain.length + 1) ?_ ?_ ?_
    ·
      exact r_here (by repeat (first | exact FSub.nil | refine FSub.cons rfl ?_ | refine FSub.cons2 rfl (congrArg (Value.int .i64) (by omega)) ?_)) SelMC.sel SubRC.sub
    ·
      exact ⟨Nat.le_refl _, rfl⟩
    ·
      rintro k hI0
      have hI := hI0.1
      refine r_seq ?_
      refine r_seq ?_
      refine r_region ?_
      refine o_q _ rfl rfl rfl (v_move rfl rfl) ?_
      refine o_q _ rfl rfl rfl (v_geq rfl rfl rfl) ?_
      refine o_nil ?_
      with_reducible refine r_then ?_
      refine r_condd rfl (fun hc19 => ?_) (fun hc19 => ?_)
      ·
        refine r_skip ?_
        with_reducible refine r_then ?_
        refine r_seq ?_
        refine r_block ?_
        refine r_seq ?_
        obtain ⟨q, rfl⟩ : ∃ q, k = q + 1 := ⟨k - 1, by omega⟩
        refine r_region ?_
        refine o_q _ rfl rfl rfl (v_ldW rfl Try.underlying28 rfl inf28 rfl rfl) ?_
        refine o_q _ rfl rfl rfl (v_move rfl rfl) ?_
        refine o_q _ rfl rfl rfl (v_cast (v := i64 (q : Nat)) (v_move rfl rfl) (congrArg (Value.int .i64) (by omega))) ?_
        refine o_q _ rfl rfl rfl (OpQ.fn (rsure_v B bo ro so bc rc sc hg hc tq tc xs hx hn q (by omega)) rfl rfl SubRC.sub) ?_
        refine o_nil ?_
        with_reducible refine r_then ?_
        refine r_condd rfl (fun hc25 => ?_) (fun hc25 => ?_)
        ·
          refine r_seq ?_
          refine r_region ?_
          refine o_q _ rfl rfl rfl (v_cast (v := i64 (q : Nat)) (v_move rfl rfl) (congrArg (Value.int .i64) (by omega))) ?_
          refine o_q _ rfl rfl rfl (v_assign rfl rfl) ?_
          refine o_q _ rfl rfl rfl (v_assign rfl rfl) ?_
          refine o_nil ?_
          with_reducible refine r_then ?_
          refine r_ret ?_
          with_reducible refine r_in_ret ?_; refine r_then_ret ?_; refine r_then_ret ?_; refine r_in_ret ?_; refine r_then_ret ?_
          (exfalso; have hl := hI0.2.trans (lastTo_y (show safeB B q = true from decide_eq_true (by assumption))); omega)
        ·
          refine r_skip ?_
          with_reducible refine r_in_normal ?_; refine r_then ?_
          refine r_region ?_
          refine o_q _ rfl rfl rfl (v_move rfl rfl) ?_
          refine o_q _ rfl rfl rfl (v_sub rfl rfl rfl (by omega)) ?_
          refine o_q _ rfl rfl rfl (v_assign rfl rfl) ?_
          refine o_nil ?_
          with_reducible refine r_then ?_
          exact r_next (q) (by exact r_here (by repeat (first | exact FSub.nil | refine FSub.cons rfl ?_ | refine FSub.cons2 rfl (congrArg (Value.int .i64) (by omega)) ?_)) SelMC.sel SubRC.sub) (by exact ⟨by show q ≤ _; omega, hI0.2.trans (lastTo_n (by unfold safeB; rw [decide_eq_true_iff]; assumption))⟩) (by show q < q + 1; omega)
      ·
        refine r_exit ?_
        with_reducible refine r_then_exit ?_; refine r_then_exit ?_; refine r_in_here ?_; refine r_then ?_
        refine r_seq ?_
        refine r_region ?_
        refine o_q _ rfl rfl rfl (v_assign rfl rfl) ?_
        refine o_q _ rfl rfl rfl (v_assign rfl rfl) ?_
        refine o_nil ?_
        with_reducible refine r_then ?_
        refine r_ret ?_
        exact r_retv2 (Rd.two rfl (RdI.tmp rfl) (RdI.tmp rfl)) rfl SelMC.sel SubRC.sub
set_option maxHeartbeats 4000000 in
theorem rclash1 (hl1 : B.banks.length ≤ 40) (hl2 : B.rain.length ≤ 40) (hl3 : B.signs.length ≤ 40) (hng : ¬ GoodB B) : FnV Try.prog 29 [valB B bo ro so bc rc sc] [rowD bo 4 encB B.banks, rowD ro 2 encS B.rain, rowD so 3 encG B.signs] (.tuple #[i64 0, i64 1]) := by
  refine FnV.intro Try.call29 Try.func29 rfl Try.ntmps29 rfl ?_
  intro W M Rf
  refine r_seq ?_
  refine r_region ?_
  refine o_boxA rfl rfl rfl rfl rfl (fun b1 => ?_)
  refine o_q _ rfl rfl rfl (v_assign rfl rfl) ?_
  refine o_q _ rfl rfl rfl (v_assign rfl rfl) ?_
  refine o_nil ?_
  with_reducible refine r_then ?_
  refine r_seq ?_
  refine r_seq ?_
  refine r_region ?_
  refine o_q _ rfl rfl rfl (v_ldW rfl Try.underlying28 rfl inf28 rfl rfl) ?_
  refine o_q _ rfl rfl rfl (v_cast (v := .bool false) (OpQ.fn (Burst_v B bo ro so bc rc sc hl1 hl2 hl3) rfl rfl SubRC.sub) (congrArg Value.bool (decide_eq_false hng))) ?_
  refine o_q _ rfl rfl rfl (v_not rfl rfl) ?_
  refine o_nil ?_
  with_reducible refine r_then ?_
  refine r_cond rfl (fun hc8 => ?_) (fun hc8 => ?_)
  ·
    refine r_seq ?_
    refine r_region ?_
    refine o_q _ rfl rfl rfl (v_assign rfl rfl) ?_
    refine o_q _ rfl rfl rfl (v_assign rfl rfl) ?_
    refine o_nil ?_
    with_reducible refine r_then ?_
    refine r_ret ?_
    with_reducible refine r_then_ret ?_
    exact r_retv2 (Rd.two rfl (RdI.tmp rfl) (RdI.tmp rfl)) rfl SelMC.sel SubRC.sub
  ·
    (exfalso; revert hc8; decide)
set_option maxHeartbeats 4000000 in
theorem rclash4 (hl1 : B.banks.length ≤ 40) (hl2 : B.rain.length ≤ 40) (hl3 : B.signs.length ≤ 40) (hg : GoodB B) (hw : wayN B (B.rain.length + 1) ≤ 1000) (hc : canB B (allS B) 0 false = true) : FnV Try.prog 29 [valB B bo ro so bc rc sc] [rowD bo 4 encB B.banks, rowD ro 2 encS B.rain, rowD so 3 encG B.signs] (.tuple #[i64 0, i64 4]) := by
  have hb1 := hg.nb
  have hb2 := hg.nr
  have hb3 := hg.ns
  have hal : allS B < 64 := by unfold allS; have := (pow_62 (show B.signs.length ≤ 5 by omega) (by omega)).1; have h5 : 2 ^ B.signs.length ≤ 2 ^ 5 := Nat.pow_le_pow_right (by omega) (by omega); omega
  have hae : allS B = 2 ^ B.signs.length - 1 := rfl
  refine FnV.intro Try.call29 Try.func29 rfl Try.ntmps29 rfl ?_
  intro W M Rf
  refine r_seq ?_
  refine r_region ?_
  refine o_boxA rfl rfl rfl rfl rfl (fun b1 => ?_)
  refine o_q _ rfl rfl rfl (v_assign rfl rfl) ?_
  refine o_q _ rfl rfl rfl (v_assign rfl rfl) ?_
  refine o_nil ?_
  with_reducible refine r_then ?_
  refine r_seq ?_
  refine r_seq ?_
  refine r_region ?_
  refine o_q _ rfl rfl rfl (v_ldW rfl Try.underlying28 rfl inf28 rfl rfl) ?_
  refine o_q _ rfl rfl rfl (v_cast (v := .bool true) (OpQ.fn (Burst_v B bo ro so bc rc sc hl1 hl2 hl3) rfl rfl SubRC.sub) (congrArg Value.bool (decide_eq_true hg))) ?_
  refine o_q _ rfl rfl rfl (v_not rfl rfl) ?_
  refine o_nil ?_
  with_reducible refine r_then ?_
  refine r_cond rfl (fun hc8 => ?_) (fun hc8 => ?_)
  ·
    (exfalso; revert hc8; decide)
  ·
    refine r_skip ?_
    with_reducible refine r_then ?_
    refine r_seq ?_
    refine r_seq ?_
    refine Imp.nilL 82 2 encT2 ?_
    refine Imp.derive (ψ := waysF [] []) ?_ (fun V _ => waysF_nil)
    refine Imp.derive (ψ := rowD none 1 encI ([] : List Int)) ?_ (fun V _ => row_nil)
    refine r_par' 3 mixed (by kernel_rfl) (by rfl) ?_
    refine p_q _ rfl rfl rfl (fun _ _ => v_ldW rfl Try.underlying28 rfl inf28 rfl rfl) ?_
    refine p_q _ rfl rfl rfl (fun _ _ => v_ldW rfl Try.underlying28 rfl inf28 rfl rfl) ?_
    refine p_q _ rfl rfl rfl (fun _ _ => OpQ.fn (revery_v B bo ro so bc rc sc (by omega)) rfl rfl SubRC.sub) ?_
    refine p_nil2 (by simp only [List.nil_append, List.cons_append]; rfl) rfl ?_
    refine f_q rfl ?_
    refine f_q rfl ?_
    refine f_q rfl ?_
    refine f_nil ?_
    refine o_fnX (goes_all B bo ro so bc rc sc hg (allS B) hal hw) rfl rfl rfl rfl rfl SubRC.sub (fun y hy => ?_)
    all_goals
      obtain ⟨yv, ys⟩ := y
      dsimp only at hy
      refine Imp.settleS yv encT2_len (fun so2 sc2 hv => ?_)
      dsimp only at hv
      subst hv
      have hyl := hy.1
      have hcz := can_zero hg (m := allS B)
      refine o_q _ rfl rfl rfl (v_len rfl rfl Try.underlying78 rfl) ?_
      refine o_q _ rfl rfl rfl (v_gtr rfl rfl rfl) ?_
      refine o_nil ?_
      with_reducible refine r_then ?_
      refine r_condd rfl (fun hc14 => ?_) (fun hc14 => ?_)
      ·
        refine r_seq ?_
        refine r_region ?_
        refine o_q _ rfl rfl rfl (v_assign rfl rfl) ?_
        refine o_q _ rfl rfl rfl (v_assign rfl rfl) ?_
        refine o_nil ?_
        with_reducible refine r_then ?_
        refine r_ret ?_
        with_reducible refine r_then_ret ?_
        exact r_retv2 (Rd.two rfl (RdI.tmp rfl) (RdI.tmp rfl)) rfl SelMC.sel SubRC.sub
      ·
        refine r_skip ?_
        with_reducible refine r_then ?_
        refine r_seq ?_
        exfalso; exact absurd (hcz.1 hc) (by omega)
set_option maxHeartbeats 4000000 in
theorem rclash (hl1 : B.banks.length ≤ 40) (hl2 : B.rain.length ≤ 40) (hl3 : B.signs.length ≤ 40) (hg : GoodB B) (hw : wayN B (B.rain.length + 1) ≤ 1000) (hc : canB B (allS B) 0 false = false) : FnV Try.prog 29 [valB B bo ro so bc rc sc] [rowD bo 4 encB B.banks, rowD ro 2 encS B.rain, rowD so 3 encG B.signs] (.tuple #[i64 (setB B : Nat), i64 0]) := by
  have hb1 := hg.nb
  have hb2 := hg.nr
  have hb3 := hg.ns
  have hal : allS B < 64 := by unfold allS; have := (pow_62 (show B.signs.length ≤ 5 by omega) (by omega)).1; have h5 : 2 ^ B.signs.length ≤ 2 ^ 5 := Nat.pow_le_pow_right (by omega) (by omega); omega
  have hae : allS B = 2 ^ B.signs.length - 1 := rfl
  refine FnV.intro Try.call29 Try.func29 rfl Try.ntmps29 rfl ?_
  intro W M Rf
  refine r_seq ?_
  refine r_region ?_
  refine o_boxA rfl rfl rfl rfl rfl (fun b1 => ?_)
  refine o_q _ rfl rfl rfl (v_assign rfl rfl) ?_
  refine o_q _ rfl rfl rfl (v_assign rfl rfl) ?_
  refine o_nil ?_
  with_reducible refine r_then ?_
  refine r_seq ?_
  refine r_seq ?_
  refine r_region ?_
  refine o_q _ rfl rfl rfl (v_ldW rfl Try.underlying28 rfl inf28 rfl rfl) ?_
  refine o_q _ rfl rfl rfl (v_cast (v := .bool true) (OpQ.fn (Burst_v B bo ro so bc rc sc hl1 hl2 hl3) rfl rfl SubRC.sub) (congrArg Value.bool (decide_eq_true hg))) ?_
  refine o_q _ rfl rfl rfl (v_not rfl rfl) ?_
  refine o_nil ?_
  with_reducible refine r_then ?_
  refine r_cond rfl (fun hc8 => ?_) (fun hc8 => ?_)
  ·
    (exfalso; revert hc8; decide)
  ·
    refine r_skip ?_
    with_reducible refine r_then ?_
    refine r_seq ?_
    refine r_seq ?_
    refine Imp.nilL 82 2 encT2 ?_
    refine Imp.derive (ψ := waysF [] []) ?_ (fun V _ => waysF_nil)
    refine Imp.derive (ψ := rowD none 1 encI ([] : List Int)) ?_ (fun V _ => row_nil)
    refine r_par' 3 mixed (by kernel_rfl) (by rfl) ?_
    refine p_q _ rfl rfl rfl (fun _ _ => v_ldW rfl Try.underlying28 rfl inf28 rfl rfl) ?_
    refine p_q _ rfl rfl rfl (fun _ _ => v_ldW rfl Try.underlying28 rfl inf28 rfl rfl) ?_
    refine p_q _ rfl rfl rfl (fun _ _ => OpQ.fn (revery_v B bo ro so bc rc sc (by omega)) rfl rfl SubRC.sub) ?_
    refine p_nil2 (by simp only [List.nil_append, List.cons_append]; rfl) rfl ?_
    refine f_q rfl ?_
    refine f_q rfl ?_
    refine f_q rfl ?_
    refine f_nil ?_
    refine o_fnX (goes_all B bo ro so bc rc sc hg (allS B) hal hw) rfl rfl rfl rfl rfl SubRC.sub (fun y hy => ?_)
    all_goals
      obtain ⟨yv, ys⟩ := y
      dsimp only at hy
      refine Imp.settleS yv encT2_len (fun so2 sc2 hv => ?_)
      dsimp only at hv
      subst hv
      have hyl := hy.1
      have hcz := can_zero hg (m := allS B)
      refine o_q _ rfl rfl rfl (v_len rfl rfl Try.underlying78 rfl) ?_
      refine o_q _ rfl rfl rfl (v_gtr rfl rfl rfl) ?_
      refine o_nil ?_
      with_reducible refine r_then ?_
      refine r_condd rfl (fun hc14 => ?_) (fun hc14 => ?_)
      ·
        refine r_seq ?_
        exfalso; exact absurd (hcz.2 (by omega)) (by rw [hc]; decide)
      ·
        refine r_skip ?_
        with_reducible refine r_then ?_
        refine r_seq ?_
        refine r_region ?_
        refine o_q _ rfl rfl rfl (v_ldW rfl Try.underlying28 rfl inf28 rfl rfl) ?_
        refine o_q _ rfl rfl rfl (OpQ.fn (revery_v B bo ro so bc rc sc (by omega)) rfl rfl SubRC.sub) ?_
        refine o_q _ rfl rfl rfl (v_assign rfl rfl) ?_
        refine o_nil ?_
        with_reducible refine r_then ?_
        refine r_seq ?_
        refine r_seq ?_
        refine r_region ?_
        refine o_q _ rfl rfl rfl (v_assign rfl rfl) ?_
        refine o_nil ?_
        with_reducible refine r_then ?_
        refine r_block ?_
        refine r_loop (ι := Nat × Nat) (fun gh => gh.1 ≤ allS B + 1 ∧ LeastTo B gh.1 gh.2) (fun gh => [(1, pt b1 0), (4, i64 (gh.2 : Nat)), (5, i64 gh.1)]) (fun gh => bx b1 28 (cellsB B bo ro so bc rc sc) :: M) (fun gh => [rowD bo 4 encB B.banks, rowD ro 2 encS B.rain, rowD so 3 encG B.signs] ++ Rf) (fun gh => allS B + 1 - gh.1) (0, allS B) ?_ ?_ ?_
        ·
          exact r_here (by repeat (first | exact FSub.nil | refine FSub.cons rfl ?_)) SelMC.sel SubRC.sub
        ·
          exact ⟨Nat.zero_le _, least_0 hc⟩
        ·
          rintro ⟨k, c⟩ hI0
          dsimp only at hI0
          dsimp only
          have hIk : k ≤ allS B + 1 := hI0.1
          have hLe := hI0.2
          have hcle := hLe.le
          have hpc := pop_lt c (by omega)
          refine r_seq ?_
          refine r_seq ?_
          refine r_region ?_
          refine o_q _ rfl rfl rfl (v_move rfl rfl) ?_
          refine o_q _ rfl rfl rfl (v_ldW rfl Try.underlying28 rfl inf28 rfl rfl) ?_
          refine o_q _ rfl rfl rfl (OpQ.fn (revery_v B bo ro so bc rc sc (by omega)) rfl rfl SubRC.sub) ?_
          refine o_q _ rfl rfl rfl (v_leq rfl rfl rfl) ?_
          refine o_nil ?_
          with_reducible refine r_then ?_
          refine r_condd rfl (fun hc20 => ?_) (fun hc20 => ?_)
          ·
            refine r_skip ?_
            with_reducible refine r_then ?_
            refine r_seq ?_
            refine r_block ?_
            refine r_seq ?_
            have hpk := pop_lt k (by omega)
            refine r_region ?_
            refine o_q _ rfl rfl rfl (v_move rfl rfl) ?_
            refine o_q _ rfl rfl rfl (OpQ.call (Size_v k (by omega)) rfl [] [] rfl rfl rfl SubRC.sub) ?_
            refine o_q _ rfl rfl rfl (v_move rfl rfl) ?_
            refine o_q _ rfl rfl rfl (OpQ.call (Size_v c (by omega)) rfl [] [] rfl rfl rfl SubRC.sub) ?_
            refine o_test rfl rfl rfl (v_lss rfl rfl rfl) (fun h27 => ?_) (fun h27 => ?_)
            all_goals
              refine o_q _ rfl rfl rfl (v_move rfl rfl) ?_
              first | refine o_gn rfl rfl rfl rfl ?_ | refine o_g _ rfl rfl rfl rfl (v_ldW rfl Try.underlying28 rfl inf28 rfl rfl) ?_
              first | refine o_gn rfl rfl rfl rfl ?_ | refine o_g _ rfl rfl rfl rfl (v_move rfl rfl) ?_
              first | (refine o_gn rfl rfl rfl rfl ?_) | (refine Imp.nilL 82 2 encT2 ?_; refine Imp.derive (ψ := waysF [] []) ?_ (fun V _ => waysF_nil); refine Imp.derive (ψ := rowD none 1 encI ([] : List Int)) ?_ (fun V _ => row_nil); refine o_fnGX (goes_all B bo ro so bc rc sc hg k (by omega) hw) rfl rfl rfl rfl rfl rfl SubRC.sub (fun y hy => ?_); obtain ⟨yv, ys⟩ := y; dsimp only at hy; refine Imp.settleS yv encT2_len (fun so2 sc2 hv => ?_); dsimp only at hv; subst hv; have hyl := hy.1; have hcz := can_zero hg (m := k))
              all_goals
                first | refine o_gn rfl rfl rfl rfl ?_ | refine o_g _ rfl rfl rfl rfl (v_len rfl rfl Try.underlying78 rfl) ?_
                first | refine o_gn rfl rfl rfl rfl ?_ | refine o_gtest rfl rfl rfl rfl (v_eql rfl rfl rfl) (fun h33 => ?_) (fun h33 => ?_)
                all_goals
                  first | refine o_q _ rfl rfl rfl (v_pick_t rfl rfl rfl) ?_ | refine o_q _ rfl rfl rfl (v_pick_f rfl rfl rfl) ?_
                  refine o_nil ?_
                  with_reducible refine r_then ?_
                  refine r_cond rfl (fun hc34 => ?_) (fun hc34 => ?_)
                  ·
                    first
                    | (exfalso; revert hc34; decide)
                    | skip
                      refine r_region ?_
                      refine o_q _ rfl rfl rfl (v_move rfl rfl) ?_
                      refine o_q _ rfl rfl rfl (v_assign rfl rfl) ?_
                      refine o_nil ?_
                      with_reducible refine r_in_normal ?_; refine r_then ?_
                      refine r_region ?_
                      refine o_q _ rfl rfl rfl (v_move rfl rfl) ?_
                      refine o_q _ rfl rfl rfl (v_add rfl rfl rfl (by omega)) ?_
                      refine o_q _ rfl rfl rfl (v_assign rfl rfl) ?_
                      refine o_nil ?_
                      with_reducible refine r_then ?_
                      exact r_next ((k + 1, k)) (by exact r_here (by repeat (first | exact FSub.nil | refine FSub.cons rfl ?_)) SelMC.sel SubRC.sub) (by exact ⟨by show k + 1 ≤ _; omega, least_y hLe (by omega) (by omega) (by cases hz : canB B k 0 false; rfl; exact absurd (hcz.1 hz) (by omega))⟩) (by show _ - (k + 1) < _ - k; omega)
                  ·
                    first
                    | (exfalso; revert hc34; decide)
                    | skip
                      refine r_skip ?_
                      with_reducible refine r_in_normal ?_; refine r_then ?_
                      refine r_region ?_
                      refine o_q _ rfl rfl rfl (v_move rfl rfl) ?_
                      refine o_q _ rfl rfl rfl (v_add rfl rfl rfl (by omega)) ?_
                      refine o_q _ rfl rfl rfl (v_assign rfl rfl) ?_
                      refine o_nil ?_
                      with_reducible refine r_then ?_
                      exact r_next ((k + 1, c)) (by exact r_here (by repeat (first | exact FSub.nil | refine FSub.cons rfl ?_)) SelMC.sel SubRC.sub) (by first | exact ⟨by show k + 1 ≤ _; omega, least_n hg hLe (fun hx => absurd (show pop k < pop c from hx.1) (by omega))⟩ | exact ⟨by show k + 1 ≤ _; omega, least_n hg hLe (fun hx => absurd (hcz.2 (by omega)) (by rw [hx.2]; decide))⟩) (by show _ - (k + 1) < _ - k; omega)
          ·
            refine r_exit ?_
            with_reducible refine r_then_exit ?_; refine r_then_exit ?_; refine r_in_here ?_; refine r_then ?_
            refine r_seq ?_
            refine r_region ?_
            refine o_q _ rfl rfl rfl (v_move rfl rfl) ?_
            refine o_q _ rfl rfl rfl (v_assign rfl rfl) ?_
            refine o_q _ rfl rfl rfl (v_assign rfl rfl) ?_
            refine o_nil ?_
            with_reducible refine r_then ?_
            refine r_ret ?_
            exact r_retv2 (Rd.two rfl (RdI.tmp rfl) (RdI.tmp rfl)) (by rw [least_set hc hI0.2 (by omega)]) SelMC.sel SubRC.sub
end Go.Proofs.Ytoggggnlponfhaa


namespace Go.Proofs.Ytoggggnlponfhaa
open Go.G Burst8
set_option maxRecDepth 1000000
attribute [local irreducible] G.ParO G.Fin
attribute [local irreducible] fw fwR fwC emptyT tabOf knownT canB boundsL
variable (B : Bog) (bo ro so : Option Addr) (bc rc sc : Nat) (bb mb : Nat)
attribute [local irreducible] leastU setB pop
set_option maxHeartbeats 4000000 in
theorem rsafe_e (hl1 : B.banks.length ≤ 40) (hl2 : B.rain.length ≤ 40) (hl3 : B.signs.length ≤ 40) (hw : GoodB B → wayN B (B.rain.length + 1) ≤ 1000) (d : Int) (e : Int) (he : chkB B (isD B d) = e) (hne : e ≠ 0) : FnV Try.prog 23 [valB B bo ro so bc rc sc, i64 d] [rowD bo 4 encB B.banks, rowD ro 2 encS B.rain, rowD so 3 encG B.signs] (.tuple #[i64 0, i64 e]) := by
  refine FnV.intro Try.call23 Try.func23 rfl Try.ntmps23 rfl ?_
  intro W M Rf
  refine r_seq ?_
  refine r_region ?_
  refine o_boxA rfl rfl rfl rfl rfl (fun b2 => ?_)
  refine o_q _ rfl rfl rfl (v_assign rfl rfl) ?_
  refine o_q _ rfl rfl rfl (v_assign rfl rfl) ?_
  refine o_nil ?_
  with_reducible refine r_then ?_
  refine r_seq ?_
  refine r_region_q mixed (by kernel_rfl) ?_
  refine q_q _ rfl rfl rfl (v_ldW rfl Try.underlying28 rfl inf28 rfl rfl) ?_
  refine q_q _ rfl rfl rfl (v_ldW rfl Try.underlying28 rfl inf28 rfl rfl) ?_
  refine q_q _ rfl rfl rfl (v_move rfl rfl) ?_
  refine q_q _ rfl rfl rfl (OpQ.fn (rDay_v B bo ro so bc rc sc d hl1 hl2 hl3) rfl rfl SubRC.sub) ?_
  refine q_q _ rfl rfl rfl (OpQ.fn (told_e B bo ro so bc rc sc hl1 hl2 hl3 hw (isD B d) he hne) rfl rfl SubRC.sub) ?_
  refine q_q _ rfl rfl rfl (v_move rfl rfl) ?_
  refine q_q _ rfl rfl rfl (v_extract rfl rfl rfl) ?_
  refine q_q _ rfl rfl rfl (v_extract rfl rfl rfl) ?_
  refine q_q _ rfl rfl rfl (v_assign rfl rfl) ?_
  refine q_q _ rfl rfl rfl (v_assign rfl rfl) ?_
  refine q_nil ?_
  with_reducible refine r_then ?_
  refine r_seq ?_
  refine r_seq ?_
  refine r_region ?_
  refine o_q _ rfl rfl rfl (v_move rfl rfl) ?_
  refine o_q _ rfl rfl rfl (v_neq rfl rfl rfl) ?_
  refine o_nil ?_
  with_reducible refine r_then ?_
  refine r_condd rfl (fun hc17 => ?_) (fun hc17 => ?_)
  ·
    refine r_seq ?_
    refine r_region ?_
    refine o_q _ rfl rfl rfl (v_move rfl rfl) ?_
    refine o_q _ rfl rfl rfl (v_assign rfl rfl) ?_
    refine o_q _ rfl rfl rfl (v_assign rfl rfl) ?_
    refine o_nil ?_
    with_reducible refine r_then ?_
    refine r_ret ?_
    with_reducible refine r_then_ret ?_
    skip
    exact r_retv2 (Rd.two rfl (RdI.tmp rfl) (RdI.tmp rfl)) rfl SelMC.sel SubRC.sub
  ·
    (exfalso; omega)
set_option maxHeartbeats 4000000 in
theorem rfirst_e (hl1 : B.banks.length ≤ 40) (hl2 : B.rain.length ≤ 40) (hl3 : B.signs.length ≤ 40) (hw : GoodB B → wayN B (B.rain.length + 1) ≤ 1000) (d : Int) (e : Int) (he : chkB B (isD B d) = e) (hne : e ≠ 0) : FnV Try.prog 27 [valB B bo ro so bc rc sc, i64 d] [rowD bo 4 encB B.banks, rowD ro 2 encS B.rain, rowD so 3 encG B.signs] (.tuple #[i64 0, i64 e]) := by
  refine FnV.intro Try.call27 Try.func27 rfl Try.ntmps27 rfl ?_
  intro W M Rf
  refine r_seq ?_
  refine r_region ?_
  refine o_boxA rfl rfl rfl rfl rfl (fun b2 => ?_)
  refine o_q _ rfl rfl rfl (v_assign rfl rfl) ?_
  refine o_q _ rfl rfl rfl (v_assign rfl rfl) ?_
  refine o_nil ?_
  with_reducible refine r_then ?_
  refine r_seq ?_
  refine r_region_q mixed (by kernel_rfl) ?_
  refine q_q _ rfl rfl rfl (v_ldW rfl Try.underlying28 rfl inf28 rfl rfl) ?_
  refine q_q _ rfl rfl rfl (v_ldW rfl Try.underlying28 rfl inf28 rfl rfl) ?_
  refine q_q _ rfl rfl rfl (v_move rfl rfl) ?_
  refine q_q _ rfl rfl rfl (OpQ.fn (rDay_v B bo ro so bc rc sc d hl1 hl2 hl3) rfl rfl SubRC.sub) ?_
  refine q_q _ rfl rfl rfl (OpQ.fn (told_e B bo ro so bc rc sc hl1 hl2 hl3 hw (isD B d) he hne) rfl rfl SubRC.sub) ?_
  refine q_q _ rfl rfl rfl (v_move rfl rfl) ?_
  refine q_q _ rfl rfl rfl (v_extract rfl rfl rfl) ?_
  refine q_q _ rfl rfl rfl (v_extract rfl rfl rfl) ?_
  refine q_q _ rfl rfl rfl (v_assign rfl rfl) ?_
  refine q_q _ rfl rfl rfl (v_assign rfl rfl) ?_
  refine q_nil ?_
  with_reducible refine r_then ?_
  refine r_seq ?_
  refine r_seq ?_
  refine r_region ?_
  refine o_q _ rfl rfl rfl (v_move rfl rfl) ?_
  refine o_q _ rfl rfl rfl (v_neq rfl rfl rfl) ?_
  refine o_nil ?_
  with_reducible refine r_then ?_
  refine r_condd rfl (fun hc19 => ?_) (fun hc19 => ?_)
  ·
    refine r_seq ?_
    refine r_region ?_
    refine o_q _ rfl rfl rfl (v_move rfl rfl) ?_
    refine o_q _ rfl rfl rfl (v_assign rfl rfl) ?_
    refine o_q _ rfl rfl rfl (v_assign rfl rfl) ?_
    refine o_nil ?_
    with_reducible refine r_then ?_
    refine r_ret ?_
    with_reducible refine r_then_ret ?_
    skip
    exact r_retv2 (Rd.two rfl (RdI.tmp rfl) (RdI.tmp rfl)) rfl SelMC.sel SubRC.sub
  ·
    (exfalso; omega)
set_option maxHeartbeats 4000000 in
theorem runtil_e (hl1 : B.banks.length ≤ 40) (hl2 : B.rain.length ≤ 40) (hl3 : B.signs.length ≤ 40) (hw : GoodB B → wayN B (B.rain.length + 1) ≤ 1000)  (e : Int) (he : chkB B true = e) (hne : e ≠ 0) : FnV Try.prog 25 [valB B bo ro so bc rc sc] [rowD bo 4 encB B.banks, rowD ro 2 encS B.rain, rowD so 3 encG B.signs] (.tuple #[i64 0, i64 e]) := by
  refine FnV.intro Try.call25 Try.func25 rfl Try.ntmps25 rfl ?_
  intro W M Rf
  refine r_seq ?_
  refine r_region ?_
  refine o_boxA rfl rfl rfl rfl rfl (fun b1 => ?_)
  refine o_q _ rfl rfl rfl (v_assign rfl rfl) ?_
  refine o_q _ rfl rfl rfl (v_assign rfl rfl) ?_
  refine o_nil ?_
  with_reducible refine r_then ?_
  refine r_seq ?_
  refine r_region ?_
  refine o_q _ rfl rfl rfl (v_ldW rfl Try.underlying28 rfl inf28 rfl rfl) ?_
  refine o_q _ rfl rfl rfl (OpQ.fn (told_e B bo ro so bc rc sc hl1 hl2 hl3 hw true he hne) rfl rfl SubRC.sub) ?_
  refine o_q _ rfl rfl rfl (v_move rfl rfl) ?_
  refine o_q _ rfl rfl rfl (v_extract rfl rfl rfl) ?_
  refine o_q _ rfl rfl rfl (v_extract rfl rfl rfl) ?_
  refine o_q _ rfl rfl rfl (v_assign rfl rfl) ?_
  refine o_q _ rfl rfl rfl (v_assign rfl rfl) ?_
  refine o_nil ?_
  with_reducible refine r_then ?_
  refine r_seq ?_
  refine r_seq ?_
  refine r_region ?_
  refine o_q _ rfl rfl rfl (v_move rfl rfl) ?_
  refine o_q _ rfl rfl rfl (v_neq rfl rfl rfl) ?_
  refine o_nil ?_
  with_reducible refine r_then ?_
  refine r_condd rfl (fun hc13 => ?_) (fun hc13 => ?_)
  ·
    refine r_seq ?_
    refine r_region ?_
    refine o_q _ rfl rfl rfl (v_move rfl rfl) ?_
    refine o_q _ rfl rfl rfl (v_assign rfl rfl) ?_
    refine o_q _ rfl rfl rfl (v_assign rfl rfl) ?_
    refine o_nil ?_
    with_reducible refine r_then ?_
    refine r_ret ?_
    with_reducible refine r_then_ret ?_
    skip
    exact r_retv2 (Rd.two rfl (RdI.tmp rfl) (RdI.tmp rfl)) rfl SelMC.sel SubRC.sub
  ·
    (exfalso; omega)
theorem RSafe_v (d : Int) (hl1 : B.banks.length ≤ 40) (hl2 : B.rain.length ≤ 40) (hl3 : B.signs.length ≤ 40) (hw : GoodB B → wayN B (B.rain.length + 1) ≤ 1000) : FnV Try.prog 23 [valB B bo ro so bc rc sc, i64 d] [rowD bo 4 encB B.banks, rowD ro 2 encS B.rain, rowD so 3 encG B.signs] (.tuple #[i64 (safeV B d).1, i64 (safeV B d).2]) := by
  by_cases h : chkB B (isD B d) = 0
  · obtain ⟨hg, hv, hc⟩ := chk_ok h
    have hd := of_decide_eq_true hv
    obtain ⟨d, rfl⟩ := Int.eq_ofNat_of_zero_le hd.1
    have hd2 : d ≤ B.rain.length := by omega
    by_cases h2 : 0 ≤ (firstT (tB B) B.banks.length d).2
    · rw [safeV, ansB_0 h, gradeB, Int.toNat_natCast, if_pos h2]; exact rsafe2_ok B bo ro so bc rc sc hl1 hl2 hl3 hg (hw hg) hc d hd2 h2
    · cases h1 : canB B (allS B) (d : Int) true
      · rw [safeV, ansB_0 h, gradeB, Int.toNat_natCast, if_neg h2, h1]; exact rsafe0_ok B bo ro so bc rc sc hl1 hl2 hl3 hg (hw hg) hc d hd2 h2 h1
      · rw [safeV, ansB_0 h, gradeB, Int.toNat_natCast, if_neg h2, h1]; exact rsafe1_ok B bo ro so bc rc sc hl1 hl2 hl3 hg (hw hg) hc d hd2 h2 h1
  · rw [safeV, ansB_n rfl h]
    exact rsafe_e B bo ro so bc rc sc hl1 hl2 hl3 hw d _ rfl h
theorem RFirst_v (d : Int) (hl1 : B.banks.length ≤ 40) (hl2 : B.rain.length ≤ 40) (hl3 : B.signs.length ≤ 40) (hw : GoodB B → wayN B (B.rain.length + 1) ≤ 1000) : FnV Try.prog 27 [valB B bo ro so bc rc sc, i64 d] [rowD bo 4 encB B.banks, rowD ro 2 encS B.rain, rowD so 3 encG B.signs] (.tuple #[i64 (firstB B d).1, i64 (firstB B d).2]) := by
  by_cases h : chkB B (isD B d) = 0
  · obtain ⟨hg, hv, hc⟩ := chk_ok h
    have hd := of_decide_eq_true hv
    obtain ⟨d, rfl⟩ := Int.eq_ofNat_of_zero_le hd.1
    have hd2 : d ≤ B.rain.length := by omega
    by_cases h2 : 0 ≤ (firstT (tB B) B.banks.length d).2
    · rw [firstB, Int.toNat_natCast, ansE_4 h (by omega)]; exact rfirst4_ok B bo ro so bc rc sc hl1 hl2 hl3 hg (hw hg) hc d hd2 h2
    · rw [firstB, Int.toNat_natCast, ansE_0 h (by omega)]; exact rfirst_ok B bo ro so bc rc sc hl1 hl2 hl3 hg (hw hg) hc d hd2 h2
  · rw [firstB, ansE_n rfl h]
    exact rfirst_e B bo ro so bc rc sc hl1 hl2 hl3 hw d _ rfl h
theorem RUntil_v  (hl1 : B.banks.length ≤ 40) (hl2 : B.rain.length ≤ 40) (hl3 : B.signs.length ≤ 40) (hw : GoodB B → wayN B (B.rain.length + 1) ≤ 1000) : FnV Try.prog 25 [valB B bo ro so bc rc sc] [rowD bo 4 encB B.banks, rowD ro 2 encS B.rain, rowD so 3 encG B.signs] (.tuple #[i64 (untilB B).1, i64 (untilB B).2]) := by
  by_cases h : chkB B true = 0
  · obtain ⟨hg, hv, hc⟩ := chk_ok h
    by_cases h0 : 0 ≤ lastB B
    · rw [untilB, ansE_0 h h0]; exact runtil B bo ro so bc rc sc hl1 hl2 hl3 hg (hw hg) hc h0
    · rw [untilB, ansE_4 h h0]; exact runtil4 B bo ro so bc rc sc hl1 hl2 hl3 hg (hw hg) hc h0
  · rw [untilB, ansE_n rfl h]
    exact runtil_e B bo ro so bc rc sc hl1 hl2 hl3 hw _ rfl h
theorem RClash_v (hl1 : B.banks.length ≤ 40) (hl2 : B.rain.length ≤ 40) (hl3 : B.signs.length ≤ 40) (hw : GoodB B → wayN B (B.rain.length + 1) ≤ 1000) : FnV Try.prog 29 [valB B bo ro so bc rc sc] [rowD bo 4 encB B.banks, rowD ro 2 encS B.rain, rowD so 3 encG B.signs] (.tuple #[i64 (clashB B).1, i64 (clashB B).2]) := by
  by_cases hg : GoodB B
  · cases hc : canB B (allS B) 0 false
    · rw [clashB_set hg hc]; exact rclash B bo ro so bc rc sc hl1 hl2 hl3 hg (hw hg) hc
    · rw [clashB_none hg hc]; exact rclash4 B bo ro so bc rc sc hl1 hl2 hl3 hg (hw hg) hc
  · rw [clashB, if_neg hg]; exact rclash1 B bo ro so bc rc sc hl1 hl2 hl3 hg
end Go.Proofs.Ytoggggnlponfhaa


namespace Go.Proofs.Ytoggggnlponfhaa
open Go.G Burst8
set_option maxRecDepth 1000000
attribute [local irreducible] G.ParO G.Fin
attribute [local irreducible] fw fwR fwC emptyT tabOf knownT canB boundsL
def wayF (B : Bog) : Nat → Nat
  | 0 => cntS ⟨B.wlo, B.whi⟩
  | k + 1 => wayF B k * cntS (B.rain.getD k default)
theorem wayF_s (B : Bog) (k : Nat) : ((wayF B k : Nat) : Int) * (cntS (B.rain.getD k default) : Nat) = (wayF B (k + 1) : Nat) := (Int.natCast_mul _ _).symm
theorem wayF_le {B : Bog} (hg : GoodB B) : ∀ k, k ≤ B.rain.length → wayF B k ≤ 81 * 21 ^ k
  | 0, _ => by
    have := hg.w
    show (B.whi + 1 - B.wlo).toNat ≤ 81 * 21 ^ 0
    omega
  | k + 1, hk => by
    have h := wayF_le hg k (by omega)
    have hr := hg.rain k (by omega)
    unfold RainOk at hr
    have h2 : cntS (B.rain.getD k default) ≤ 21 := by unfold cntS; omega
    have := Nat.mul_le_mul h h2
    show wayF B k * cntS _ ≤ _
    rw [Nat.pow_succ]
    omega
theorem wayF_bd {B : Bog} (hg : GoodB B) {k : Nat} (hk : k ≤ B.rain.length) : wayF B k ≤ 400000000 := by
  have h := wayF_le hg k hk
  have h2 := hg.nr
  have h3 : 21 ^ k ≤ 21 ^ 5 := Nat.pow_le_pow_right (by decide) (by omega)
  have h4 : 81 * 21 ^ k ≤ 81 * 21 ^ 5 := Nat.mul_le_mul_left _ h3
  omega
theorem wayF_way {B : Bog} : ∀ k, k ≤ B.rain.length → wayF B k * wayN B (B.rain.length - k) = wayN B (B.rain.length + 1)
  | 0, _ => by
    show wayF B 0 * wayN B B.rain.length = (if B.rain.length = B.rain.length then cntS ⟨B.wlo, B.whi⟩ else _) * wayN B B.rain.length
    rw [if_pos rfl]; rfl
  | k + 1, hk => by
    rw [← wayF_way k (by omega)]
    obtain ⟨r, hr⟩ : ∃ r, B.rain.length - k = r + 1 := ⟨B.rain.length - k - 1, by omega⟩
    rw [hr, show B.rain.length - (k + 1) = r from by omega]
    show wayF B k * cntS _ * wayN B r = wayF B k * ((if r = B.rain.length then _ else cntS (B.rain.getD (B.rain.length - 1 - r) default)) * wayN B r)
    rw [if_neg (by omega), show B.rain.length - 1 - r = k from by omega, Nat.mul_assoc]
theorem wayF_all (B : Bog) : wayF B B.rain.length = wayN B (B.rain.length + 1) := by
  have := wayF_way (B := B) B.rain.length (Nat.le_refl _)
  rw [Nat.sub_self] at this
  simpa [wayN] using this
/-- A bog whose water can go in more ways than n. -/
def heavyB (B : Bog) (n : Nat) : Bool := if farB B then true else if GoodB B then decide (((wayN B (B.rain.length + 1) : Nat) : Int) > (n : Nat)) else false
theorem heavy_no {B : Bog} {n : Nat} (h : heavyB B n = false) : ¬ farB B ∧ (GoodB B → wayN B (B.rain.length + 1) ≤ n) := by
  unfold heavyB at h
  split at h
  · cases h
  · refine ⟨by assumption, fun hg => ?_⟩
    rw [if_pos hg] at h
    have := of_decide_eq_false h
    omega
variable (B : Bog) (bo ro so : Option Addr) (bc rc sc : Nat) (bb mb : Nat)
attribute [local irreducible] leastU setB pop
set_option maxHeartbeats 4000000 in
theorem heavy_1 (n : Nat) (hf : farB B) : FnV Try.prog 12 [valB B bo ro so bc rc sc, i64 (n : Nat)] [rowD bo 4 encB B.banks, rowD ro 2 encS B.rain, rowD so 3 encG B.signs] (.bool true) := by
  refine FnV.intro Try.call12 Try.func12 rfl Try.ntmps12 rfl ?_
  intro W M Rf
  refine r_seq ?_
  refine r_region ?_
  refine o_boxA rfl rfl rfl rfl rfl (fun b2 => ?_)
  refine o_q _ rfl rfl rfl (v_assign rfl rfl) ?_
  refine o_nil ?_
  with_reducible refine r_then ?_
  refine r_seq ?_
  refine r_seq ?_
  refine r_region ?_
  refine o_q _ rfl rfl rfl (v_ldW rfl Try.underlying28 rfl inf28 rfl rfl) ?_
  refine o_q _ rfl rfl rfl (v_cast (v := .bool true) (OpQ.fn (far_v B bo ro so bc rc sc) rfl rfl SubRC.sub) (congrArg Value.bool (decide_eq_true hf))) ?_
  refine o_q _ rfl rfl rfl (v_move rfl rfl) ?_
  refine o_gn rfl rfl rfl rfl ?_
  refine o_gn rfl rfl rfl rfl ?_
  refine o_gn rfl rfl rfl rfl ?_
  refine o_q _ rfl rfl rfl (v_pick_t rfl rfl rfl) ?_
  refine o_nil ?_
  with_reducible refine r_then ?_
  refine r_cond rfl (fun hc14 => ?_) (fun hc14 => ?_)
  ·
    refine r_seq ?_
    refine r_region ?_
    refine o_q _ rfl rfl rfl (v_ldW rfl Try.underlying28 rfl inf28 rfl rfl) ?_
    refine o_q _ rfl rfl rfl (v_cast (v := .bool true) (OpQ.fn (far_v B bo ro so bc rc sc) rfl rfl SubRC.sub) (congrArg Value.bool (decide_eq_true hf))) ?_
    refine o_q _ rfl rfl rfl (v_assign rfl rfl) ?_
    refine o_nil ?_
    with_reducible refine r_then ?_
    refine r_ret ?_
    with_reducible refine r_then_ret ?_
    exact r_retv2 (Rd.tmp rfl rfl) rfl SelMC.sel SubRC.sub
  ·
    (exfalso; revert hc14; decide)
set_option maxHeartbeats 4000000 in
theorem heavy_2 (n : Nat) (hf : ¬ farB B) (hg : ¬ GoodB B) : FnV Try.prog 12 [valB B bo ro so bc rc sc, i64 (n : Nat)] [rowD bo 4 encB B.banks, rowD ro 2 encS B.rain, rowD so 3 encG B.signs] (.bool false) := by
  have hff : ¬ 40 < max (max (B.banks.length : Int) B.rain.length) B.signs.length := hf
  have hl1 : B.banks.length ≤ 40 := by omega
  have hl2 : B.rain.length ≤ 40 := by omega
  have hl3 : B.signs.length ≤ 40 := by omega
  refine FnV.intro Try.call12 Try.func12 rfl Try.ntmps12 rfl ?_
  intro W M Rf
  refine r_seq ?_
  refine r_region ?_
  refine o_boxA rfl rfl rfl rfl rfl (fun b2 => ?_)
  refine o_q _ rfl rfl rfl (v_assign rfl rfl) ?_
  refine o_nil ?_
  with_reducible refine r_then ?_
  refine r_seq ?_
  refine r_seq ?_
  refine r_region ?_
  refine o_q _ rfl rfl rfl (v_ldW rfl Try.underlying28 rfl inf28 rfl rfl) ?_
  refine o_q _ rfl rfl rfl (v_cast (v := .bool false) (OpQ.fn (far_v B bo ro so bc rc sc) rfl rfl SubRC.sub) (congrArg Value.bool (decide_eq_false hf))) ?_
  refine o_q _ rfl rfl rfl (v_move rfl rfl) ?_
  refine o_g _ rfl rfl rfl rfl (v_ldW rfl Try.underlying28 rfl inf28 rfl rfl) ?_
  refine o_g _ rfl rfl rfl rfl (v_cast (v := .bool false) (OpQ.fn (Burst_v B bo ro so bc rc sc hl1 hl2 hl3) rfl rfl SubRC.sub) (congrArg Value.bool (decide_eq_false hg))) ?_
  refine o_g _ rfl rfl rfl rfl (v_not rfl rfl) ?_
  refine o_q _ rfl rfl rfl (v_pick_f rfl rfl rfl) ?_
  refine o_nil ?_
  with_reducible refine r_then ?_
  refine r_cond rfl (fun hc14 => ?_) (fun hc14 => ?_)
  ·
    refine r_seq ?_
    refine r_region ?_
    refine o_q _ rfl rfl rfl (v_ldW rfl Try.underlying28 rfl inf28 rfl rfl) ?_
    refine o_q _ rfl rfl rfl (v_cast (v := .bool false) (OpQ.fn (far_v B bo ro so bc rc sc) rfl rfl SubRC.sub) (congrArg Value.bool (decide_eq_false hf))) ?_
    refine o_q _ rfl rfl rfl (v_assign rfl rfl) ?_
    refine o_nil ?_
    with_reducible refine r_then ?_
    refine r_ret ?_
    with_reducible refine r_then_ret ?_
    exact r_retv2 (Rd.tmp rfl rfl) rfl SelMC.sel SubRC.sub
  ·
    (exfalso; revert hc14; decide)
set_option maxHeartbeats 4000000 in
theorem heavy_3 (n : Nat) (hf : ¬ farB B) (hg : GoodB B) : FnV Try.prog 12 [valB B bo ro so bc rc sc, i64 (n : Nat)] [rowD bo 4 encB B.banks, rowD ro 2 encS B.rain, rowD so 3 encG B.signs] (.bool (decide (((wayN B (B.rain.length + 1) : Nat) : Int) > (n : Nat)))) := by
  have hff : ¬ 40 < max (max (B.banks.length : Int) B.rain.length) B.signs.length := hf
  have hl1 : B.banks.length ≤ 40 := by omega
  have hl2 : B.rain.length ≤ 40 := by omega
  have hl3 : B.signs.length ≤ 40 := by omega
  have hb1 := hg.nb
  have hb2 := hg.nr
  have hb3 := hg.ns
  have hb4 := hg.w
  refine FnV.intro Try.call12 Try.func12 rfl Try.ntmps12 rfl ?_
  intro W M Rf
  refine r_seq ?_
  refine r_region ?_
  refine o_boxA rfl rfl rfl rfl rfl (fun b2 => ?_)
  refine o_q _ rfl rfl rfl (v_assign rfl rfl) ?_
  refine o_nil ?_
  with_reducible refine r_then ?_
  refine r_seq ?_
  refine r_seq ?_
  refine r_region ?_
  refine o_q _ rfl rfl rfl (v_ldW rfl Try.underlying28 rfl inf28 rfl rfl) ?_
  refine o_q _ rfl rfl rfl (v_cast (v := .bool false) (OpQ.fn (far_v B bo ro so bc rc sc) rfl rfl SubRC.sub) (congrArg Value.bool (decide_eq_false hf))) ?_
  refine o_q _ rfl rfl rfl (v_move rfl rfl) ?_
  refine o_g _ rfl rfl rfl rfl (v_ldW rfl Try.underlying28 rfl inf28 rfl rfl) ?_
  refine o_g _ rfl rfl rfl rfl (v_cast (v := .bool true) (OpQ.fn (Burst_v B bo ro so bc rc sc hl1 hl2 hl3) rfl rfl SubRC.sub) (congrArg Value.bool (decide_eq_true hg))) ?_
  refine o_g _ rfl rfl rfl rfl (v_not rfl rfl) ?_
  refine o_q _ rfl rfl rfl (v_pick_f rfl rfl rfl) ?_
  refine o_nil ?_
  with_reducible refine r_then ?_
  refine r_cond rfl (fun hc14 => ?_) (fun hc14 => ?_)
  ·
    (exfalso; revert hc14; decide)
  ·
    refine r_skip ?_
    with_reducible refine r_then ?_
    refine r_seq ?_
    refine r_region ?_
    refine o_q _ rfl rfl rfl (v_fieldAddr rfl Try.underlying28 inf24 rfl rfl rfl rfl) ?_
    refine o_q _ rfl rfl rfl (v_fieldAddr rfl Try.underlying24 inf3 rfl rfl rfl rfl) ?_
    refine o_q _ rfl rfl rfl (v_ld1 rfl Try.underlying3 rfl rfl rfl) ?_
    refine o_q _ rfl rfl rfl (v_fieldAddr rfl Try.underlying28 inf24 rfl rfl rfl rfl) ?_
    refine o_q _ rfl rfl rfl (v_fieldAddr rfl Try.underlying24 inf3 rfl rfl rfl rfl) ?_
    refine o_q _ rfl rfl rfl (v_ld1 rfl Try.underlying3 rfl rfl rfl) ?_
    refine o_q _ rfl rfl rfl (v_sub rfl rfl rfl (by omega)) ?_
    refine o_q _ rfl rfl rfl (v_cast (v := i64 (wayF B 0 : Nat)) (v_add rfl rfl rfl (by omega)) (congrArg (Value.int .i64) (by show _ = (((B.whi + 1 - B.wlo).toNat : Nat) : Int); omega))) ?_
    refine o_q _ rfl rfl rfl (v_assign rfl rfl) ?_
    refine o_nil ?_
    with_reducible refine r_then ?_
    refine r_seq ?_
    refine r_seq ?_
    refine r_region ?_
    refine o_q _ rfl rfl rfl (v_fieldAddr rfl Try.underlying28 inf25 rfl rfl rfl rfl) ?_
    refine o_q _ rfl rfl rfl (v_ld1 rfl Try.underlying25 rfl rfl rfl) ?_
    refine o_q _ rfl rfl rfl (v_len rfl rfl Try.underlying25 rfl) ?_
    refine o_q _ rfl rfl rfl (v_move rfl rfl) ?_
    refine o_nil ?_
    with_reducible refine r_then ?_
    refine r_block ?_
    refine r_loop (ι := Nat) (fun k => k ≤ B.rain.length) (fun k => [(1, i64 (n : Nat)), (5, i64 (wayF B k : Nat)), (26, .slice ro B.rain.length rc), (27, i64 B.rain.length), (28, i64 k)]) (fun k => bx b2 28 (cellsB B bo ro so bc rc sc) :: M) (fun k => [rowD bo 4 encB B.banks, rowD ro 2 encS B.rain, rowD so 3 encG B.signs] ++ Rf) (fun k => B.rain.length - k) 0 ?_ ?_ ?_
    ·
      exact r_here (by repeat (first | exact FSub.nil | refine FSub.cons rfl ?_)) SelMC.sel SubRC.sub
    ·
      omega
    ·
      rintro k hI0
      have hI : k ≤ B.rain.length := hI0
      refine r_seq ?_
      refine r_region ?_
      refine o_q _ rfl rfl rfl (v_lss rfl rfl rfl) ?_
      refine o_nil ?_
      with_reducible refine r_then ?_
      refine r_seq ?_
      refine r_condd rfl (fun hc29 => ?_) (fun hc29 => ?_)
      ·
        refine r_skip ?_
        with_reducible refine r_then ?_
        refine r_seq ?_
        refine r_block ?_
        refine r_seq ?_
        refine r_region ?_
        refine o_q _ rfl rfl rfl (v_indexAddrSn rfl Try.underlying25 inf24 rfl rfl rfl (by omega) rfl) ?_
        refine o_q _ rfl rfl rfl (v_loadEN rfl Try.underlying24 rfl inf24 rfl (by omega) rfl rfl rfl) ?_
        refine o_alloc rfl inf24 rfl rfl rfl rfl rfl (fun b7 => ?_)
        refine o_st rfl inf24 rfl rfl rfl rfl rfl rfl rfl rfl ?_
        refine o_nil ?_
        with_reducible refine r_then ?_
        have hrn := hg.rain k (by omega)
        unfold RainOk at hrn
        have hwn := wayF_bd hg (k := k + 1) (by omega)
        refine r_region ?_
        refine o_q _ rfl rfl rfl (v_move rfl rfl) ?_
        refine o_q _ rfl rfl rfl (v_fieldAddr rfl Try.underlying24 inf3 rfl rfl rfl rfl) ?_
        refine o_q _ rfl rfl rfl (v_ld1 rfl Try.underlying3 rfl rfl rfl) ?_
        refine o_q _ rfl rfl rfl (v_fieldAddr rfl Try.underlying24 inf3 rfl rfl rfl rfl) ?_
        refine o_q _ rfl rfl rfl (v_ld1 rfl Try.underlying3 rfl rfl rfl) ?_
        refine o_q _ rfl rfl rfl (v_sub rfl rfl rfl (by omega)) ?_
        refine o_q _ rfl rfl rfl (v_cast (v := i64 (cntS (B.rain.getD k default) : Nat)) (v_add rfl rfl rfl (by omega)) (congrArg (Value.int .i64) (by unfold cntS; omega))) ?_
        refine o_q _ rfl rfl rfl (v_cast (v := i64 (wayF B (k + 1) : Nat)) (v_mul rfl rfl rfl (by rw [wayF_s]; omega)) (congrArg (Value.int .i64) (wayF_s B k))) ?_
        refine o_q _ rfl rfl rfl (v_assign rfl rfl) ?_
        refine o_nil ?_
        with_reducible refine r_in_normal ?_; refine r_then ?_
        refine r_region ?_
        refine o_q _ rfl rfl rfl (v_add rfl rfl rfl (by omega)) ?_
        refine o_q _ rfl rfl rfl (v_move rfl rfl) ?_
        refine o_nil ?_
        with_reducible refine r_then ?_
        refine r_next (k + 1) ?_ ?_ ?_
        ·
          exact r_here (by repeat (first | exact FSub.nil | refine FSub.cons rfl ?_)) SelMC.sel SubRC.sub
        ·
          omega
        ·
          omega
      ·
        refine r_exit ?_
        with_reducible refine r_then_exit ?_; refine r_then_exit ?_; refine r_in_here ?_; refine r_then ?_
        refine r_seq ?_
        refine r_region ?_
        refine o_q _ rfl rfl rfl (v_move rfl rfl) ?_
        refine o_q _ rfl rfl rfl (v_move rfl rfl) ?_
        refine o_q _ rfl rfl rfl (v_gtr rfl rfl rfl) ?_
        refine o_q _ rfl rfl rfl (v_assign rfl rfl) ?_
        refine o_nil ?_
        with_reducible refine r_then ?_
        refine r_ret ?_
        obtain rfl : k = B.rain.length := by omega
        exact r_retv2 (Rd.tmp rfl rfl) (by rw [wayF_all]) SelMC.sel SubRC.sub
theorem heavy_v (n : Nat) : FnV Try.prog 12 [valB B bo ro so bc rc sc, i64 (n : Nat)] [rowD bo 4 encB B.banks, rowD ro 2 encS B.rain, rowD so 3 encG B.signs] (.bool (heavyB B n)) := by
  unfold heavyB
  by_cases hf : farB B
  · rw [if_pos hf]; exact heavy_1 B bo ro so bc rc sc n hf
  · rw [if_neg hf]
    by_cases hg : GoodB B
    · rw [if_pos hg]; exact heavy_3 B bo ro so bc rc sc n hf hg
    · rw [if_neg hg]; exact heavy_2 B bo ro so bc rc sc n hf hg
set_option maxHeartbeats 4000000 in
theorem looks_1 (d : Int) (hv : heavyB B 500 = true) : FnV Try.prog 4 [valB B bo ro so bc rc sc, i64 d] [rowD bo 4 encB B.banks, rowD ro 2 encS B.rain, rowD so 3 encG B.signs] (.bool true) := by
  refine FnV.intro Try.call4 Try.func4 rfl Try.ntmps4 rfl ?_
  intro W M Rf
  refine r_seq ?_
  refine r_region ?_
  refine o_boxA rfl rfl rfl rfl rfl (fun b2 => ?_)
  refine o_q _ rfl rfl rfl (v_assign rfl rfl) ?_
  refine o_nil ?_
  with_reducible refine r_then ?_
  refine r_seq ?_
  refine r_seq ?_
  refine r_region ?_
  refine o_q _ rfl rfl rfl (v_ldW rfl Try.underlying28 rfl inf28 rfl rfl) ?_
  refine o_q _ rfl rfl rfl (v_cast (v := .bool true) (OpQ.fn (heavy_v B bo ro so bc rc sc 500) rfl rfl SubRC.sub) (congrArg Value.bool hv)) ?_
  refine o_nil ?_
  with_reducible refine r_then ?_
  refine r_cond rfl (fun hc22 => ?_) (fun hc22 => ?_)
  ·
    refine r_seq ?_
    refine r_region ?_
    refine o_q _ rfl rfl rfl (OpQ.fn awake_v rfl rfl SubRC.sub) ?_
    refine o_q _ rfl rfl rfl (v_assign rfl rfl) ?_
    refine o_nil ?_
    with_reducible refine r_then ?_
    refine r_ret ?_
    with_reducible refine r_then_ret ?_
    exact r_retv2 (Rd.tmp rfl rfl) rfl SelMC.sel SubRC.sub
  ·
    (exfalso; revert hc22; decide)
set_option maxHeartbeats 4000000 in
theorem looks_2 (d : Int) (hv : heavyB B 500 = false) : FnV Try.prog 4 [valB B bo ro so bc rc sc, i64 d] [rowD bo 4 encB B.banks, rowD ro 2 encS B.rain, rowD so 3 encG B.signs] (.bool true) := by
  obtain ⟨hf, hw0⟩ := heavy_no hv
  have hw : GoodB B → wayN B (B.rain.length + 1) ≤ 1000 := fun h => Nat.le_trans (hw0 h) (by decide)
  have hff : ¬ 40 < max (max (B.banks.length : Int) B.rain.length) B.signs.length := hf
  have hl1 : B.banks.length ≤ 40 := by omega
  have hl2 : B.rain.length ≤ 40 := by omega
  have hl3 : B.signs.length ≤ 40 := by omega
  refine FnV.intro Try.call4 Try.func4 rfl Try.ntmps4 rfl ?_
  intro W M Rf
  refine r_seq ?_
  refine r_region ?_
  refine o_boxA rfl rfl rfl rfl rfl (fun b2 => ?_)
  refine o_q _ rfl rfl rfl (v_assign rfl rfl) ?_
  refine o_nil ?_
  with_reducible refine r_then ?_
  refine r_seq ?_
  refine r_seq ?_
  refine r_region ?_
  refine o_q _ rfl rfl rfl (v_ldW rfl Try.underlying28 rfl inf28 rfl rfl) ?_
  refine o_q _ rfl rfl rfl (v_cast (v := .bool false) (OpQ.fn (heavy_v B bo ro so bc rc sc 500) rfl rfl SubRC.sub) (congrArg Value.bool hv)) ?_
  refine o_nil ?_
  with_reducible refine r_then ?_
  refine r_cond rfl (fun hc22 => ?_) (fun hc22 => ?_)
  ·
    (exfalso; revert hc22; decide)
  ·
    refine r_skip ?_
    with_reducible refine r_then ?_
    refine r_seq ?_
    refine r_region ?_
    refine o_q _ rfl rfl rfl (v_ldW rfl Try.underlying28 rfl inf28 rfl rfl) ?_
    refine o_q _ rfl rfl rfl (v_move rfl rfl) ?_
    refine o_q _ rfl rfl rfl (OpQ.fn (safe_v B bo ro so bc rc sc d hl1 hl2 hl3) rfl rfl SubRC.sub) ?_
    refine o_q _ rfl rfl rfl (v_move rfl rfl) ?_
    refine o_q _ rfl rfl rfl (v_extract rfl rfl rfl) ?_
    refine o_q _ rfl rfl rfl (v_extract rfl rfl rfl) ?_
    refine o_q _ rfl rfl rfl (v_assign rfl rfl) ?_
    refine o_q _ rfl rfl rfl (v_assign rfl rfl) ?_
    refine o_nil ?_
    with_reducible refine r_then ?_
    refine r_seq ?_
    refine r_region ?_
    refine o_q _ rfl rfl rfl (v_ldW rfl Try.underlying28 rfl inf28 rfl rfl) ?_
    refine o_q _ rfl rfl rfl (v_move rfl rfl) ?_
    refine o_q _ rfl rfl rfl (OpQ.fn (RSafe_v B bo ro so bc rc sc d hl1 hl2 hl3 hw) rfl rfl SubRC.sub) ?_
    refine o_q _ rfl rfl rfl (v_move rfl rfl) ?_
    refine o_q _ rfl rfl rfl (v_extract rfl rfl rfl) ?_
    refine o_q _ rfl rfl rfl (v_extract rfl rfl rfl) ?_
    refine o_q _ rfl rfl rfl (v_assign rfl rfl) ?_
    refine o_q _ rfl rfl rfl (v_assign rfl rfl) ?_
    refine o_nil ?_
    with_reducible refine r_then ?_
    refine r_seq ?_
    refine r_region ?_
    refine o_q _ rfl rfl rfl (v_ldW rfl Try.underlying28 rfl inf28 rfl rfl) ?_
    refine o_q _ rfl rfl rfl (OpQ.fn (until_v B bo ro so bc rc sc hl1 hl2 hl3) rfl rfl SubRC.sub) ?_
    refine o_q _ rfl rfl rfl (v_move rfl rfl) ?_
    refine o_q _ rfl rfl rfl (v_extract rfl rfl rfl) ?_
    refine o_q _ rfl rfl rfl (v_extract rfl rfl rfl) ?_
    refine o_q _ rfl rfl rfl (v_assign rfl rfl) ?_
    refine o_q _ rfl rfl rfl (v_assign rfl rfl) ?_
    refine o_nil ?_
    with_reducible refine r_then ?_
    refine r_seq ?_
    refine r_region ?_
    refine o_q _ rfl rfl rfl (v_ldW rfl Try.underlying28 rfl inf28 rfl rfl) ?_
    refine o_q _ rfl rfl rfl (OpQ.fn (RUntil_v B bo ro so bc rc sc hl1 hl2 hl3 hw) rfl rfl SubRC.sub) ?_
    refine o_q _ rfl rfl rfl (v_move rfl rfl) ?_
    refine o_q _ rfl rfl rfl (v_extract rfl rfl rfl) ?_
    refine o_q _ rfl rfl rfl (v_extract rfl rfl rfl) ?_
    refine o_q _ rfl rfl rfl (v_assign rfl rfl) ?_
    refine o_q _ rfl rfl rfl (v_assign rfl rfl) ?_
    refine o_nil ?_
    with_reducible refine r_then ?_
    refine r_seq ?_
    refine r_region ?_
    refine o_q _ rfl rfl rfl (v_ldW rfl Try.underlying28 rfl inf28 rfl rfl) ?_
    refine o_q _ rfl rfl rfl (v_move rfl rfl) ?_
    refine o_q _ rfl rfl rfl (OpQ.fn (First_v B bo ro so bc rc sc d hl1 hl2 hl3) rfl rfl SubRC.sub) ?_
    refine o_q _ rfl rfl rfl (v_move rfl rfl) ?_
    refine o_q _ rfl rfl rfl (v_extract rfl rfl rfl) ?_
    refine o_q _ rfl rfl rfl (v_extract rfl rfl rfl) ?_
    refine o_q _ rfl rfl rfl (v_assign rfl rfl) ?_
    refine o_q _ rfl rfl rfl (v_assign rfl rfl) ?_
    refine o_nil ?_
    with_reducible refine r_then ?_
    refine r_seq ?_
    refine r_region ?_
    refine o_q _ rfl rfl rfl (v_ldW rfl Try.underlying28 rfl inf28 rfl rfl) ?_
    refine o_q _ rfl rfl rfl (v_move rfl rfl) ?_
    refine o_q _ rfl rfl rfl (OpQ.fn (RFirst_v B bo ro so bc rc sc d hl1 hl2 hl3 hw) rfl rfl SubRC.sub) ?_
    refine o_q _ rfl rfl rfl (v_move rfl rfl) ?_
    refine o_q _ rfl rfl rfl (v_extract rfl rfl rfl) ?_
    refine o_q _ rfl rfl rfl (v_extract rfl rfl rfl) ?_
    refine o_q _ rfl rfl rfl (v_assign rfl rfl) ?_
    refine o_q _ rfl rfl rfl (v_assign rfl rfl) ?_
    refine o_nil ?_
    with_reducible refine r_then ?_
    refine r_seq ?_
    refine r_region ?_
    refine o_q _ rfl rfl rfl (v_ldW rfl Try.underlying28 rfl inf28 rfl rfl) ?_
    refine o_q _ rfl rfl rfl (OpQ.fn (clash_v B bo ro so bc rc sc hl1 hl2 hl3) rfl rfl SubRC.sub) ?_
    refine o_q _ rfl rfl rfl (v_move rfl rfl) ?_
    refine o_q _ rfl rfl rfl (v_extract rfl rfl rfl) ?_
    refine o_q _ rfl rfl rfl (v_extract rfl rfl rfl) ?_
    refine o_q _ rfl rfl rfl (v_assign rfl rfl) ?_
    refine o_q _ rfl rfl rfl (v_assign rfl rfl) ?_
    refine o_nil ?_
    with_reducible refine r_then ?_
    refine r_seq ?_
    refine r_region ?_
    refine o_q _ rfl rfl rfl (v_ldW rfl Try.underlying28 rfl inf28 rfl rfl) ?_
    refine o_q _ rfl rfl rfl (OpQ.fn (RClash_v B bo ro so bc rc sc hl1 hl2 hl3 hw) rfl rfl SubRC.sub) ?_
    refine o_q _ rfl rfl rfl (v_move rfl rfl) ?_
    refine o_q _ rfl rfl rfl (v_extract rfl rfl rfl) ?_
    refine o_q _ rfl rfl rfl (v_extract rfl rfl rfl) ?_
    refine o_q _ rfl rfl rfl (v_assign rfl rfl) ?_
    refine o_q _ rfl rfl rfl (v_assign rfl rfl) ?_
    refine o_nil ?_
    with_reducible refine r_then ?_
    refine r_seq ?_
    refine r_region ?_
    refine o_q _ rfl rfl rfl (v_move rfl rfl) ?_
    refine o_q _ rfl rfl rfl (v_move rfl rfl) ?_
    refine o_q _ rfl rfl rfl (v_cast (v := .bool true) (v_eql rfl rfl rfl) (congrArg Value.bool (decide_eq_true rfl))) ?_
    refine o_q _ rfl rfl rfl (v_move rfl rfl) ?_
    refine o_g _ rfl rfl rfl rfl (v_move rfl rfl) ?_
    refine o_g _ rfl rfl rfl rfl (v_move rfl rfl) ?_
    refine o_g _ rfl rfl rfl rfl (v_cast (v := .bool true) (v_eql rfl rfl rfl) (congrArg Value.bool (decide_eq_true rfl))) ?_
    refine o_q _ rfl rfl rfl (v_pick_t rfl rfl rfl) ?_
    refine o_q _ rfl rfl rfl (v_move rfl rfl) ?_
    refine o_g _ rfl rfl rfl rfl (v_move rfl rfl) ?_
    refine o_g _ rfl rfl rfl rfl (v_move rfl rfl) ?_
    refine o_g _ rfl rfl rfl rfl (v_cast (v := .bool true) (v_eql rfl rfl rfl) (congrArg Value.bool (decide_eq_true rfl))) ?_
    refine o_q _ rfl rfl rfl (v_pick_t rfl rfl rfl) ?_
    refine o_q _ rfl rfl rfl (v_move rfl rfl) ?_
    refine o_g _ rfl rfl rfl rfl (v_move rfl rfl) ?_
    refine o_g _ rfl rfl rfl rfl (v_move rfl rfl) ?_
    refine o_g _ rfl rfl rfl rfl (v_cast (v := .bool true) (v_eql rfl rfl rfl) (congrArg Value.bool (decide_eq_true rfl))) ?_
    refine o_q _ rfl rfl rfl (v_pick_t rfl rfl rfl) ?_
    refine o_q _ rfl rfl rfl (v_move rfl rfl) ?_
    refine o_g _ rfl rfl rfl rfl (v_move rfl rfl) ?_
    refine o_g _ rfl rfl rfl rfl (v_move rfl rfl) ?_
    refine o_g _ rfl rfl rfl rfl (v_cast (v := .bool true) (v_eql rfl rfl rfl) (congrArg Value.bool (decide_eq_true rfl))) ?_
    refine o_q _ rfl rfl rfl (v_pick_t rfl rfl rfl) ?_
    refine o_q _ rfl rfl rfl (v_move rfl rfl) ?_
    refine o_g _ rfl rfl rfl rfl (v_move rfl rfl) ?_
    refine o_g _ rfl rfl rfl rfl (v_move rfl rfl) ?_
    refine o_g _ rfl rfl rfl rfl (v_cast (v := .bool true) (v_eql rfl rfl rfl) (congrArg Value.bool (decide_eq_true rfl))) ?_
    refine o_q _ rfl rfl rfl (v_pick_t rfl rfl rfl) ?_
    refine o_q _ rfl rfl rfl (v_move rfl rfl) ?_
    refine o_g _ rfl rfl rfl rfl (v_move rfl rfl) ?_
    refine o_g _ rfl rfl rfl rfl (v_move rfl rfl) ?_
    refine o_g _ rfl rfl rfl rfl (v_cast (v := .bool true) (v_eql rfl rfl rfl) (congrArg Value.bool (decide_eq_true rfl))) ?_
    refine o_q _ rfl rfl rfl (v_pick_t rfl rfl rfl) ?_
    refine o_q _ rfl rfl rfl (v_move rfl rfl) ?_
    refine o_g _ rfl rfl rfl rfl (v_move rfl rfl) ?_
    refine o_g _ rfl rfl rfl rfl (v_move rfl rfl) ?_
    refine o_g _ rfl rfl rfl rfl (v_cast (v := .bool true) (v_eql rfl rfl rfl) (congrArg Value.bool (decide_eq_true rfl))) ?_
    refine o_q _ rfl rfl rfl (v_pick_t rfl rfl rfl) ?_
    refine o_q _ rfl rfl rfl (v_move rfl rfl) ?_
    refine o_g _ rfl rfl rfl rfl (OpQ.fn awake_v rfl rfl SubRC.sub) ?_
    refine o_q _ rfl rfl rfl (v_pick_t rfl rfl rfl) ?_
    refine o_q _ rfl rfl rfl (v_assign rfl rfl) ?_
    refine o_nil ?_
    with_reducible refine r_then ?_
    refine r_ret ?_
    exact r_retv2 (Rd.tmp rfl rfl) rfl SelMC.sel SubRC.sub
theorem looks_v (d : Int) : FnV Try.prog 4 [valB B bo ro so bc rc sc, i64 d] [rowD bo 4 encB B.banks, rowD ro 2 encS B.rain, rowD so 3 encG B.signs] (.bool true) := by
  cases hv : heavyB B 500
  · exact looks_2 B bo ro so bc rc sc d hv
  · exact looks_1 B bo ro so bc rc sc d hv
end Go.Proofs.Ytoggggnlponfhaa

