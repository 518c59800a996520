/- Part 5 of 5 of what the proofs of this seat stand on: a small logic for walks, what the functions come to, and the walks themselves. No condition of its own. -/
import Derived.Test.YtoggggnlponfhaaW4
set_option linter.unusedVariables false
set_option linter.unusedSimpArgs false
namespace Go.Proofs.Ytoggggnlponfhaa
open Go.G Burst8
attribute [local irreducible] fw fwR fwC emptyT tabOf knownT canB boundsL
def addB (B : Bog) (s : Sign) : Bog := { B with signs := B.signs ++ [s] }
/-- A span that is narrower at one end. -/
def nrS (e : Bool) (s : Burst8.Span) : Burst8.Span := if e then ⟨min s.hi (s.lo + 1), s.hi⟩ else ⟨s.lo, max s.lo (s.hi - 1)⟩
def nrK (e : Bool) (x : Bank) : Bank := ⟨x.blo, x.bhi, (nrS e ⟨x.clo, x.chi⟩).lo, (nrS e ⟨x.clo, x.chi⟩).hi⟩
def yB (B : Bog) (e : Bool) (b : Nat) : Bog := { B with banks := B.banks.set b (nrK e (B.banks.getD b default)) }
def zB (B : Bog) (e : Bool) (i : Nat) : Bog := { B with rain := B.rain.set i (nrS e (B.rain.getD i default)) }
theorem nrS_in {e : Bool} {s : Burst8.Span} (h : s.lo ≤ s.hi) : s.lo ≤ (nrS e s).lo ∧ (nrS e s).hi ≤ s.hi := by
  unfold nrS
  cases e
  · simp only [Bool.false_eq_true, if_false]; omega
  · simp only [if_true]; omega
/-- Of one bog all truths are truths of the other one. -/
structure Less (B Y : Bog) : Prop where
  nb : Y.banks.length = B.banks.length
  nr : Y.rain.length = B.rain.length
  way : ∀ k w, TrW Y (allS Y) k w → TrW B (allS B) k w
theorem less_add (B : Bog) (s : Sign) : Less B (addB B s) := by
  refine ⟨rfl, rfl, fun k w h => ⟨h.w0, h.b, h.r, fun j hj _ => ?_⟩⟩
  have hl : (addB B s).signs.length = B.signs.length + 1 := by show (B.signs ++ [s]).length = _; simp
  have := h.s j (by omega) (by rw [allS_bit]; exact decide_eq_true (by omega))
  have e : (addB B s).signs.getD j default = B.signs.getD j default := by
    show (B.signs ++ [s]).getD j default = _
    rw [List.getD_eq_getElem?_getD, List.getD_eq_getElem?_getD, List.getElem?_append_left hj]
  rw [e] at this; exact this
theorem less_y {B : Bog} (hg : GoodB B) (e : Bool) {b : Nat} (hb : b < B.banks.length) : Less B (yB B e b) := by
  have hl : (yB B e b).banks.length = B.banks.length := List.length_set
  refine ⟨hl, rfl, fun k w h => ⟨h.w0, fun i hi => ?_, h.r, h.s⟩⟩
  have h1 := h.b i (by omega)
  have e1 : (yB B e b).banks.getD i default = if i = b then nrK e (B.banks.getD b default) else B.banks.getD i default := getD_set hb
  rw [e1] at h1
  split at h1
  · rename_i e2; subst e2
    have h2 := nrS_in (e := e) (s := ⟨(B.banks.getD i default).clo, (B.banks.getD i default).chi⟩) (hg.banks i hi).2.2.1
    unfold nrK at h1
    dsimp only at h1 h2
    omega
  · exact h1
theorem less_z {B : Bog} (hg : GoodB B) (e : Bool) {r : Nat} (hr : r < B.rain.length) : Less B (zB B e r) := by
  have hl : (zB B e r).rain.length = B.rain.length := List.length_set
  refine ⟨rfl, hl, fun k w h => ⟨h.w0, h.b, fun d hd => ?_, h.s⟩⟩
  have h1 := h.r d (by omega)
  have e1 : (zB B e r).rain.getD d default = if d = r then nrS e (B.rain.getD r default) else B.rain.getD d default := getD_set hr
  have e0 : (zB B e r).drain = B.drain := rfl
  rw [e1, e0] at h1
  split at h1
  · rename_i e2; subst e2
    have h2 := nrS_in (e := e) (s := B.rain.getD d default) (hg.rain d hd).2.1
    omega
  · exact h1
section
variable {B Y : Bog} (hg : GoodB B) (hy : GoodB Y) (hl : Less B Y) (hc : canB Y (allS Y) 0 false = true)
include hg hy hl hc
theorem less_can : canB B (allS B) 0 false = true := by
  obtain ⟨k, w, h⟩ := (can_way hy).1 hc
  exact (can_way hg).2 ⟨k, w, hl.way k w h⟩
theorem less_water {d : Nat} (hd : d ≤ B.rain.length) : (spanT (tB B) (5 + d) 0).lo ≤ (spanT (tB Y) (5 + d) 0).lo ∧ (spanT (tB Y) (5 + d) 0).hi ≤ (spanT (tB B) (5 + d) 0).hi := water_sub hg hy hc hl.nr hl.way hd
theorem less_margin {i d : Nat} (hi : i < B.banks.length) (hd : d ≤ B.rain.length) : (marginT (tB B) i d).lo ≤ (marginT (tB Y) i d).lo ∧ (marginT (tB Y) i d).hi ≤ (marginT (tB B) i d).hi := margin_sub hg hy hc hl.nr hl.nb hl.way hi hd
theorem less_until {d : Nat} (hd : d ≤ B.rain.length) (h : (d : Int) ≤ lastB B) : (d : Int) ≤ lastB Y := by
  have h1 := (last_iff hg hd).1 h
  refine (last_iff hy (by rw [hl.nr]; exact hd)).2 fun j hj => some_zero.2 fun k hk => ?_
  have h2 := some_zero.1 (h1 j hj) k (by rw [← hl.nb]; exact hk)
  have h3 := (less_margin hg hy hl hc (i := k) (d := j) (by rw [← hl.nb]; exact hk) (by omega)).1
  omega
theorem less_spare {i : Nat} (hi : i < B.banks.length) : worstT (tB B) i B.rain.length ≤ worstT (tB Y) i Y.rain.length := by
  obtain ⟨j, hj, e⟩ := worst_at (tB Y) i Y.rain.length
  have h1 := worst_le (T := tB B) (k := i) (show j ≤ B.rain.length by rw [← hl.nr]; exact hj)
  have h2 := (less_margin hg hy hl hc (i := i) (d := j) hi (by rw [← hl.nr]; exact hj)).1
  omega
theorem less_sure {d : Nat} (hd : d ≤ B.rain.length) : mvTo (sureB B d) B.banks.length &&& mvTo (sureB Y d) Y.banks.length = mvTo (sureB B d) B.banks.length := by
  refine Nat.eq_of_testBit_eq fun i => ?_
  rw [Nat.testBit_and, mvTo_bit, mvTo_bit, hl.nb]
  by_cases hi : i < B.banks.length
  · have := (less_margin hg hy hl hc hi hd).2
    unfold sureB
    by_cases h : (marginT (tB B) i d).hi < 0
    · simp [hi, h, show (marginT (tB Y) i d).hi < 0 from by omega]
    · simp [h]
  · simp [hi]
theorem less_some {d : Nat} (hd : d ≤ B.rain.length) : mvTo (someB Y d) Y.banks.length &&& mvTo (someB B d) B.banks.length = mvTo (someB Y d) Y.banks.length := by
  refine Nat.eq_of_testBit_eq fun i => ?_
  rw [Nat.testBit_and, mvTo_bit, mvTo_bit, hl.nb]
  by_cases hi : i < B.banks.length
  · have := (less_margin hg hy hl hc hi hd).1
    unfold someB
    by_cases h : (marginT (tB Y) i d).lo < 0
    · simp [hi, h, show (marginT (tB B) i d).lo < 0 from by omega]
    · simp [h]
  · simp [hi]
end
theorem spare_cases2 {X : Bog} (hx : GoodB X) (hc : canB X (allS X) 0 false = true) {i : Nat} (hi : i < X.banks.length) : ((spareB X i).2 = 0 ∧ (spareB X i).1 = worstT (tB X) i X.rain.length ∧ 0 ≤ worstT (tB X) i X.rain.length) ∨ ((spareB X i).2 = 4 ∧ (spareB X i).1 = 0 ∧ ¬ 0 ≤ worstT (tB X) i X.rain.length) := by
  have hv : isK X i = true := decide_eq_true (by omega)
  unfold spareB
  by_cases h : 0 ≤ worstT (tB X) (i : Int).toNat X.rain.length
  · left
    rw [ansE_0 (chkB_0 hx hv hc) h]
    rw [Int.toNat_natCast] at h ⊢
    exact ⟨rfl, rfl, h⟩
  · right
    rw [ansE_4 (chkB_0 hx hv hc) h]
    rw [Int.toNat_natCast] at h
    exact ⟨rfl, rfl, h⟩
theorem until_cases2 {X : Bog} (hx : GoodB X) (hc : canB X (allS X) 0 false = true) : ((untilB X).2 = 0 ∧ (untilB X).1 = lastB X ∧ 0 ≤ lastB X) ∨ ((untilB X).2 = 4 ∧ (untilB X).1 = 0 ∧ ¬ 0 ≤ lastB X) := by
  unfold untilB
  by_cases h : 0 ≤ lastB X
  · left
    rw [ansE_0 (chkB_0 hx rfl hc) h]
    exact ⟨rfl, rfl, h⟩
  · right
    rw [ansE_4 (chkB_0 hx rfl hc) h]
    exact ⟨rfl, rfl, h⟩
theorem last_bd2 {B : Bog} (hg : GoodB B) : -1 ≤ lastB B ∧ lastB B < ((B.rain.length + 1 : Nat) : Int) := by
  have h := lastTo_spec (p := safeB B) (fun i j hij h => by
    unfold safeB at *
    exact decide_eq_true ((safe_some hg).2 fun k hk => (safe_some hg).1 (of_decide_eq_true h) k (by omega))) (B.rain.length + 1)
  exact ⟨h.1, h.2.1⟩
theorem signR2_2 {s : Sign} {k w : Nat → Int} (h : s.kind = 2) : SignR s k w ↔ 15 ≤ w s.day.toNat := by
  unfold SignR; rw [if_neg (by omega), if_neg (by omega)]
/-- What is returned of a bog of which more is known. -/
structure Known (B Y : Bog) (b d : Nat) : Prop where
  e1 : (marginB Y b d).2 = (waterB Y d).2
  e2 : (movesB Y d).2 = (waterB Y d).2
  e3 : (waterB Y d).2 = 0 ∨ (waterB Y d).2 = 10
  ok : (waterB Y d).2 = 0 → (waterB B d).2 = 0
  w : (waterB Y d).2 = 0 → (waterB B d).1.lo ≤ (waterB Y d).1.lo ∧ (waterB Y d).1.hi ≤ (waterB B d).1.hi
  m : (waterB Y d).2 = 0 → (marginB B b d).1.lo ≤ (marginB Y b d).1.lo ∧ (marginB Y b d).1.hi ≤ (marginB B b d).1.hi
  s : (waterB Y d).2 = 0 → (movesB B d).1.1 &&& (movesB Y d).1.1 = (movesB B d).1.1
  p : (waterB Y d).2 = 0 → (movesB Y d).1.2 &&& (movesB B d).1.2 = (movesB Y d).1.2
  u : (waterB Y d).2 = 0 → (untilB B).2 = 0 → (untilB Y).2 = 0 ∧ (untilB B).1 ≤ (untilB Y).1
  c : (waterB Y d).2 = 0 → (spareB B b).2 = 0 → (spareB Y b).2 = 0 ∧ (spareB B b).1 ≤ (spareB Y b).1
theorem isD_nat {B : Bog} {d : Nat} (hd : d ≤ B.rain.length) : isD B (d : Int) = true := decide_eq_true (by omega)
theorem water_yes {B : Bog} (hg : GoodB B) (hc : canB B (allS B) 0 false = true) {d : Nat} (hd : d ≤ B.rain.length) : waterB B d = (spanT (tB B) (5 + d) 0, 0) := by
  unfold waterB; rw [ansB_0 (chkB_0 hg (isD_nat hd) hc), Int.toNat_natCast]
theorem water_none {B : Bog} (hg : GoodB B) (hc : canB B (allS B) 0 false = false) {d : Nat} (hd : d ≤ B.rain.length) : waterB B d = (⟨0, 0⟩, 10) := by
  unfold waterB; rw [ansB_n (chkB_10 hg (isD_nat hd) hc) (by decide)]
theorem kd_nat {B : Bog} {i d : Nat} (hi : i < B.banks.length) (hd : d ≤ B.rain.length) : decide ((0 ≤ (i : Int) ∧ (i : Int) ≤ (B.banks.length : Int) - 1) ∧ (0 ≤ (d : Int) ∧ (d : Int) ≤ (B.rain.length : Int))) = true := decide_eq_true (by omega)
theorem margin_yes {B : Bog} (hg : GoodB B) (hc : canB B (allS B) 0 false = true) {i d : Nat} (hi : i < B.banks.length) (hd : d ≤ B.rain.length) : marginB B i d = (marginT (tB B) i d, 0) := by
  unfold marginB; rw [ansB_0 (chkB_0 hg (kd_nat hi hd) hc), Int.toNat_natCast, Int.toNat_natCast]
theorem margin_none {B : Bog} (hg : GoodB B) (hc : canB B (allS B) 0 false = false) {i d : Nat} (hi : i < B.banks.length) (hd : d ≤ B.rain.length) : marginB B i d = (⟨0, 0⟩, 10) := by
  unfold marginB; rw [ansB_n (chkB_10 hg (kd_nat hi hd) hc) (by decide)]
theorem moves_yes {B : Bog} (hg : GoodB B) (hc : canB B (allS B) 0 false = true) {d : Nat} (hd : d ≤ B.rain.length) : movesB B d = ((mvTo (sureB B d) B.banks.length, mvTo (someB B d) B.banks.length), 0) := by
  unfold movesB; rw [ansB_0 (chkB_0 hg (isD_nat hd) hc), Int.toNat_natCast]
theorem moves_none {B : Bog} (hg : GoodB B) (hc : canB B (allS B) 0 false = false) {d : Nat} (hd : d ≤ B.rain.length) : movesB B d = ((0, 0), 10) := by
  unfold movesB; rw [ansB_n (chkB_10 hg (isD_nat hd) hc) (by decide)]
theorem known_of {B Y : Bog} (hg : GoodB B) (hy : GoodB Y) (hl : Less B Y) {b d : Nat} (hb : b < B.banks.length) (hd : d ≤ B.rain.length) : Known B Y b d := by
  have hby : b < Y.banks.length := by rw [hl.nb]; exact hb
  have hdy : d ≤ Y.rain.length := by rw [hl.nr]; exact hd
  cases hc : canB Y (allS Y) 0 false
  · have e1 := water_none hy hc hdy
    have e2 := margin_none hy hc hby hdy
    have e3 := moves_none hy hc hdy
    have no : ¬ (waterB Y d).2 = 0 := by rw [e1]; decide
    exact ⟨by rw [e1, e2], by rw [e1, e3], .inr (by rw [e1]), fun h => absurd h no, fun h => absurd h no, fun h => absurd h no, fun h => absurd h no, fun h => absurd h no, fun h => absurd h no, fun h => absurd h no⟩
  · have hcb := less_can hg hy hl hc
    have e1 := water_yes hy hc hdy
    have e2 := margin_yes hy hc hby hdy
    have e3 := moves_yes hy hc hdy
    have f1 := water_yes hg hcb hd
    have f2 := margin_yes hg hcb hb hd
    have f3 := moves_yes hg hcb hd
    refine ⟨by rw [e1, e2], by rw [e1, e3], .inl (by rw [e1]), fun _ => by rw [f1], fun _ => ?_, fun _ => ?_, fun _ => ?_, fun _ => ?_, fun _ => ?_, fun _ => ?_⟩
    · rw [e1, f1]; exact less_water hg hy hl hc hd
    · rw [e2, f2]; exact less_margin hg hy hl hc hb hd
    · rw [e3, f3]; exact less_sure hg hy hl hc hd
    · rw [e3, f3]; exact less_some hg hy hl hc hd
    · intro hu
      have hub : 0 ≤ lastB B := by
        rcases until_cases2 hg hcb with h | h
        · exact h.2.2
        · rw [h.1] at hu; exact absurd hu (by decide)
      have hbd := last_bd2 hg
      have hlt : lastB B ≤ lastB Y := by
        have := less_until hg hy hl hc (d := (lastB B).toNat) (by omega) (by omega)
        omega
      rcases until_cases2 hy hc with h | h
      · rcases until_cases2 hg hcb with h' | h'
        · rw [h.1, h.2.1, h'.2.1]; exact ⟨rfl, hlt⟩
        · rw [h'.1] at hu; exact absurd hu (by decide)
      · exact absurd h.2.2 (by omega)
    · intro hs
      have hle := less_spare hg hy hl hc hb
      rcases spare_cases2 hg hcb hb with h' | h'
      · rcases spare_cases2 hy hc hby with h | h
        · rw [h.1, h.2.1, h'.2.1]; exact ⟨rfl, hle⟩
        · exact absurd h.2.2 (by omega)
      · rw [h'.1] at hs; exact absurd hs (by decide)
/-! ### the other order -/
def turnS (n : Nat) (s : Sign) : Sign := if s.kind ≠ 2 then ⟨s.kind, (n : Int) - 1 - s.bank, s.day⟩ else s
def turnB (B : Bog) : Bog := ⟨B.banks.reverse, B.wlo, B.whi, B.rain, B.drain, B.signs.reverse.map (turnS B.banks.length)⟩
def flip (n : Nat) (k : Nat → Int) : Nat → Int := fun i => k (n - 1 - i)
theorem turn_lens (B : Bog) : (turnB B).banks.length = B.banks.length ∧ (turnB B).rain.length = B.rain.length ∧ (turnB B).signs.length = B.signs.length := ⟨List.length_reverse, rfl, by show (B.signs.reverse.map _).length = _; simp⟩
theorem rev_getD {α : Type} {l : List α} {i : Nat} {d : α} (h : i < l.length) : l.reverse.getD i d = l.getD (l.length - 1 - i) d := by
  rw [List.getD_eq_getElem?_getD, List.getD_eq_getElem?_getD, List.getElem?_reverse h]
theorem turn_bank {B : Bog} {i : Nat} (h : i < B.banks.length) : (turnB B).banks.getD i default = B.banks.getD (B.banks.length - 1 - i) default := rev_getD h
theorem turn_sign {B : Bog} {j : Nat} (h : j < B.signs.length) : (turnB B).signs.getD j default = turnS B.banks.length (B.signs.getD (B.signs.length - 1 - j) default) := by
  show (B.signs.reverse.map (turnS B.banks.length)).getD j default = _
  rw [List.getD_eq_getElem?_getD, List.getElem?_map, List.getElem?_reverse h, List.getD_eq_getElem?_getD, List.getElem?_eq_getElem (show B.signs.length - 1 - j < B.signs.length by omega)]
  rfl
theorem turn_right {B : Bog} {s : Sign} (hs : SignOk B s) {k w : Nat → Int} : SignR (turnS B.banks.length s) k w ↔ SignR s (flip B.banks.length k) w := by
  obtain ⟨_, h⟩ := hs
  unfold turnS
  by_cases h2 : s.kind = 2
  · rw [if_neg (by omega), signR2_2 h2, signR2_2 h2]
  · rw [if_pos h2]
    unfold SignR flip
    dsimp only
    have e : ((B.banks.length : Int) - 1 - s.bank).toNat = B.banks.length - 1 - s.bank.toNat := by omega
    rw [e]
section
variable {B : Bog} (hg : GoodB B)
include hg
theorem turn_good : GoodB (turnB B) := by
  obtain ⟨l1, l2, l3⟩ := turn_lens B
  refine ⟨by rw [l1]; exact hg.nb, hg.w, hg.nr, hg.dr, by rw [l3]; exact hg.ns, fun k hk => ?_, hg.rain, fun k hk => ?_⟩
  · rw [turn_bank (by omega)]; exact hg.banks _ (by omega)
  · rw [turn_sign (by omega)]
    have h := hg.signs (B.signs.length - 1 - k) (by omega)
    generalize B.signs.getD (B.signs.length - 1 - k) default = s at *
    obtain ⟨h1, h2⟩ := h
    have l2' : ((turnB B).rain.length : Int) = B.rain.length := rfl
    unfold SignOk
    rw [l2', l1]
    unfold turnS
    split
    · dsimp only; omega
    · omega
theorem turn_way {k w : Nat → Int} : TrW (turnB B) (allS (turnB B)) k w ↔ TrW B (allS B) (flip B.banks.length k) w := by
  obtain ⟨l1, l2, l3⟩ := turn_lens B
  constructor
  · intro h
    refine ⟨h.w0, fun i hi => ?_, h.r, fun j hj _ => ?_⟩
    · have := h.b (B.banks.length - 1 - i) (by omega)
      rw [turn_bank (by omega), show B.banks.length - 1 - (B.banks.length - 1 - i) = i by omega] at this
      exact this
    · have := h.s (B.signs.length - 1 - j) (by omega) (by rw [allS_bit]; exact decide_eq_true (by omega))
      rw [turn_sign (by omega), show B.signs.length - 1 - (B.signs.length - 1 - j) = j by omega] at this
      exact (turn_right (hg.signs j hj)).1 this
  · intro h
    refine ⟨h.w0, fun i hi => ?_, h.r, fun j hj _ => ?_⟩
    · have := h.b (B.banks.length - 1 - i) (by omega)
      rw [turn_bank (by omega)]
      unfold flip at this
      rw [show B.banks.length - 1 - (B.banks.length - 1 - i) = i by omega] at this
      exact this
    · have := h.s (B.signs.length - 1 - j) (by omega) (by rw [allS_bit]; exact decide_eq_true (by omega))
      rw [turn_sign (by omega)]
      exact (turn_right (hg.signs _ (by omega))).2 this
theorem turn_way' {k w : Nat → Int} (h : TrW B (allS B) k w) : TrW (turnB B) (allS (turnB B)) (flip B.banks.length k) w := by
  refine (turn_way hg).2 ⟨h.w0, fun i hi => ?_, h.r, fun j hj hm => ?_⟩
  · have := h.b i hi
    unfold flip
    rw [show B.banks.length - 1 - (B.banks.length - 1 - i) = i by omega]; exact this
  · have h1 := h.s j hj hm
    obtain ⟨_, h2⟩ := hg.signs j hj
    generalize B.signs.getD j default = s at *
    unfold SignR flip at *
    by_cases hk : s.kind = 2
    · rw [if_neg (by omega), if_neg (by omega)] at h1 ⊢; exact h1
    · rw [show B.banks.length - 1 - (B.banks.length - 1 - s.bank.toNat) = s.bank.toNat by omega]; exact h1
theorem turn_can : canB (turnB B) (allS (turnB B)) 0 false = canB B (allS B) 0 false := by
  refine Bool.eq_iff_iff.2 ?_
  rw [can_way (turn_good hg), can_way hg]
  constructor
  · rintro ⟨k, w, h⟩; exact ⟨_, w, (turn_way hg).1 h⟩
  · rintro ⟨k, w, h⟩; exact ⟨_, w, turn_way' hg h⟩
theorem turn_water {d : Nat} (hd : d ≤ B.rain.length) : waterB (turnB B) d = waterB B d := by
  have hx := turn_good hg
  cases hc : canB B (allS B) 0 false
  · rw [water_none hg hc hd, water_none hx (by rw [turn_can hg]; exact hc) hd]
  · rw [water_yes hg hc hd, water_yes hx (by rw [turn_can hg]; exact hc) hd, water_eq hg hx hc (by rw [turn_can hg]; exact hc) rfl (fun k w h => ⟨_, (turn_way hg).1 h⟩) (fun k w h => ⟨_, turn_way' hg h⟩) hd]
theorem turn_marginT (hc : canB B (allS B) 0 false = true) {i d : Nat} (hi : i < B.banks.length) (hd : d ≤ B.rain.length) : marginT (tB (turnB B)) (B.banks.length - 1 - i) d = marginT (tB B) i d := by
  have hx := turn_good hg
  have h := margin_eq hg hx hc (by rw [turn_can hg]; exact hc) rfl (i := B.banks.length - 1 - i) (i' := i) (by rw [(turn_lens B).1]; omega) hi 0 (fun k w h => ⟨_, (turn_way hg).1 h, by unfold flip; omega⟩) (fun k w h => ⟨_, turn_way' hg h, by unfold flip; rw [show B.banks.length - 1 - (B.banks.length - 1 - i) = i by omega]; omega⟩) hd
  exact span_eqI (by have := h.1; show (marginT (tB (turnB B)) (B.banks.length - 1 - i) d).lo = (marginT (tB B) i d).lo; omega) (by have := h.2; show (marginT (tB (turnB B)) (B.banks.length - 1 - i) d).hi = (marginT (tB B) i d).hi; omega)
theorem turn_margin {i d : Nat} (hi : i < B.banks.length) (hd : d ≤ B.rain.length) : marginB (turnB B) ((B.banks.length - 1 - i : Nat) : Int) d = marginB B i d := by
  have hx := turn_good hg
  have hi' : B.banks.length - 1 - i < (turnB B).banks.length := by rw [(turn_lens B).1]; omega
  cases hc : canB B (allS B) 0 false
  · rw [margin_none hg hc hi hd, margin_none hx (by rw [turn_can hg]; exact hc) hi' hd]
  · rw [margin_yes hg hc hi hd, margin_yes hx (by rw [turn_can hg]; exact hc) hi' hd, turn_marginT hg hc hi hd]
theorem turn_until : untilB (turnB B) = untilB B := by
  have hx := turn_good hg
  cases hc : canB B (allS B) 0 false
  · unfold untilB
    rw [ansE_n (chkB_10 hg rfl hc) (by decide), ansE_n (chkB_10 hx rfl (by rw [turn_can hg]; exact hc)) (by decide)]
  · have hcx : canB (turnB B) (allS (turnB B)) 0 false = true := by rw [turn_can hg]; exact hc
    have hl : lastB (turnB B) = lastB B := by
      have b1 := last_bd2 hg; have b2 := last_bd2 hx
      have b2' : lastB (turnB B) < ((B.rain.length + 1 : Nat) : Int) := b2.2
      have key : ∀ d, d ≤ B.rain.length → ((d : Int) ≤ lastB (turnB B) ↔ (d : Int) ≤ lastB B) := fun d hd => by
        rw [last_iff hx (show d ≤ (turnB B).rain.length from hd), last_iff hg hd]
        constructor
        · intro h j hj
          refine some_zero.2 fun k hk => ?_
          have := some_zero.1 (h j hj) (B.banks.length - 1 - k) (by rw [(turn_lens B).1]; omega)
          rw [turn_marginT hg hc hk (by omega)] at this; exact this
        · intro h j hj
          refine some_zero.2 fun k hk => ?_
          rw [(turn_lens B).1] at hk
          have := some_zero.1 (h j hj) (B.banks.length - 1 - k) (by omega)
          rw [← turn_marginT hg hc (show B.banks.length - 1 - k < B.banks.length by omega) (show j ≤ B.rain.length by omega), show B.banks.length - 1 - (B.banks.length - 1 - k) = k by omega] at this
          exact this
      have k1 := key (lastB B).toNat
      have k2 := key (lastB (turnB B)).toNat
      omega
    unfold untilB
    by_cases h : 0 ≤ lastB B
    · rw [ansE_0 (chkB_0 hg rfl hc) h, ansE_0 (chkB_0 hx rfl hcx) (by rw [hl]; exact h), hl]
    · rw [ansE_4 (chkB_0 hg rfl hc) h, ansE_4 (chkB_0 hx rfl hcx) (by rw [hl]; exact h)]
theorem turn_spare {i : Nat} (hi : i < B.banks.length) : spareB (turnB B) ((B.banks.length - 1 - i : Nat) : Int) = spareB B i := by
  have hx := turn_good hg
  have hk : isK B (i : Int) = true := decide_eq_true (by omega)
  have hkx : isK (turnB B) ((B.banks.length - 1 - i : Nat) : Int) = true := decide_eq_true (by rw [(turn_lens B).1]; omega)
  cases hc : canB B (allS B) 0 false
  · unfold spareB
    rw [ansE_n (chkB_10 hg hk hc) (by decide), ansE_n (chkB_10 hx hkx (by rw [turn_can hg]; exact hc)) (by decide)]
  · have hcx : canB (turnB B) (allS (turnB B)) 0 false = true := by rw [turn_can hg]; exact hc
    have hw : worstT (tB (turnB B)) (B.banks.length - 1 - i) B.rain.length = worstT (tB B) i B.rain.length := by
      obtain ⟨j, hj, e⟩ := worst_at (tB B) i B.rain.length
      obtain ⟨j2, hj2, e2⟩ := worst_at (tB (turnB B)) (B.banks.length - 1 - i) B.rain.length
      have h1 := worst_le (T := tB (turnB B)) (k := B.banks.length - 1 - i) hj
      have h2 := worst_le (T := tB B) (k := i) hj2
      rw [turn_marginT hg hc hi hj] at h1
      rw [turn_marginT hg hc hi hj2] at e2
      omega
    unfold spareB
    rw [Int.toNat_natCast, Int.toNat_natCast]
    have hr : (turnB B).rain.length = B.rain.length := rfl
    rw [hr]
    by_cases h : 0 ≤ worstT (tB B) i B.rain.length
    · rw [ansE_0 (chkB_0 hg hk hc) h, ansE_0 (chkB_0 hx hkx hcx) (by rw [hw]; exact h), hw]
    · rw [ansE_4 (chkB_0 hg hk hc) h, ansE_4 (chkB_0 hx hkx hcx) (by rw [hw]; exact h)]
end
end Go.Proofs.Ytoggggnlponfhaa


namespace Go.Proofs.Ytoggggnlponfhaa
open Go.G Burst8
set_option maxRecDepth 1000000
attribute [local irreducible] G.ParO G.Fin
attribute [local irreducible] fw fwR fwC emptyT tabOf knownT canB boundsL
theorem eq58 (a b c d a' b' c' d' : Int) (w : World) : (Op.equal 58 (.agg #[i64 a, i64 b, i64 c, i64 d]) (.agg #[i64 a', i64 b', i64 c', i64 d'])).run Try.prog w = .ok (decide ((⟨a, b, c, d⟩ : Bank) = ⟨a', b', c', d'⟩)) w := by
  refine eq_to (p := (a = a' ∧ b = b' ∧ True) ∧ (c = c' ∧ d = d' ∧ True) ∧ True) (fun w => ?_) (by simp [and_assoc]) w
  refine eq_struct Try.underlying58 (by kernel_rfl) ?_
  exact fields_cons rfl (run_partA Try.underlying24 rfl inf24) (run_partA Try.underlying24 rfl inf24) (eqIn24 9997 a b a' b' w) (fields_cons rfl (run_partA Try.underlying24 rfl inf24) (run_partA Try.underlying24 rfl inf24) (eqIn24 9997 c d c' d' w) fields_nil)
theorem eq55 (a b c a' b' c' : Int) (w : World) : (Op.equal 55 (.agg #[i64 a, i64 b, i64 c]) (.agg #[i64 a', i64 b', i64 c'])).run Try.prog w = .ok (decide ((⟨a, b, c⟩ : Sign) = ⟨a', b', c'⟩)) w := by
  refine eq_to (p := a = a' ∧ b = b' ∧ c = c' ∧ True) (fun w => ?_) (by simp) w
  refine eq_struct Try.underlying55 (by kernel_rfl) ?_
  exact fields_cons rfl (pc3 rfl) (pc3 rfl) (eq_int Try.underlying3) (fields_cons rfl (pc3 rfl) (pc3 rfl) (eq_int Try.underlying3) (fields_cons rfl (pc3 rfl) (pc3 rfl) (eq_int Try.underlying3) fields_nil))
/-- A bog, and where its lists lie. -/
structure BV where
  B : Bog
  bo : Option Addr
  ro : Option Addr
  so : Option Addr
  bc : Nat
  rc : Nat
  sc : Nat
  deriving Inhabited
def encV (x : BV) : List Value := cellsB x.B x.bo x.ro x.so x.bc x.rc x.sc
theorem encV_len (x : BV) : (encV x).length = 6 := rfl
theorem three {p : BV → Prop} {x y z : BV} {j : Nat} (hj : j < 3) (h0 : p x) (h1 : p y) (h2 : p z) : p ([x, y, z].getD j default) := by
  obtain rfl | rfl | rfl : j = 0 ∨ j = 1 ∨ j = 2 := by omega
  · exact h0
  · exact h1
  · exact h2
/-- One end of a span in cells is drawn in. -/
def nrV (e : Bool) (vs : List Value) (off : Nat) (lo hi : Int) : List Value := if e then vs.set off (i64 (nrS true ⟨lo, hi⟩).lo) else vs.set (off + 1) (i64 (nrS false ⟨lo, hi⟩).hi)
theorem rem8 {w : Nat} : Value.int .u8 ((w : Int).tmod 2) = .int .u8 ((w % 2 : Nat) : Int) := by
  rw [show (2 : Int) = ((2 : Nat) : Int) from rfl, tmod_nat]
def revB (B : Bog) (k : Nat) : List Bank := B.banks.reverse.take k
def revS (B : Bog) (k : Nat) : List Sign := (turnB B).signs.take k
theorem take_next {α : Type} {l : List α} {k : Nat} {d : α} (hk : k < l.length) : l.take k ++ [l.getD k d] = l.take (k + 1) := by
  rw [List.take_add_one, List.getD_eq_getElem?_getD, List.getElem?_eq_getElem hk]; rfl
theorem revB_s {B : Bog} {k : Nat} (hk : k < B.banks.length) : revB B k ++ [B.banks.getD (B.banks.length - 1 - k) default] = revB B (k + 1) := by
  unfold revB
  rw [← take_next (d := default) (by rw [List.length_reverse]; exact hk), rev_getD hk]
theorem revS_s {B : Bog} {k : Nat} (hk : k < B.signs.length) : revS B k ++ [turnS B.banks.length (B.signs.getD (B.signs.length - 1 - k) default)] = revS B (k + 1) := by
  unfold revS
  rw [← take_next (d := default) (by rw [(turn_lens B).2.2]; exact hk), turn_sign hk]
theorem revB_all {B : Bog} : revB B B.banks.length = (turnB B).banks := List.take_of_length_le (by rw [List.length_reverse]; exact Nat.le_refl _)
theorem revS_all {B : Bog} : revS B B.signs.length = (turnB B).signs := List.take_of_length_le (by rw [(turn_lens B).2.2]; exact Nat.le_refl _)
theorem revB_len {B : Bog} {k : Nat} (hk : k ≤ B.banks.length) : (revB B k).length = k := by unfold revB; rw [List.length_take, List.length_reverse]; omega
theorem revS_len {B : Bog} {k : Nat} (hk : k ≤ B.signs.length) : (revS B k).length = k := by unfold revS; rw [List.length_take, (turn_lens B).2.2]; omega
theorem turn_cells (B : Bog) (bo ro so : Option Addr) (bc rc sc : Nat) : [.slice bo (revB B B.banks.length).length bc, i64 B.wlo, i64 B.whi, .slice ro B.rain.length rc, i64 B.drain, .slice so (revS B B.signs.length).length sc] = cellsB (turnB B) bo ro so bc rc sc := by
  rw [revB_all, revS_all]; rfl
theorem add_cells (B : Bog) (s : Sign) (bo ro so : Option Addr) (bc rc sc : Nat) : [.slice bo B.banks.length bc, i64 B.wlo, i64 B.whi, .slice ro B.rain.length rc, i64 B.drain, .slice so (B.signs ++ [s]).length sc] = cellsB (addB B s) bo ro so bc rc sc := rfl
theorem add_signs (B : Bog) (s : Sign) : (addB B s).signs = B.signs ++ [s] := rfl
theorem add_banks (B : Bog) (s : Sign) : (addB B s).banks = B.banks := rfl
theorem add_rain (B : Bog) (s : Sign) : (addB B s).rain = B.rain := rfl
theorem y_rain (B : Bog) (e : Bool) (b : Nat) : (yB B e b).rain = B.rain := rfl
theorem y_signs (B : Bog) (e : Bool) (b : Nat) : (yB B e b).signs = B.signs := rfl
theorem z_banks (B : Bog) (e : Bool) (b : Nat) : (zB B e b).banks = B.banks := rfl
theorem z_signs (B : Bog) (e : Bool) (b : Nat) : (zB B e b).signs = B.signs := rfl
theorem turn_rain (B : Bog) : (turnB B).rain = B.rain := rfl
theorem turnS_y {n : Nat} {s : Sign} (h : s.kind ≠ 2) : [i64 s.kind, i64 ((n : Int) - 1 - s.bank), i64 s.day] = encG (turnS n s) := by unfold turnS; rw [if_pos h]; rfl
theorem turnS_n {n : Nat} {s : Sign} (h : ¬ s.kind ≠ 2) : [i64 s.kind, i64 s.bank, i64 s.day] = encG (turnS n s) := by unfold turnS; rw [if_neg h]; rfl
theorem less_refl (B : Bog) : Less B B := ⟨rfl, rfl, fun _ _ h => h⟩
theorem yB_banks (B : Bog) (e : Bool) (b : Nat) (sp : List Value) (hb : b < B.banks.length) : nrV e (B.banks.flatMap encB ++ sp) (b * 4 + 2) (B.banks.getD b default).clo (B.banks.getD b default).chi = (yB B e b).banks.flatMap encB ++ sp := by
  unfold nrV
  cases e
  · exact flat_set encB_len _ _ 3 hb (by decide) rfl
  · exact flat_set encB_len _ _ 2 hb (by decide) rfl
theorem zB_rain (B : Bog) (e : Bool) (r : Nat) (sp : List Value) (hr : r < B.rain.length) : nrV e (B.rain.flatMap encS ++ sp) (r * 2) (B.rain.getD r default).lo (B.rain.getD r default).hi = (zB B e r).rain.flatMap encS ++ sp := by
  unfold nrV
  cases e
  · exact flat_set encS_len _ _ 1 hr (by decide) rfl
  · exact flat_set encS_len _ _ 0 hr (by decide) rfl
theorem y_cells (B : Bog) (e : Bool) (b : Nat) (bo ro so : Option Addr) (bc rc sc : Nat) : [.slice bo B.banks.length bc, i64 B.wlo, i64 B.whi, .slice ro B.rain.length rc, i64 B.drain, .slice so B.signs.length sc] = cellsB (yB B e b) bo ro so bc rc sc := by
  show _ = [Value.slice bo (B.banks.set b _).length bc, _, _, _, _, _]
  rw [List.length_set]; rfl
theorem z_cells (B : Bog) (e : Bool) (b : Nat) (bo ro so : Option Addr) (bc rc sc : Nat) : [.slice bo B.banks.length bc, i64 B.wlo, i64 B.whi, .slice ro B.rain.length rc, i64 B.drain, .slice so B.signs.length sc] = cellsB (zB B e b) bo ro so bc rc sc := by
  show _ = [_, _, _, Value.slice ro (B.rain.set b _).length rc, _, _]
  rw [List.length_set]; rfl
variable (B : Bog) (bo ro so : Option Addr) (bc rc sc : Nat) (bb mb : Nat)
set_option maxHeartbeats 4000000 in
theorem in_v (a b : Burst8.Span) : FnV Try.prog 42 [.agg #[i64 a.lo, i64 a.hi], .agg #[i64 b.lo, i64 b.hi]] [] (.bool (decide (b.lo ≤ a.lo ∧ a.hi ≤ b.hi))) := by
  refine FnV.intro Try.call42 Try.func42 rfl Try.ntmps42 rfl ?_
  intro W M Rf
  refine r_seq ?_
  refine r_region ?_
  refine o_boxA rfl rfl rfl rfl rfl (fun b2 => ?_)
  refine o_boxA rfl rfl rfl rfl rfl (fun b3 => ?_)
  refine o_q _ rfl rfl rfl (v_assign rfl rfl) ?_
  refine o_nil ?_
  with_reducible refine r_then ?_
  refine r_seq ?_
  refine r_region ?_
  refine o_q _ rfl rfl rfl (v_fieldAddr rfl Try.underlying24 inf3 rfl rfl rfl rfl) ?_
  refine o_q _ rfl rfl rfl (v_ld1 rfl Try.underlying3 rfl rfl rfl) ?_
  refine o_q _ rfl rfl rfl (v_fieldAddr rfl Try.underlying24 inf3 rfl rfl rfl rfl) ?_
  refine o_q _ rfl rfl rfl (v_ld1 rfl Try.underlying3 rfl rfl rfl) ?_
  refine o_test rfl rfl rfl (v_geq rfl rfl rfl) (fun h9 => ?_) (fun h9 => ?_)
  all_goals
    refine o_q _ rfl rfl rfl (v_move rfl rfl) ?_
    first | refine o_gn rfl rfl rfl rfl ?_ | refine o_g _ rfl rfl rfl rfl (v_fieldAddr rfl Try.underlying24 inf3 rfl rfl rfl rfl) ?_
    first | refine o_gn rfl rfl rfl rfl ?_ | refine o_g _ rfl rfl rfl rfl (v_ld1 rfl Try.underlying3 rfl rfl rfl) ?_
    first | refine o_gn rfl rfl rfl rfl ?_ | refine o_g _ rfl rfl rfl rfl (v_fieldAddr rfl Try.underlying24 inf3 rfl rfl rfl rfl) ?_
    first | refine o_gn rfl rfl rfl rfl ?_ | refine o_g _ rfl rfl rfl rfl (v_ld1 rfl Try.underlying3 rfl rfl rfl) ?_
    first | refine o_gn rfl rfl rfl rfl ?_ | refine o_gtest rfl rfl rfl rfl (v_leq rfl rfl rfl) (fun h15 => ?_) (fun h15 => ?_)
    all_goals
      first | refine o_q _ rfl rfl rfl (v_pick_t rfl rfl rfl) ?_ | refine o_q _ rfl rfl rfl (v_pick_f rfl rfl rfl) ?_
      refine o_q _ rfl rfl rfl (v_assign rfl rfl) ?_
      refine o_nil ?_
      with_reducible refine r_then ?_
      refine r_ret ?_
      first | exact r_retv2 (Rd.tmp rfl rfl) (congrArg Value.bool (decide_eq_true (by omega)).symm) SelMC.sel SubRC.sub | exact r_retv2 (Rd.tmp rfl rfl) (congrArg Value.bool (decide_eq_false (by omega)).symm) SelMC.sel SubRC.sub
set_option maxHeartbeats 4000000 in
theorem nar_t (w : Nat) (b8 : w ≤ 255) (hw : w % 2 = 0) (xb wb off : Nat) (T : TypeId) (vs : List Value) (lo hi : Int) (hl : off + 2 ≤ vs.length) (h0 : vs[off]? = some (i64 lo)) (h1 : vs[off + 1]? = some (i64 hi)) (hb : -100 ≤ lo ∧ lo ≤ 100 ∧ -100 ≤ hi ∧ hi ≤ 100) : FnC Try.prog 41 [pt xb off, pt wb 0] (bx xb T vs) [boxF wb 5 [.int .u8 w]] (.tuple #[]) (bx xb T (nrV true vs off lo hi)) := by
  refine FnC.intro Try.call41 Try.func41 rfl Try.ntmps41 rfl ?_
  intro W M Rf
  refine r_seq ?_
  refine r_region ?_
  refine o_q _ rfl rfl rfl (v_lf1 rfl Try.underlying5 rfl rfl rfl) ?_
  refine o_q _ rfl rfl rfl (v_cast (v := .int .u8 ((w % 2 : Nat) : Int)) (v_rem rfl rfl rfl (by omega)) rem8) ?_
  refine o_q _ rfl rfl rfl (v_cast (v := .bool true) (v_eql rfl rfl rfl) (congrArg Value.bool (decide_eq_true (by omega)))) ?_
  refine o_nil ?_
  with_reducible refine r_then ?_
  refine r_cond rfl (fun hc5 => ?_) (fun hc5 => ?_)
  ·
    refine r_par' 11 mixed (by kernel_rfl) (by rfl) ?_
    refine p_q _ rfl rfl rfl (fun _ _ => v_move rfl rfl) ?_
    refine p_q _ rfl rfl rfl (fun _ _ => v_move rfl rfl) ?_
    refine p_q _ rfl rfl rfl (fun _ _ => v_nilCheck rfl rfl) ?_
    refine p_q _ rfl rfl rfl (fun _ _ => v_fieldAddr rfl Try.underlying24 inf3 rfl rfl rfl rfl) ?_
    refine p_q _ rfl rfl rfl (fun _ _ => v_ld1 (v := i64 hi) rfl Try.underlying3 rfl rfl h1) ?_
    refine p_q _ rfl rfl rfl (fun _ _ => v_move rfl rfl) ?_
    refine p_q _ rfl rfl rfl (fun _ _ => v_nilCheck rfl rfl) ?_
    refine p_q _ rfl rfl rfl (fun _ _ => v_fieldAddr rfl Try.underlying24 inf3 rfl rfl rfl rfl) ?_
    refine p_q _ rfl rfl rfl (fun _ _ => v_ld1 (v := i64 lo) rfl Try.underlying3 rfl rfl h0) ?_
    refine p_q _ rfl rfl rfl (fun _ _ => v_add rfl rfl rfl (by omega)) ?_
    refine p_q _ rfl rfl rfl (fun _ _ => v_min2 rfl rfl rfl) ?_
    refine p_nil2 (by simp only [List.nil_append, List.cons_append]; rfl) rfl ?_
    refine f_q rfl ?_
    refine f_q rfl ?_
    refine f_q rfl ?_
    refine f_q rfl ?_
    refine f_q rfl ?_
    refine f_q rfl ?_
    refine f_q rfl ?_
    refine f_q rfl ?_
    refine f_q rfl ?_
    refine f_q rfl ?_
    refine f_q rfl ?_
    refine f_nil ?_
    refine o_q _ rfl rfl rfl (v_nilCheck rfl rfl) ?_
    refine o_q _ rfl rfl rfl (v_fieldAddr rfl Try.underlying24 inf3 rfl rfl rfl rfl) ?_
    refine o_st rfl inf3 rfl rfl rfl rfl rfl rfl rfl (Nat.ble_eq_true_of_le (by show off + 0 + 1 ≤ vs.length; omega)) ?_
    refine o_nil ?_
    refine Imp.box_to xb (nrV true vs off lo hi) rfl ?_
    exact r_ende [bx xb T (nrV true vs off lo hi)] [] (Rd.none rfl) ⟨rfl, rfl, rfl⟩ SelMC.sel SubRC.sub
  ·
    (exfalso; revert hc5; decide)
set_option maxHeartbeats 4000000 in
theorem nar_f (w : Nat) (b8 : w ≤ 255) (hw : ¬ w % 2 = 0) (xb wb off : Nat) (T : TypeId) (vs : List Value) (lo hi : Int) (hl : off + 2 ≤ vs.length) (h0 : vs[off]? = some (i64 lo)) (h1 : vs[off + 1]? = some (i64 hi)) (hb : -100 ≤ lo ∧ lo ≤ 100 ∧ -100 ≤ hi ∧ hi ≤ 100) : FnC Try.prog 41 [pt xb off, pt wb 0] (bx xb T vs) [boxF wb 5 [.int .u8 w]] (.tuple #[]) (bx xb T (nrV false vs off lo hi)) := by
  refine FnC.intro Try.call41 Try.func41 rfl Try.ntmps41 rfl ?_
  intro W M Rf
  refine r_seq ?_
  refine r_region ?_
  refine o_q _ rfl rfl rfl (v_lf1 rfl Try.underlying5 rfl rfl rfl) ?_
  refine o_q _ rfl rfl rfl (v_cast (v := .int .u8 ((w % 2 : Nat) : Int)) (v_rem rfl rfl rfl (by omega)) rem8) ?_
  refine o_q _ rfl rfl rfl (v_cast (v := .bool false) (v_eql rfl rfl rfl) (congrArg Value.bool (decide_eq_false (by omega)))) ?_
  refine o_nil ?_
  with_reducible refine r_then ?_
  refine r_cond rfl (fun hc5 => ?_) (fun hc5 => ?_)
  ·
    (exfalso; revert hc5; decide)
  ·
    refine r_par' 11 mixed (by kernel_rfl) (by rfl) ?_
    refine p_q _ rfl rfl rfl (fun _ _ => v_move rfl rfl) ?_
    refine p_q _ rfl rfl rfl (fun _ _ => v_move rfl rfl) ?_
    refine p_q _ rfl rfl rfl (fun _ _ => v_nilCheck rfl rfl) ?_
    refine p_q _ rfl rfl rfl (fun _ _ => v_fieldAddr rfl Try.underlying24 inf3 rfl rfl rfl rfl) ?_
    refine p_q _ rfl rfl rfl (fun _ _ => v_ld1 (v := i64 lo) rfl Try.underlying3 rfl rfl h0) ?_
    refine p_q _ rfl rfl rfl (fun _ _ => v_move rfl rfl) ?_
    refine p_q _ rfl rfl rfl (fun _ _ => v_nilCheck rfl rfl) ?_
    refine p_q _ rfl rfl rfl (fun _ _ => v_fieldAddr rfl Try.underlying24 inf3 rfl rfl rfl rfl) ?_
    refine p_q _ rfl rfl rfl (fun _ _ => v_ld1 (v := i64 hi) rfl Try.underlying3 rfl rfl h1) ?_
    refine p_q _ rfl rfl rfl (fun _ _ => v_sub rfl rfl rfl (by omega)) ?_
    refine p_q _ rfl rfl rfl (fun _ _ => v_max2 rfl rfl rfl) ?_
    refine p_nil2 (by simp only [List.nil_append, List.cons_append]; rfl) rfl ?_
    refine f_q rfl ?_
    refine f_q rfl ?_
    refine f_q rfl ?_
    refine f_q rfl ?_
    refine f_q rfl ?_
    refine f_q rfl ?_
    refine f_q rfl ?_
    refine f_q rfl ?_
    refine f_q rfl ?_
    refine f_q rfl ?_
    refine f_q rfl ?_
    refine f_nil ?_
    refine o_q _ rfl rfl rfl (v_nilCheck rfl rfl) ?_
    refine o_q _ rfl rfl rfl (v_fieldAddr rfl Try.underlying24 inf3 rfl rfl rfl rfl) ?_
    refine o_st rfl inf3 rfl rfl rfl rfl rfl rfl rfl (Nat.ble_eq_true_of_le (by show off + 1 + 1 ≤ vs.length; omega)) ?_
    refine o_nil ?_
    refine Imp.box_to xb (nrV false vs off lo hi) rfl ?_
    exact r_ende [bx xb T (nrV false vs off lo hi)] [] (Rd.none rfl) ⟨rfl, rfl, rfl⟩ SelMC.sel SubRC.sub
theorem nar_c (w : Nat) (b8 : w ≤ 255) (xb wb off : Nat) (T : TypeId) (vs : List Value) (lo hi : Int) (hl : off + 2 ≤ vs.length) (h0 : vs[off]? = some (i64 lo)) (h1 : vs[off + 1]? = some (i64 hi)) (hb : -100 ≤ lo ∧ lo ≤ 100 ∧ -100 ≤ hi ∧ hi ≤ 100) : FnC Try.prog 41 [pt xb off, pt wb 0] (bx xb T vs) [boxF wb 5 [.int .u8 w]] (.tuple #[]) (bx xb T (nrV (decide (w % 2 = 0)) vs off lo hi)) := by
  by_cases hw : w % 2 = 0
  · rw [decide_eq_true hw]; exact nar_t w b8 hw xb wb off T vs lo hi hl h0 h1 hb
  · rw [decide_eq_false hw]; exact nar_f w b8 hw xb wb off T vs lo hi hl h0 h1 hb
attribute [local irreducible] waterB marginB movesB untilB spareB turnB addB yB zB turnS nrV
set_option maxHeartbeats 4000000 in
theorem more_no (s0 : Sign) (w0 w1 : Nat) (b0 : w0 ≤ 255) (b1 : w1 ≤ 255) (hn : ¬ (¬ farB B ∧ GoodB B)) : FnV Try.prog 11 [valB B bo ro so bc rc sc, .agg #[i64 s0.kind, i64 s0.bank, i64 s0.day], .int .u8 w0, .int .u8 w1] [rowD bo 4 encB B.banks, rowD ro 2 encS B.rain, rowD so 3 encG B.signs] (.bool true) := by
  refine FnV.intro Try.call11 Try.func11 rfl Try.ntmps11 rfl ?_
  intro W M Rf
  refine r_seq ?_
  refine r_region ?_
  refine o_boxA rfl rfl rfl rfl rfl (fun b4 => ?_)
  refine o_boxA rfl rfl rfl rfl rfl (fun b5 => ?_)
  refine o_box1 rfl rfl rfl rfl rfl rfl (fun b7 => ?_)
  refine o_q _ rfl rfl rfl (v_assign rfl rfl) ?_
  refine o_nil ?_
  with_reducible refine r_then ?_
  refine r_seq ?_
  refine r_seq ?_
  refine r_region ?_
  refine o_q _ rfl rfl rfl (v_ldW rfl Try.underlying28 rfl inf28 rfl rfl) ?_
  refine o_q _ rfl rfl rfl (v_cast (v := .bool false) (OpQ.fn (fine_v B bo ro so bc rc sc) rfl rfl SubRC.sub) (congrArg Value.bool (decide_eq_false hn))) ?_
  refine o_q _ rfl rfl rfl (v_not rfl rfl) ?_
  refine o_nil ?_
  with_reducible refine r_then ?_
  refine r_cond rfl (fun hc61 => ?_) (fun hc61 => ?_)
  ·
    refine r_seq ?_
    refine r_region ?_
    refine o_q _ rfl rfl rfl (OpQ.fn awake_v rfl rfl SubRC.sub) ?_
    refine o_q _ rfl rfl rfl (v_assign rfl rfl) ?_
    refine o_nil ?_
    with_reducible refine r_then ?_
    refine r_ret ?_
    with_reducible refine r_then_ret ?_
    exact r_retv2 (Rd.tmp rfl rfl) rfl SelMC.sel SubRC.sub
  ·
    (exfalso; revert hc61; decide)
set_option maxHeartbeats 4000000 in
theorem more_yes (s0 : Sign) (w0 w1 : Nat) (b0 : w0 ≤ 255) (b1 : w1 ≤ 255) (bk dy ri : Nat) (hbk : w0 % B.banks.length = bk) (hdy : w0 / 4 % (B.rain.length + 1) = dy) (hri : w0 % B.rain.length = ri) (hf : ¬ farB B) (hg : GoodB B) : FnV Try.prog 11 [valB B bo ro so bc rc sc, .agg #[i64 s0.kind, i64 s0.bank, i64 s0.day], .int .u8 w0, .int .u8 w1] [rowD bo 4 encB B.banks, rowD ro 2 encS B.rain, rowD so 3 encG B.signs] (.bool true) := by
  have hb1 := hg.nb
  have hb2 := hg.nr
  have hb3 := hg.ns
  have hk : bk < B.banks.length := by rw [← hbk]; exact Nat.mod_lt _ (by omega)
  have hd : dy ≤ B.rain.length := by rw [← hdy]; exact Nat.le_of_lt_succ (Nat.mod_lt _ (by omega))
  have hr : ri < B.rain.length := by rw [← hri]; exact Nat.mod_lt _ (by omega)
  obtain ⟨hq1, hq2⟩ := hg.banks bk hk
  obtain ⟨hr1, hr2, hr3⟩ := hg.rain ri hr
  refine FnV.intro Try.call11 Try.func11 rfl Try.ntmps11 rfl ?_
  intro W M Rf
  refine r_seq ?_
  refine r_region ?_
  refine o_boxA rfl rfl rfl rfl rfl (fun b4 => ?_)
  refine o_boxA rfl rfl rfl rfl rfl (fun b5 => ?_)
  refine o_box1 rfl rfl rfl rfl rfl rfl (fun b7 => ?_)
  refine o_q _ rfl rfl rfl (v_assign rfl rfl) ?_
  refine o_nil ?_
  with_reducible refine r_then ?_
  refine r_seq ?_
  refine r_seq ?_
  refine r_region ?_
  refine o_q _ rfl rfl rfl (v_ldW rfl Try.underlying28 rfl inf28 rfl rfl) ?_
  refine o_q _ rfl rfl rfl (v_cast (v := .bool true) (OpQ.fn (fine_v B bo ro so bc rc sc) rfl rfl SubRC.sub) (congrArg Value.bool (decide_eq_true ⟨hf, hg⟩))) ?_
  refine o_q _ rfl rfl rfl (v_not rfl rfl) ?_
  refine o_nil ?_
  with_reducible refine r_then ?_
  refine r_cond rfl (fun hc61 => ?_) (fun hc61 => ?_)
  ·
    (exfalso; revert hc61; decide)
  ·
    refine r_skip ?_
    with_reducible refine r_then ?_
    refine r_seq ?_
    refine Imp.sealB b7 ?_
    refine r_region ?_
    refine o_q _ rfl rfl rfl (v_fieldAddr rfl Try.underlying28 inf22 rfl rfl rfl rfl) ?_
    refine o_q _ rfl rfl rfl (v_ld1 rfl Try.underlying22 rfl rfl rfl) ?_
    refine o_q _ rfl rfl rfl (v_len rfl rfl Try.underlying22 rfl) ?_
    refine o_q _ rfl rfl rfl (v_assign rfl rfl) ?_
    refine o_nil ?_
    with_reducible refine r_then ?_
    refine r_seq ?_
    refine r_region_q mixed (by kernel_rfl) ?_
    refine q_q _ rfl rfl rfl (v_move rfl rfl) ?_
    refine q_q _ rfl rfl rfl (v_conv rfl Try.underlying5 Try.underlying3 rfl (IntWalk.i64_in _ (by omega))) ?_
    refine q_q _ rfl rfl rfl (v_move rfl rfl) ?_
    refine q_q _ rfl rfl rfl (v_cast (v := i64 (bk : Nat)) (v_rem rfl rfl rfl (by omega)) (tmodE hbk (by omega))) ?_
    refine q_q _ rfl rfl rfl (v_move rfl rfl) ?_
    refine q_q _ rfl rfl rfl (v_conv rfl Try.underlying5 Try.underlying3 rfl (IntWalk.i64_in _ (by omega))) ?_
    refine q_q _ rfl rfl rfl (v_cast (v := i64 ((w0 / 4 : Nat) : Int)) (v_quo rfl rfl rfl (by omega) (by rw [Int.tdiv_eq_ediv_of_nonneg (by omega)]; omega)) (by rw [Int.tdiv_eq_ediv_of_nonneg (by omega)]; rfl)) ?_
    refine q_q _ rfl rfl rfl (v_fieldAddr rfl Try.underlying28 inf25 rfl rfl rfl rfl) ?_
    refine q_q _ rfl rfl rfl (v_ld1 rfl Try.underlying25 rfl rfl rfl) ?_
    refine q_q _ rfl rfl rfl (v_len rfl rfl Try.underlying25 rfl) ?_
    refine q_q _ rfl rfl rfl (v_add rfl rfl rfl (by omega)) ?_
    refine q_q _ rfl rfl rfl (v_cast (v := i64 (dy : Nat)) (v_rem rfl rfl rfl (by omega)) (tmodE hdy (by omega))) ?_
    refine q_q _ rfl rfl rfl (v_assign rfl rfl) ?_
    refine q_q _ rfl rfl rfl (v_assign rfl rfl) ?_
    refine q_nil ?_
    with_reducible refine r_then ?_
    refine r_seq ?_
    refine r_par' 12 mixed (by kernel_rfl) (by rfl) ?_
    refine p_q _ rfl rfl rfl (fun _ _ => v_ldW rfl Try.underlying28 rfl inf28 rfl rfl) ?_
    refine p_q _ rfl rfl rfl (fun _ _ => v_ldW rfl Try.underlying28 rfl inf28 rfl rfl) ?_
    refine p_q _ rfl rfl rfl (fun _ _ => v_ldW rfl Try.underlying28 rfl inf28 rfl rfl) ?_
    refine p_q _ rfl rfl rfl (fun _ _ => v_ldW rfl Try.underlying28 rfl inf28 rfl rfl) ?_
    refine p_allocL 8 (cellsB B bo ro so bc rc sc) rfl inf28 rfl rfl rfl rfl rfl ?_
    refine p_allocL 9 (cellsB B bo ro so bc rc sc) rfl inf28 rfl rfl rfl rfl rfl ?_
    refine p_allocL 10 (cellsB B bo ro so bc rc sc) rfl inf28 rfl rfl rfl rfl rfl ?_
    refine p_allocL 11 (cellsB B bo ro so bc rc sc) rfl inf28 rfl rfl rfl rfl rfl ?_
    refine p_acc (by simp only [List.nil_append, List.cons_append]; rfl) ?_
    refine p_stl 4 rfl rfl rfl inf28 rfl rfl rfl (by kernel_rfl) (fun _ => rfl) rfl rfl rfl rfl ?_
    refine p_acc (by simp only [List.nil_append, List.cons_append]; rfl) ?_
    refine p_stl 5 rfl rfl rfl inf28 rfl rfl rfl (by kernel_rfl) (fun _ => rfl) rfl rfl rfl rfl ?_
    refine p_acc (by simp only [List.nil_append, List.cons_append]; rfl) ?_
    refine p_stl 6 rfl rfl rfl inf28 rfl rfl rfl (by kernel_rfl) (fun _ => rfl) rfl rfl rfl rfl ?_
    refine p_acc (by simp only [List.nil_append, List.cons_append]; rfl) ?_
    refine p_stl 7 rfl rfl rfl inf28 rfl rfl rfl (by kernel_rfl) (fun _ => rfl) rfl rfl rfl rfl ?_
    refine p_nil2 (by simp only [List.nil_append, List.cons_append]; rfl) rfl ?_ (by kernel_rfl)
    refine f_q rfl ?_
    refine f_q rfl ?_
    refine f_q rfl ?_
    refine f_q rfl ?_
    refine f_allocL rfl (fun b12 => ?_)
    refine f_allocL rfl (fun b13 => ?_)
    refine f_allocL rfl (fun b14 => ?_)
    refine f_allocL rfl (fun b15 => ?_)
    refine f_s rfl ?_
    refine f_s rfl ?_
    refine f_s rfl ?_
    refine f_s rfl ?_
    refine f_nil ?_
    refine o_nil ?_
    with_reducible refine r_then ?_
    refine r_seq ?_
    refine r_par' 16 mixed (by kernel_rfl) (by rfl) ?_
    refine p_lit0 rfl Try.underlying26 inf55 rfl rfl rfl ?_
    refine p_q _ rfl rfl rfl (fun _ _ => v_fieldAddr rfl Try.underlying28 inf26 rfl rfl rfl rfl) ?_
    refine p_q _ rfl rfl rfl (fun _ _ => v_ld1 rfl Try.underlying26 rfl rfl rfl) ?_
    refine p_acc (by simp only [List.nil_append, List.cons_append]; rfl) ?_
    refine p_appNL (sz := 3) 6 0 rfl rfl rfl (by kernel_rfl) rfl rfl rfl rfl Try.underlying26 inf55 rfl rfl rfl encG_len (fun _ => rfl) ⟨by omega, by decide⟩ ?_
    refine p_q _ rfl rfl rfl (fun _ _ => v_ldW rfl Try.underlying55 rfl inf55 rfl rfl) ?_
    refine p_lit rfl Try.underlying26 inf55 rfl rfl rfl rfl rfl rfl rfl rfl (by repeat (first | exact trivial | refine ⟨rfl, ?_⟩)) (by rfl) ?_
    refine p_acc (by simp only [List.nil_append, List.cons_append]; rfl) ?_
    refine p_appT (sz := 3) 3 5 (s0) rfl rfl rfl (by kernel_rfl) rfl rfl rfl (by kernel_rfl) rfl rfl rfl rfl rfl Try.underlying26 inf55 rfl rfl rfl encG_len rfl rfl ⟨by omega, by decide⟩ ?_
    refine p_lit0 rfl Try.underlying22 inf58 rfl rfl rfl ?_
    refine p_q _ rfl rfl rfl (fun _ _ => v_fieldAddr rfl Try.underlying28 inf22 rfl rfl rfl rfl) ?_
    refine p_q _ rfl rfl rfl (fun _ _ => v_ld1 rfl Try.underlying22 rfl rfl rfl) ?_
    refine p_acc (by simp only [List.nil_append, List.cons_append]; rfl) ?_
    refine p_appN (sz := 4) 7 rfl rfl rfl (by kernel_rfl) rfl rfl rfl rfl Try.underlying22 inf58 rfl rfl rfl encB_len (fun _ => rfl) ⟨by omega, by decide⟩ ?_
    refine p_lit0 rfl Try.underlying25 inf24 rfl rfl rfl ?_
    refine p_q _ rfl rfl rfl (fun _ _ => v_fieldAddr rfl Try.underlying28 inf25 rfl rfl rfl rfl) ?_
    refine p_q _ rfl rfl rfl (fun _ _ => v_ld1 rfl Try.underlying25 rfl rfl rfl) ?_
    refine p_acc (by simp only [List.nil_append, List.cons_append]; rfl) ?_
    refine p_appN (sz := 2) 11 rfl rfl rfl (by kernel_rfl) rfl rfl rfl rfl Try.underlying25 inf24 rfl rfl rfl encS_len (fun _ => rfl) ⟨by omega, by decide⟩ ?_
    refine p_q _ rfl rfl rfl (fun _ _ => v_fieldAddr rfl Try.underlying28 inf26 rfl rfl rfl rfl) ?_
    refine p_nil2 (by simp only [List.nil_append, List.cons_append]; rfl) rfl ?_ (by kernel_rfl)
    refine f_l0 rfl (fun b82 => ?_)
    refine f_q rfl ?_
    refine f_q rfl ?_
    refine f_ozl rfl (fun v85 => ?_)
    refine f_q rfl ?_
    refine f_lit rfl (fun b87 => ?_)
    refine f_apt rfl (fun v88 => ?_)
    refine f_l0 rfl (fun b89 => ?_)
    refine f_q rfl ?_
    refine f_q rfl ?_
    refine f_oz rfl (fun v92 => ?_)
    refine f_l0 rfl (fun b93 => ?_)
    refine f_q rfl ?_
    refine f_q rfl ?_
    refine f_oz rfl (fun v96 => ?_)
    refine f_q rfl ?_
    refine f_nil ?_
    refine Imp.settleS v88 encG_len (fun xo xc hv => ?_)
    subst hv
    refine Imp.openZ (T := 58) (sz := 4) (enc := encB) (xs := B.banks) v92 (by omega) (fun yb ycap ysp hv => ?_)
    subst hv
    refine Imp.openZ (T := 24) (sz := 2) (enc := encS) (xs := B.rain) v96 (by omega) (fun zb zcap zsp hv => ?_)
    subst hv
    refine o_st rfl inf26 rfl rfl rfl rfl rfl rfl rfl rfl ?_
    refine o_q _ rfl rfl rfl (v_fieldAddr rfl Try.underlying28 inf22 rfl rfl rfl rfl) ?_
    refine o_st rfl inf22 rfl rfl rfl rfl rfl rfl rfl rfl ?_
    refine o_q _ rfl rfl rfl (v_fieldAddr rfl Try.underlying28 inf25 rfl rfl rfl rfl) ?_
    refine o_st rfl inf25 rfl rfl rfl rfl rfl rfl rfl rfl ?_
    refine o_nil ?_
    with_reducible refine r_then ?_
    refine r_seq ?_
    refine r_region ?_
    refine o_q _ rfl rfl rfl (v_fieldAddr rfl Try.underlying28 inf22 rfl rfl rfl rfl) ?_
    refine o_st rfl inf22 rfl rfl rfl rfl rfl rfl rfl rfl ?_
    refine o_q _ rfl rfl rfl (v_fieldAddr rfl Try.underlying28 inf26 rfl rfl rfl rfl) ?_
    refine o_st rfl inf26 rfl rfl rfl rfl rfl rfl rfl rfl ?_
    refine o_nil ?_
    with_reducible refine r_then ?_
    refine r_seq ?_
    refine r_region ?_
    refine o_q _ rfl rfl rfl (v_makeFunc rfl rfl rfl) ?_
    refine o_q _ rfl rfl rfl (v_assign rfl rfl) ?_
    refine o_nil ?_
    with_reducible refine r_then ?_
    refine r_seq ?_
    refine r_region ?_
    refine o_q _ rfl rfl rfl (v_move rfl rfl) ?_
    refine o_q _ rfl rfl rfl (v_fieldAddr rfl Try.underlying28 inf22 rfl rfl rfl rfl) ?_
    refine o_q _ rfl rfl rfl (v_ld1 rfl Try.underlying22 rfl rfl rfl) ?_
    refine o_q _ rfl rfl rfl (v_move rfl rfl) ?_
    refine o_q _ rfl rfl rfl (v_indexAddrB rfl Try.underlying22 inf58 rfl rfl hk) ?_
    refine o_q _ rfl rfl rfl (v_fieldAddr rfl Try.underlying58 inf24 rfl rfl rfl rfl) ?_
    refine o_fnc (nar_c w1 b1 yb b7 (bk * 4 + 2) 58 (B.banks.flatMap encB ++ ysp) (B.banks.getD bk default).clo (B.banks.getD bk default).chi (by rw [List.length_append, flat_len encB_len]; omega) ((flat_get (j := 2) encB_len hk (by decide)).trans rfl) ((flat_get (j := 3) encB_len hk (by decide)).trans rfl) (by omega)) rfl [] [pt b7 0] rfl rfl rfl rfl rfl rfl SubRC.sub ?_
    refine o_nil ?_
    with_reducible refine r_then ?_
    refine r_seq ?_
    refine r_parC1 (bx zb 24 (B.rain.flatMap encS ++ zsp)) 11 mixed (by kernel_rfl) (by rfl) ?_
    refine p_q _ rfl rfl rfl (fun _ _ => v_move rfl rfl) ?_
    refine p_q _ rfl rfl rfl (fun _ _ => v_fieldAddr rfl Try.underlying28 inf25 rfl rfl rfl rfl) ?_
    refine p_q _ rfl rfl rfl (fun _ _ => v_ld1 rfl Try.underlying25 rfl rfl rfl) ?_
    refine p_q _ rfl rfl rfl (fun _ _ => v_move rfl rfl) ?_
    refine p_q _ rfl rfl rfl (fun _ _ => v_conv rfl Try.underlying5 Try.underlying3 rfl (IntWalk.i64_in _ (by omega))) ?_
    refine p_q _ rfl rfl rfl (fun _ _ => v_fieldAddr rfl Try.underlying28 inf25 rfl rfl rfl rfl) ?_
    refine p_q _ rfl rfl rfl (fun _ _ => v_ld1 rfl Try.underlying25 rfl rfl rfl) ?_
    refine p_q _ rfl rfl rfl (fun _ _ => v_len rfl rfl Try.underlying25 rfl) ?_
    refine p_q _ rfl rfl rfl (fun _ _ => v_cast (v := i64 (ri : Nat)) (v_rem rfl rfl rfl (by omega)) (tmodE hri (by omega))) ?_
    refine p_q _ rfl rfl rfl (fun _ _ => v_indexAddrB rfl Try.underlying25 inf24 rfl rfl hr) ?_
    refine p_fnc (nar_c w1 b1 zb b7 (ri * 2) 24 (B.rain.flatMap encS ++ zsp) (B.rain.getD ri default).lo (B.rain.getD ri default).hi (by rw [List.length_append, flat_len encS_len]; omega) ((flat_get (j := 0) encS_len hr (by decide)).trans rfl) ((flat_get (j := 1) encS_len hr (by decide)).trans rfl) (by omega)) rfl [] [pt b7 0] rfl rfl rfl rfl rfl rfl SubRC.sub ?_
    refine p_nil2 (by simp only [List.nil_append, List.cons_append]; rfl) rfl ?_
    refine f_q rfl ?_
    refine f_q rfl ?_
    refine f_q rfl ?_
    refine f_q rfl ?_
    refine f_q rfl ?_
    refine f_q rfl ?_
    refine f_q rfl ?_
    refine f_q rfl ?_
    refine f_q rfl ?_
    refine f_q rfl ?_
    refine f_qc1 rfl ?_
    refine f_nil ?_
    refine o_nil ?_
    with_reducible refine r_then ?_
    refine r_seq ?_
    refine r_seq ?_
    refine Imp.box_to yb ((yB B (decide (w1 % 2 = 0)) bk).banks.flatMap encB ++ ysp) (yB_banks B (decide (w1 % 2 = 0)) bk ysp hk) ?_
    refine Imp.sealB yb ?_
    refine Imp.rowP (b := yb) (yB B (decide (w1 % 2 = 0)) bk).banks encB_len rfl ?_
    refine Imp.box_to zb ((zB B (decide (w1 % 2 = 0)) ri).rain.flatMap encS ++ zsp) (zB_rain B (decide (w1 % 2 = 0)) ri zsp hr) ?_
    refine Imp.sealB zb ?_
    refine Imp.rowP (b := zb) (zB B (decide (w1 % 2 = 0)) ri).rain encS_len rfl ?_
    refine Imp.box_to b12 (cellsB (addB B s0) bo ro xo bc rc xc) (add_cells B s0 _ _ _ _ _ _) ?_
    refine Imp.box_to b13 (cellsB (yB B (decide (w1 % 2 = 0)) bk) (some ⟨yb, 0, none⟩) ro so ycap rc sc) (y_cells B (decide (w1 % 2 = 0)) bk _ _ _ _ _ _) ?_
    refine Imp.box_to b14 (cellsB (zB B (decide (w1 % 2 = 0)) ri) bo (some ⟨zb, 0, none⟩) so bc zcap sc) (z_cells B (decide (w1 % 2 = 0)) ri _ _ _ _ _ _) ?_
    refine Imp.derive (ψ := rowD xo 3 encG (addB B s0).signs) ?_ (fun V hV => by rw [add_signs]; exact hV (rowD xo 3 encG (B.signs ++ [s0])) (by simp))
    refine r_region ?_
    refine o_q _ rfl rfl rfl (v_fieldAddr rfl Try.underlying28 inf22 rfl rfl rfl rfl) ?_
    refine o_q _ rfl rfl rfl (v_ld1 rfl Try.underlying22 rfl rfl rfl) ?_
    refine o_q _ rfl rfl rfl (v_len rfl rfl Try.underlying22 rfl) ?_
    refine o_q _ rfl rfl rfl (v_move rfl rfl) ?_
    refine o_nil ?_
    with_reducible refine r_then ?_
    refine r_block ?_
    refine r_loop (ι := Nat × Value) (fun gh => gh.1 ≤ B.banks.length) (fun gh => [(4, pt b4 0), (9, i64 B.banks.length), (10, i64 bk), (11, i64 dy), (12, pt b12 0), (13, pt b13 0), (14, pt b14 0), (15, pt b15 0), (122, .slice bo B.banks.length bc), (123, i64 B.banks.length), (124, i64 gh.1)]) (fun gh => ownL gh.2 58 4 encB (revB B gh.1) :: bx b15 28 [gh.2, i64 B.wlo, i64 B.whi, .slice ro B.rain.length rc, i64 B.drain, .slice none 0 0] :: bx b12 28 (cellsB (addB B s0) bo ro xo bc rc xc) :: bx b13 28 (cellsB (yB B (decide (w1 % 2 = 0)) bk) (some ⟨yb, 0, none⟩) ro so ycap rc sc) :: bx b14 28 (cellsB (zB B (decide (w1 % 2 = 0)) ri) bo (some ⟨zb, 0, none⟩) so bc zcap sc) :: bx b4 28 (cellsB B bo ro so bc rc sc) :: M) (fun gh => rowD xo 3 encG (addB B s0).signs :: rowD (some ⟨yb, 0, none⟩) 4 encB (yB B (decide (w1 % 2 = 0)) bk).banks :: rowD (some ⟨zb, 0, none⟩) 2 encS (zB B (decide (w1 % 2 = 0)) ri).rain :: boxF b7 5 [.int .u8 w1] :: ([rowD bo 4 encB B.banks, rowD ro 2 encS B.rain, rowD so 3 encG B.signs] ++ Rf)) (fun gh => B.banks.length - gh.1) (0, .slice none 0 0) ?_ ?_ ?_
    ·
      refine Imp.nilL 58 4 encB ?_
      refine Imp.own_to (.slice none 0 0) (revB B 0) rfl ?_
      refine Imp.box_to b15 [.slice none 0 0, i64 B.wlo, i64 B.whi, .slice ro B.rain.length rc, i64 B.drain, .slice none 0 0] rfl ?_
      exact r_here (by repeat (first | exact FSub.nil | refine FSub.cons rfl ?_)) SelMC.sel SubRC.sub
    ·
      exact Nat.zero_le _
    ·
      rintro ⟨k, v⟩ hI0
      dsimp only at hI0
      dsimp only
      have hI : k ≤ B.banks.length := hI0
      have hln := revB_len hI
      refine r_seq ?_
      refine r_region ?_
      refine o_q _ rfl rfl rfl (v_lss rfl rfl rfl) ?_
      refine o_nil ?_
      with_reducible refine r_then ?_
      refine r_seq ?_
      refine r_condd rfl (fun hc125 => ?_) (fun hc125 => ?_)
      ·
        refine r_skip ?_
        with_reducible refine r_then ?_
        refine r_seq ?_
        refine r_block ?_
        refine r_seq ?_
        refine r_region ?_
        refine o_q _ rfl rfl rfl (v_move rfl rfl) ?_
        refine o_q _ rfl rfl rfl (v_assign rfl rfl) ?_
        refine o_nil ?_
        with_reducible refine r_then ?_
        refine r_par' 11 mixed (by kernel_rfl) (by rfl) ?_
        refine p_q _ rfl rfl rfl (fun _ _ => v_fieldAddr rfl Try.underlying28 inf22 rfl rfl rfl rfl) ?_
        refine p_q _ rfl rfl rfl (fun _ _ => v_ld1 rfl Try.underlying22 rfl rfl rfl) ?_
        refine p_q _ rfl rfl rfl (fun _ _ => v_fieldAddr rfl Try.underlying28 inf22 rfl rfl rfl rfl) ?_
        refine p_q _ rfl rfl rfl (fun _ _ => v_ld1 rfl Try.underlying22 rfl rfl rfl) ?_
        refine p_q _ rfl rfl rfl (fun _ _ => v_move rfl rfl) ?_
        refine p_q _ rfl rfl rfl (fun _ _ => v_sub rfl rfl rfl (by omega)) ?_
        refine p_q _ rfl rfl rfl (fun _ _ => v_move rfl rfl) ?_
        refine p_q _ rfl rfl rfl (fun _ _ => v_cast (v := i64 ((B.banks.length - 1 - k : Nat) : Int)) (v_sub rfl rfl rfl (by omega)) (congrArg (Value.int .i64) (by omega))) ?_
        refine p_q _ rfl rfl rfl (fun _ _ => v_indexAddrSn rfl Try.underlying22 inf58 rfl rfl rfl (by omega) rfl) ?_
        refine p_q _ rfl rfl rfl (fun _ _ => v_cast (v := .agg #[i64 (B.banks.getD (B.banks.length - 1 - k) default).blo, i64 (B.banks.getD (B.banks.length - 1 - k) default).bhi, i64 (B.banks.getD (B.banks.length - 1 - k) default).clo, i64 (B.banks.getD (B.banks.length - 1 - k) default).chi]) (v_loadEN rfl Try.underlying58 rfl inf58 rfl (by omega) rfl rfl rfl) rfl) ?_
        refine p_lit rfl Try.underlying22 inf58 rfl rfl rfl rfl rfl rfl rfl rfl (by repeat (first | exact trivial | refine ⟨rfl, ?_⟩)) (by rfl) ?_
        refine p_nil2 (by simp only [List.nil_append, List.cons_append]; rfl) rfl ?_
        refine f_q rfl ?_
        refine f_q rfl ?_
        refine f_q rfl ?_
        refine f_q rfl ?_
        refine f_q rfl ?_
        refine f_q rfl ?_
        refine f_q rfl ?_
        refine f_q rfl ?_
        refine f_q rfl ?_
        refine f_q rfl ?_
        refine f_lit rfl (fun b137 => ?_)
        refine f_nil ?_
        refine o_app1F ((B.banks.getD (B.banks.length - 1 - k) default)) rfl Try.underlying22 inf58 rfl (by rfl) (by rfl) rfl rfl rfl rfl rfl (by rfl) (by rfl) (by rfl) (by first | omega | (constructor <;> first | omega | decide)) (fun v138 => ?_)
        refine Imp.own_is v138 (fun hs => ?_)
        obtain ⟨oan, cpn, rfl⟩ := hs
        refine o_q _ rfl rfl rfl (v_fieldAddr rfl Try.underlying28 inf22 rfl rfl rfl rfl) ?_
        refine o_st rfl inf22 rfl rfl rfl rfl rfl rfl rfl rfl ?_
        refine o_nil ?_
        with_reducible refine r_in_normal ?_; refine r_then ?_
        refine r_region ?_
        refine o_q _ rfl rfl rfl (v_add rfl rfl rfl (by omega)) ?_
        refine o_q _ rfl rfl rfl (v_move rfl rfl) ?_
        refine o_nil ?_
        with_reducible refine r_then ?_
        exact r_next ((k + 1, .slice oan (revB B k ++ [(B.banks.getD (B.banks.length - 1 - k) default)]).length cpn)) (by refine Imp.own_to (.slice oan (revB B k ++ [(B.banks.getD (B.banks.length - 1 - k) default)]).length cpn) (revB B (k + 1)) (revB_s (by omega)) ?_; refine Imp.box_to b15 [.slice oan (revB B k ++ [(B.banks.getD (B.banks.length - 1 - k) default)]).length cpn, i64 B.wlo, i64 B.whi, .slice ro B.rain.length rc, i64 B.drain, .slice none 0 0] rfl ?_; exact r_here (by repeat (first | exact FSub.nil | refine FSub.cons rfl ?_)) SelMC.sel SubRC.sub) (by first | omega | (show _ + 1 ≤ _; omega)) (by first | omega | (show _ - (_ + 1) < _ - _; omega))
      ·
        refine r_exit ?_
        with_reducible refine r_then_exit ?_; refine r_then_exit ?_; refine r_in_here ?_; refine r_then ?_
        refine r_seq ?_
        refine r_seq ?_
        obtain rfl : k = B.banks.length := by omega
        refine Imp.settleS v encB_len (fun to_ tcap hv => ?_)
        subst hv
        refine r_region ?_
        refine o_q _ rfl rfl rfl (v_fieldAddr rfl Try.underlying28 inf26 rfl rfl rfl rfl) ?_
        refine o_q _ rfl rfl rfl (v_ld1 rfl Try.underlying26 rfl rfl rfl) ?_
        refine o_q _ rfl rfl rfl (v_len rfl rfl Try.underlying26 rfl) ?_
        refine o_q _ rfl rfl rfl (v_move rfl rfl) ?_
        refine o_nil ?_
        with_reducible refine r_then ?_
        refine r_block ?_
        refine r_loop (ι := Nat × Value) (fun gh => gh.1 ≤ B.signs.length) (fun gh => [(4, pt b4 0), (9, i64 B.banks.length), (10, i64 bk), (11, i64 dy), (12, pt b12 0), (13, pt b13 0), (14, pt b14 0), (15, pt b15 0), (142, .slice so B.signs.length sc), (143, i64 B.signs.length), (144, i64 gh.1)]) (fun gh => ownL gh.2 55 3 encG (revS B gh.1) :: bx b15 28 [.slice to_ (revB B B.banks.length).length tcap, i64 B.wlo, i64 B.whi, .slice ro B.rain.length rc, i64 B.drain, gh.2] :: bx b12 28 (cellsB (addB B s0) bo ro xo bc rc xc) :: bx b13 28 (cellsB (yB B (decide (w1 % 2 = 0)) bk) (some ⟨yb, 0, none⟩) ro so ycap rc sc) :: bx b14 28 (cellsB (zB B (decide (w1 % 2 = 0)) ri) bo (some ⟨zb, 0, none⟩) so bc zcap sc) :: bx b4 28 (cellsB B bo ro so bc rc sc) :: M) (fun gh => rowD to_ 4 encB (revB B B.banks.length) :: rowD xo 3 encG (addB B s0).signs :: rowD (some ⟨yb, 0, none⟩) 4 encB (yB B (decide (w1 % 2 = 0)) bk).banks :: rowD (some ⟨zb, 0, none⟩) 2 encS (zB B (decide (w1 % 2 = 0)) ri).rain :: boxF b7 5 [.int .u8 w1] :: ([rowD bo 4 encB B.banks, rowD ro 2 encS B.rain, rowD so 3 encG B.signs] ++ Rf)) (fun gh => B.signs.length - gh.1) (0, .slice none 0 0) ?_ ?_ ?_
        ·
          refine Imp.nilL 55 3 encG ?_
          refine Imp.own_to (.slice none 0 0) (revS B 0) rfl ?_
          refine Imp.box_to b15 [.slice to_ (revB B B.banks.length).length tcap, i64 B.wlo, i64 B.whi, .slice ro B.rain.length rc, i64 B.drain, .slice none 0 0] rfl ?_
          exact r_here (by repeat (first | exact FSub.nil | refine FSub.cons rfl ?_)) SelMC.sel SubRC.sub
        ·
          exact Nat.zero_le _
        ·
          rintro ⟨k, v⟩ hI1
          dsimp only at hI1
          dsimp only
          have hI : k ≤ B.signs.length := hI1
          have hln := revS_len hI
          refine r_seq ?_
          refine r_region ?_
          refine o_q _ rfl rfl rfl (v_lss rfl rfl rfl) ?_
          refine o_nil ?_
          with_reducible refine r_then ?_
          refine r_seq ?_
          refine r_condd rfl (fun hc145 => ?_) (fun hc145 => ?_)
          ·
            refine r_skip ?_
            with_reducible refine r_then ?_
            refine r_seq ?_
            refine r_block ?_
            refine r_seq ?_
            refine r_region ?_
            refine o_q _ rfl rfl rfl (v_move rfl rfl) ?_
            refine o_q _ rfl rfl rfl (v_assign rfl rfl) ?_
            refine o_nil ?_
            with_reducible refine r_then ?_
            refine r_seq ?_
            refine r_region ?_
            refine o_q _ rfl rfl rfl (v_fieldAddr rfl Try.underlying28 inf26 rfl rfl rfl rfl) ?_
            refine o_q _ rfl rfl rfl (v_ld1 rfl Try.underlying26 rfl rfl rfl) ?_
            refine o_q _ rfl rfl rfl (v_fieldAddr rfl Try.underlying28 inf26 rfl rfl rfl rfl) ?_
            refine o_q _ rfl rfl rfl (v_ld1 rfl Try.underlying26 rfl rfl rfl) ?_
            refine o_q _ rfl rfl rfl (v_len rfl rfl Try.underlying26 rfl) ?_
            refine o_q _ rfl rfl rfl (v_sub rfl rfl rfl (by omega)) ?_
            refine o_q _ rfl rfl rfl (v_move rfl rfl) ?_
            refine o_q _ rfl rfl rfl (v_cast (v := i64 ((B.signs.length - 1 - k : Nat) : Int)) (v_sub rfl rfl rfl (by omega)) (congrArg (Value.int .i64) (by omega))) ?_
            refine o_q _ rfl rfl rfl (v_indexAddrSn rfl Try.underlying26 inf55 rfl rfl rfl (by omega) rfl) ?_
            refine o_q _ rfl rfl rfl (v_cast (v := .agg #[i64 (B.signs.getD (B.signs.length - 1 - k) default).kind, i64 (B.signs.getD (B.signs.length - 1 - k) default).bank, i64 (B.signs.getD (B.signs.length - 1 - k) default).day]) (v_loadEN rfl Try.underlying55 rfl inf55 rfl (by omega) rfl rfl rfl) rfl) ?_
            refine o_alloc rfl inf55 rfl rfl rfl rfl rfl (fun b19 => ?_)
            refine o_st rfl inf55 rfl rfl rfl rfl rfl rfl rfl rfl ?_
            refine o_nil ?_
            with_reducible refine r_then ?_
            refine r_seq ?_
            refine r_seq ?_
            refine r_region ?_
            refine o_q _ rfl rfl rfl (v_fieldAddr rfl Try.underlying55 inf3 rfl rfl rfl rfl) ?_
            refine o_q _ rfl rfl rfl (v_ld1 rfl Try.underlying3 rfl rfl rfl) ?_
            refine o_q _ rfl rfl rfl (v_neq rfl rfl rfl) ?_
            refine o_nil ?_
            with_reducible refine r_then ?_
            refine r_condd rfl (fun hc159 => ?_) (fun hc159 => ?_)
            ·
              refine r_region ?_
              refine o_q _ rfl rfl rfl (v_move rfl rfl) ?_
              refine o_q _ rfl rfl rfl (v_sub rfl rfl rfl (by omega)) ?_
              refine o_q _ rfl rfl rfl (v_fieldAddr rfl Try.underlying55 inf3 rfl rfl rfl rfl) ?_
              refine o_q _ rfl rfl rfl (v_ld1 rfl Try.underlying3 rfl rfl rfl) ?_
              refine o_q _ rfl rfl rfl (v_sub rfl rfl rfl (by obtain ⟨_, hq⟩ := hg.signs (B.signs.length - 1 - k) (by omega); omega)) ?_
              refine o_q _ rfl rfl rfl (v_fieldAddr rfl Try.underlying55 inf3 rfl rfl rfl rfl) ?_
              refine o_st rfl inf3 rfl rfl rfl rfl rfl rfl rfl rfl ?_
              refine o_nil ?_
              with_reducible refine r_then ?_
              refine Imp.box_to b19 (encG (turnS B.banks.length (B.signs.getD (B.signs.length - 1 - k) default))) (turnS_y (by omega)) ?_
              refine r_region ?_
              refine o_q _ rfl rfl rfl (v_fieldAddr rfl Try.underlying28 inf26 rfl rfl rfl rfl) ?_
              refine o_q _ rfl rfl rfl (v_ld1 rfl Try.underlying26 rfl rfl rfl) ?_
              refine o_q _ rfl rfl rfl (v_ldW rfl Try.underlying55 rfl inf55 rfl rfl) ?_
              refine o_lit rfl Try.underlying26 inf55 rfl rfl rfl rfl rfl rfl rfl rfl (by repeat (first | exact trivial | refine ⟨rfl, ?_⟩)) (by rfl) (fun b169 => ?_)
              refine o_app1 ((turnS B.banks.length (B.signs.getD (B.signs.length - 1 - k) default))) rfl Try.underlying26 inf55 rfl (by rfl) (by rfl) rfl rfl rfl rfl rfl (by rfl) (by rfl) (by rfl) (by first | omega | (constructor <;> first | omega | decide)) (fun v170 => ?_)
              refine Imp.own_is v170 (fun hs => ?_)
              obtain ⟨oan, cpn, rfl⟩ := hs
              refine o_q _ rfl rfl rfl (v_fieldAddr rfl Try.underlying28 inf26 rfl rfl rfl rfl) ?_
              refine o_st rfl inf26 rfl rfl rfl rfl rfl rfl rfl rfl ?_
              refine o_nil ?_
              with_reducible refine r_in_normal ?_; refine r_then ?_
              refine r_region ?_
              refine o_q _ rfl rfl rfl (v_add rfl rfl rfl (by omega)) ?_
              refine o_q _ rfl rfl rfl (v_move rfl rfl) ?_
              refine o_nil ?_
              with_reducible refine r_then ?_
              exact r_next ((k + 1, .slice oan (revS B k ++ [(turnS B.banks.length (B.signs.getD (B.signs.length - 1 - k) default))]).length cpn)) (by refine Imp.own_to (.slice oan (revS B k ++ [(turnS B.banks.length (B.signs.getD (B.signs.length - 1 - k) default))]).length cpn) (revS B (k + 1)) (revS_s (by omega)) ?_; refine Imp.box_to b15 [.slice to_ (revB B B.banks.length).length tcap, i64 B.wlo, i64 B.whi, .slice ro B.rain.length rc, i64 B.drain, .slice oan (revS B k ++ [(turnS B.banks.length (B.signs.getD (B.signs.length - 1 - k) default))]).length cpn] rfl ?_; exact r_here (by repeat (first | exact FSub.nil | refine FSub.cons rfl ?_)) SelMC.sel SubRC.sub) (by first | omega | (show _ + 1 ≤ _; omega)) (by first | omega | (show _ - (_ + 1) < _ - _; omega))
            ·
              refine r_skip ?_
              with_reducible refine r_then ?_
              refine Imp.box_to b19 (encG (turnS B.banks.length (B.signs.getD (B.signs.length - 1 - k) default))) (turnS_n (by omega)) ?_
              refine r_region ?_
              refine o_q _ rfl rfl rfl (v_fieldAddr rfl Try.underlying28 inf26 rfl rfl rfl rfl) ?_
              refine o_q _ rfl rfl rfl (v_ld1 rfl Try.underlying26 rfl rfl rfl) ?_
              refine o_q _ rfl rfl rfl (v_ldW rfl Try.underlying55 rfl inf55 rfl rfl) ?_
              refine o_lit rfl Try.underlying26 inf55 rfl rfl rfl rfl rfl rfl rfl rfl (by repeat (first | exact trivial | refine ⟨rfl, ?_⟩)) (by rfl) (fun b169 => ?_)
              refine o_app1 ((turnS B.banks.length (B.signs.getD (B.signs.length - 1 - k) default))) rfl Try.underlying26 inf55 rfl (by rfl) (by rfl) rfl rfl rfl rfl rfl (by rfl) (by rfl) (by rfl) (by first | omega | (constructor <;> first | omega | decide)) (fun v170 => ?_)
              refine Imp.own_is v170 (fun hs => ?_)
              obtain ⟨oan, cpn, rfl⟩ := hs
              refine o_q _ rfl rfl rfl (v_fieldAddr rfl Try.underlying28 inf26 rfl rfl rfl rfl) ?_
              refine o_st rfl inf26 rfl rfl rfl rfl rfl rfl rfl rfl ?_
              refine o_nil ?_
              with_reducible refine r_in_normal ?_; refine r_then ?_
              refine r_region ?_
              refine o_q _ rfl rfl rfl (v_add rfl rfl rfl (by omega)) ?_
              refine o_q _ rfl rfl rfl (v_move rfl rfl) ?_
              refine o_nil ?_
              with_reducible refine r_then ?_
              exact r_next ((k + 1, .slice oan (revS B k ++ [(turnS B.banks.length (B.signs.getD (B.signs.length - 1 - k) default))]).length cpn)) (by refine Imp.own_to (.slice oan (revS B k ++ [(turnS B.banks.length (B.signs.getD (B.signs.length - 1 - k) default))]).length cpn) (revS B (k + 1)) (revS_s (by omega)) ?_; refine Imp.box_to b15 [.slice to_ (revB B B.banks.length).length tcap, i64 B.wlo, i64 B.whi, .slice ro B.rain.length rc, i64 B.drain, .slice oan (revS B k ++ [(turnS B.banks.length (B.signs.getD (B.signs.length - 1 - k) default))]).length cpn] rfl ?_; exact r_here (by repeat (first | exact FSub.nil | refine FSub.cons rfl ?_)) SelMC.sel SubRC.sub) (by first | omega | (show _ + 1 ≤ _; omega)) (by first | omega | (show _ - (_ + 1) < _ - _; omega))
          ·
            refine r_exit ?_
            with_reducible refine r_then_exit ?_; refine r_then_exit ?_; refine r_in_here ?_; refine r_then ?_
            refine r_seq ?_
            obtain rfl : k = B.signs.length := by omega
            refine Imp.settleS v encG_len (fun uo ucap hv => ?_)
            subst hv
            refine Imp.box_to b15 (cellsB (turnB B) to_ ro uo tcap rc ucap) (turn_cells B _ _ _ _ _ _) ?_
            refine r_par' 12 mixed (by kernel_rfl) (by rfl) ?_
            refine p_lit0 rfl Try.underlying22 inf58 rfl rfl rfl ?_
            refine p_q _ rfl rfl rfl (fun _ _ => v_fieldAddr rfl Try.underlying28 inf22 rfl rfl rfl rfl) ?_
            refine p_q _ rfl rfl rfl (fun _ _ => v_ld1 rfl Try.underlying22 rfl rfl rfl) ?_
            refine p_acc (by simp only [List.nil_append, List.cons_append]; rfl) ?_
            refine p_appN (sz := 4) 0 rfl rfl rfl (by kernel_rfl) rfl rfl rfl rfl Try.underlying22 inf58 rfl rfl rfl encB_len (fun _ => rfl) ⟨by omega, by decide⟩ ?_
            refine p_lit0 rfl Try.underlying25 inf24 rfl rfl rfl ?_
            refine p_q _ rfl rfl rfl (fun _ _ => v_fieldAddr rfl Try.underlying28 inf25 rfl rfl rfl rfl) ?_
            refine p_q _ rfl rfl rfl (fun _ _ => v_ld1 rfl Try.underlying25 rfl rfl rfl) ?_
            refine p_acc (by simp only [List.nil_append, List.cons_append]; rfl) ?_
            refine p_appN (sz := 2) 4 rfl rfl rfl (by kernel_rfl) rfl rfl rfl rfl Try.underlying25 inf24 rfl rfl rfl encS_len (fun _ => rfl) ⟨by omega, by decide⟩ ?_
            refine p_lit0 rfl Try.underlying26 inf55 rfl rfl rfl ?_
            refine p_q _ rfl rfl rfl (fun _ _ => v_fieldAddr rfl Try.underlying28 inf26 rfl rfl rfl rfl) ?_
            refine p_q _ rfl rfl rfl (fun _ _ => v_ld1 rfl Try.underlying26 rfl rfl rfl) ?_
            refine p_acc (by simp only [List.nil_append, List.cons_append]; rfl) ?_
            refine p_appN (sz := 3) 8 rfl rfl rfl (by kernel_rfl) rfl rfl rfl rfl Try.underlying26 inf55 rfl rfl rfl encG_len (fun _ => rfl) ⟨by omega, by decide⟩ ?_
            refine p_nil2 (by simp only [List.nil_append, List.cons_append]; rfl) rfl ?_
            refine f_l0 rfl (fun b173 => ?_)
            refine f_q rfl ?_
            refine f_q rfl ?_
            refine f_oz rfl (fun v176 => ?_)
            refine f_l0 rfl (fun b177 => ?_)
            refine f_q rfl ?_
            refine f_q rfl ?_
            refine f_oz rfl (fun v180 => ?_)
            refine f_l0 rfl (fun b181 => ?_)
            refine f_q rfl ?_
            refine f_q rfl ?_
            refine f_oz rfl (fun v184 => ?_)
            refine f_nil ?_
            refine Imp.settleZ (T := 58) (sz := 4) (enc := encB) (xs := B.banks) v176 encB_len (fun o20 c20 hv => ?_)
            subst hv
            refine Imp.settleZ (T := 24) (sz := 2) (enc := encS) (xs := B.rain) v180 encS_len (fun o21 c21 hv => ?_)
            subst hv
            refine Imp.settleZ (T := 55) (sz := 3) (enc := encG) (xs := B.signs) v184 encG_len (fun o22 c22 hv => ?_)
            subst hv
            refine o_q _ rfl rfl rfl (v_assign rfl rfl) ?_
            refine o_q _ rfl rfl rfl (v_assign rfl rfl) ?_
            refine o_q _ rfl rfl rfl (v_assign rfl rfl) ?_
            refine o_nil ?_
            with_reducible refine r_then ?_
            refine r_seq ?_
            refine r_region ?_
            refine o_q _ rfl rfl rfl (v_assign rfl rfl) ?_
            refine o_nil ?_
            with_reducible refine r_then ?_
            refine r_seq ?_
            have hkb := known_of hg hg (less_refl B) hk hd
            have hk1 := hkb.e1
            have hk2 := hkb.e2
            refine r_region ?_
            refine o_q _ rfl rfl rfl (v_ldW rfl Try.underlying28 rfl inf28 rfl rfl) ?_
            refine o_q _ rfl rfl rfl (v_move rfl rfl) ?_
            refine o_q _ rfl rfl rfl (OpQ.fn (water_v B bo ro so bc rc sc (dy : Int) (by omega) (by omega) (by omega)) rfl rfl SubRC.sub) ?_
            refine o_q _ rfl rfl rfl (v_move rfl rfl) ?_
            refine o_q _ rfl rfl rfl (v_extract rfl rfl rfl) ?_
            refine o_q _ rfl rfl rfl (v_extract rfl rfl rfl) ?_
            refine o_alloc rfl inf24 rfl rfl rfl rfl rfl (fun b24 => ?_)
            refine o_st rfl inf24 rfl rfl rfl rfl rfl rfl rfl rfl ?_
            refine o_q _ rfl rfl rfl (v_assign rfl rfl) ?_
            refine o_nil ?_
            with_reducible refine r_then ?_
            refine r_seq ?_
            refine r_region ?_
            refine o_q _ rfl rfl rfl (v_ldW rfl Try.underlying28 rfl inf28 rfl rfl) ?_
            refine o_q _ rfl rfl rfl (v_move rfl rfl) ?_
            refine o_q _ rfl rfl rfl (v_move rfl rfl) ?_
            refine o_q _ rfl rfl rfl (OpQ.fn (Margin_v B bo ro so bc rc sc (bk : Int) (dy : Int) (by omega) (by omega) (by omega)) rfl rfl SubRC.sub) ?_
            refine o_q _ rfl rfl rfl (v_move rfl rfl) ?_
            refine o_q _ rfl rfl rfl (v_extract rfl rfl rfl) ?_
            refine o_q _ rfl rfl rfl (v_extract rfl rfl rfl) ?_
            refine o_alloc rfl inf24 rfl rfl rfl rfl rfl (fun b26 => ?_)
            refine o_st rfl inf24 rfl rfl rfl rfl rfl rfl rfl rfl ?_
            refine o_q _ rfl rfl rfl (v_assign rfl rfl) ?_
            refine o_nil ?_
            with_reducible refine r_then ?_
            refine r_seq ?_
            refine r_region ?_
            refine o_q _ rfl rfl rfl (v_ldW rfl Try.underlying28 rfl inf28 rfl rfl) ?_
            refine o_q _ rfl rfl rfl (v_move rfl rfl) ?_
            refine o_q _ rfl rfl rfl (OpQ.fn (moves_v B bo ro so bc rc sc (dy : Int) (by omega) (by omega) (by omega)) rfl rfl SubRC.sub) ?_
            refine o_q _ rfl rfl rfl (v_move rfl rfl) ?_
            refine o_q _ rfl rfl rfl (v_extract rfl rfl rfl) ?_
            refine o_q _ rfl rfl rfl (v_extract rfl rfl rfl) ?_
            refine o_q _ rfl rfl rfl (v_extract rfl rfl rfl) ?_
            refine o_q _ rfl rfl rfl (v_assign rfl rfl) ?_
            refine o_q _ rfl rfl rfl (v_assign rfl rfl) ?_
            refine o_q _ rfl rfl rfl (v_assign rfl rfl) ?_
            refine o_nil ?_
            with_reducible refine r_then ?_
            refine r_seq ?_
            refine r_region ?_
            refine o_q _ rfl rfl rfl (v_ldW rfl Try.underlying28 rfl inf28 rfl rfl) ?_
            refine o_q _ rfl rfl rfl (OpQ.fn (until_v B bo ro so bc rc sc (by omega) (by omega) (by omega)) rfl rfl SubRC.sub) ?_
            refine o_q _ rfl rfl rfl (v_move rfl rfl) ?_
            refine o_q _ rfl rfl rfl (v_extract rfl rfl rfl) ?_
            refine o_q _ rfl rfl rfl (v_extract rfl rfl rfl) ?_
            refine o_q _ rfl rfl rfl (v_assign rfl rfl) ?_
            refine o_q _ rfl rfl rfl (v_assign rfl rfl) ?_
            refine o_nil ?_
            with_reducible refine r_then ?_
            refine r_seq ?_
            refine r_region ?_
            refine o_q _ rfl rfl rfl (v_ldW rfl Try.underlying28 rfl inf28 rfl rfl) ?_
            refine o_q _ rfl rfl rfl (v_move rfl rfl) ?_
            refine o_q _ rfl rfl rfl (OpQ.fn (spare_v B bo ro so bc rc sc (bk : Int) (by omega) (by omega) (by omega)) rfl rfl SubRC.sub) ?_
            refine o_q _ rfl rfl rfl (v_move rfl rfl) ?_
            refine o_q _ rfl rfl rfl (v_extract rfl rfl rfl) ?_
            refine o_q _ rfl rfl rfl (v_extract rfl rfl rfl) ?_
            refine o_q _ rfl rfl rfl (v_assign rfl rfl) ?_
            refine o_q _ rfl rfl rfl (v_assign rfl rfl) ?_
            refine o_nil ?_
            with_reducible refine r_then ?_
            refine r_seq ?_
            refine r_seq ?_
            refine r_region ?_
            refine o_q _ rfl rfl rfl (v_move rfl rfl) ?_
            refine o_q _ rfl rfl rfl (v_move rfl rfl) ?_
            refine o_q _ rfl rfl rfl (v_false (v_neq rfl rfl rfl) (by omega)) ?_
            all_goals
              refine o_q _ rfl rfl rfl (v_move rfl rfl) ?_
              refine o_g _ rfl rfl rfl rfl (v_move rfl rfl) ?_
              refine o_g _ rfl rfl rfl rfl (v_move rfl rfl) ?_
              refine o_g _ rfl rfl rfl rfl (v_false (v_neq rfl rfl rfl) (by omega)) ?_
              all_goals
                refine o_q _ rfl rfl rfl (v_pick_f rfl rfl rfl) ?_
                refine o_nil ?_
                with_reducible refine r_then ?_
                refine r_cond rfl (fun hc223 => ?_) (fun hc223 => ?_)
                ·
                  (exfalso; revert hc223; decide)
                ·
                  refine r_skip ?_
                  with_reducible refine r_then ?_
                  refine r_seq ?_
                  refine r_seq ?_
                  refine r_region ?_
                  refine o_q _ rfl rfl rfl (v_ldW rfl Try.underlying28 rfl inf28 rfl rfl) ?_
                  refine o_q _ rfl rfl rfl (v_ldW rfl Try.underlying28 rfl inf28 rfl rfl) ?_
                  refine o_q _ rfl rfl rfl (v_ldW rfl Try.underlying28 rfl inf28 rfl rfl) ?_
                  refine o_lit rfl Try.underlying63 inf28 rfl rfl rfl rfl rfl rfl rfl rfl (by repeat (first | exact trivial | refine ⟨rfl, ?_⟩)) (by rfl) (fun b227 => ?_)
                  refine o_q _ rfl rfl rfl (v_len rfl rfl Try.underlying63 rfl) ?_
                  refine o_q _ rfl rfl rfl (v_move rfl rfl) ?_
                  refine o_nil ?_
                  with_reducible refine r_then ?_
                  refine r_block ?_
                  refine r_loop (ι := Nat) (fun j => j ≤ 3) (fun j => [(4, pt b4 0), (9, i64 B.banks.length), (10, i64 bk), (11, i64 dy), (15, pt b15 0), (20, .slice o20 B.banks.length c20), (21, .slice o21 B.rain.length c21), (22, .slice o22 B.signs.length c22), (23, .func (.func 42) #[] #[]), (24, pt b24 0), (25, i64 (waterB B dy).2), (26, pt b26 0), (28, i64 ((movesB B dy).1.1 : Nat)), (29, i64 ((movesB B dy).1.2 : Nat)), (31, i64 (untilB B).1), (32, i64 (untilB B).2), (33, i64 (spareB B bk).1), (34, i64 (spareB B bk).2), (227, .slice (some ⟨b227, 0, none⟩) 3 3), (228, i64 3), (229, i64 j)]) (fun j => bx b24 24 [i64 (waterB B dy).1.lo, i64 (waterB B dy).1.hi] :: bx b26 24 [i64 (marginB B bk dy).1.lo, i64 (marginB B bk dy).1.hi] :: bx b15 28 (cellsB (turnB B) to_ ro uo tcap rc ucap) :: bx b4 28 (cellsB B bo ro so bc rc sc) :: M) (fun j => rowD (some ⟨b227, 0, none⟩) 6 encV [(⟨(addB B s0), bo, ro, xo, bc, rc, xc⟩ : BV), ⟨(yB B (decide (w1 % 2 = 0)) bk), (some ⟨yb, 0, none⟩), ro, so, ycap, rc, sc⟩, ⟨(zB B (decide (w1 % 2 = 0)) ri), bo, (some ⟨zb, 0, none⟩), so, bc, zcap, sc⟩] :: rowD o20 4 encB B.banks :: rowD o21 2 encS B.rain :: rowD o22 3 encG B.signs :: rowD to_ 4 encB (revB B B.banks.length) :: rowD uo 3 encG (revS B B.signs.length) :: rowD xo 3 encG (addB B s0).signs :: rowD (some ⟨yb, 0, none⟩) 4 encB (yB B (decide (w1 % 2 = 0)) bk).banks :: rowD (some ⟨zb, 0, none⟩) 2 encS (zB B (decide (w1 % 2 = 0)) ri).rain :: boxF b7 5 [.int .u8 w1] :: ([rowD bo 4 encB B.banks, rowD ro 2 encS B.rain, rowD so 3 encG B.signs] ++ Rf)) (fun j => 3 - j) 0 ?_ ?_ ?_
                  ·
                    refine Imp.sealB b227 ?_
                    refine Imp.rowN (b := b227) [(⟨(addB B s0), bo, ro, xo, bc, rc, xc⟩ : BV), ⟨(yB B (decide (w1 % 2 = 0)) bk), (some ⟨yb, 0, none⟩), ro, so, ycap, rc, sc⟩, ⟨(zB B (decide (w1 % 2 = 0)) ri), bo, (some ⟨zb, 0, none⟩), so, bc, zcap, sc⟩] encV_len rfl ?_
                    refine Imp.box_to b24 [i64 (waterB B dy).1.lo, i64 (waterB B dy).1.hi] rfl ?_
                    refine Imp.box_to b26 [i64 (marginB B bk dy).1.lo, i64 (marginB B bk dy).1.hi] rfl ?_
                    exact r_here (by repeat (first | exact FSub.nil | refine FSub.cons rfl ?_)) SelMC.sel SubRC.sub
                  ·
                    omega
                  ·
                    rintro j hI2
                    refine r_seq ?_
                    refine r_region ?_
                    refine o_q _ rfl rfl rfl (v_lss rfl rfl rfl) ?_
                    refine o_nil ?_
                    with_reducible refine r_then ?_
                    refine r_seq ?_
                    refine r_condd rfl (fun hc230 => ?_) (fun hc230 => ?_)
                    ·
                      refine r_skip ?_
                      with_reducible refine r_then ?_
                      refine r_seq ?_
                      refine r_block ?_
                      refine r_seq ?_
                      obtain ⟨Y, hY⟩ : ∃ Y, Y = [(⟨(addB B s0), bo, ro, xo, bc, rc, xc⟩ : BV), ⟨(yB B (decide (w1 % 2 = 0)) bk), (some ⟨yb, 0, none⟩), ro, so, ycap, rc, sc⟩, ⟨(zB B (decide (w1 % 2 = 0)) ri), bo, (some ⟨zb, 0, none⟩), so, bc, zcap, sc⟩].getD j default := ⟨_, rfl⟩
                      have hle : Less B Y.B := by rw [hY]; exact three (p := fun v => Less B v.B) (by omega) (less_add B s0) (less_y hg (decide (w1 % 2 = 0)) hk) (less_z hg (decide (w1 % 2 = 0)) hr)
                      have hsg : Y.B.signs.length ≤ 6 := by rw [hY]; exact three (p := fun v => v.B.signs.length ≤ 6) (by omega) (by show (addB B s0).signs.length ≤ 6; rw [add_signs, List.length_append]; show _ + 1 ≤ 6; omega) (by show (yB B (decide (w1 % 2 = 0)) bk).signs.length ≤ 6; rw [y_signs]; omega) (by show (zB B (decide (w1 % 2 = 0)) ri).signs.length ≤ 6; rw [z_signs]; omega)
                      have hnb := hle.nb
                      have hnr := hle.nr
                      refine Imp.derive (ψ := rowD Y.bo 4 encB Y.B.banks) ?_ (fun V hV => by rw [hY]; exact three (p := fun v => rowD v.bo 4 encB v.B.banks V) (by omega) (by show rowD bo 4 encB (addB B s0).banks V; rw [add_banks]; exact hV _ (by simp)) (hV (rowD (some ⟨yb, 0, none⟩) 4 encB (yB B (decide (w1 % 2 = 0)) bk).banks) (by simp)) (by show rowD bo 4 encB (zB B (decide (w1 % 2 = 0)) ri).banks V; rw [z_banks]; exact hV _ (by simp)))
                      refine Imp.derive (ψ := rowD Y.ro 2 encS Y.B.rain) ?_ (fun V hV => by rw [hY]; exact three (p := fun v => rowD v.ro 2 encS v.B.rain V) (by omega) (by show rowD ro 2 encS (addB B s0).rain V; rw [add_rain]; exact hV _ (by simp)) (by show rowD ro 2 encS (yB B (decide (w1 % 2 = 0)) bk).rain V; rw [y_rain]; exact hV _ (by simp)) (hV (rowD (some ⟨zb, 0, none⟩) 2 encS (zB B (decide (w1 % 2 = 0)) ri).rain) (by simp)))
                      refine Imp.derive (ψ := rowD Y.so 3 encG Y.B.signs) ?_ (fun V hV => by rw [hY]; exact three (p := fun v => rowD v.so 3 encG v.B.signs V) (by omega) (hV (rowD xo 3 encG (addB B s0).signs) (by simp)) (by show rowD so 3 encG (yB B (decide (w1 % 2 = 0)) bk).signs V; rw [y_signs]; exact hV _ (by simp)) (by show rowD so 3 encG (zB B (decide (w1 % 2 = 0)) ri).signs V; rw [z_signs]; exact hV _ (by simp)))
                      refine r_region ?_
                      refine o_q _ rfl rfl rfl (v_indexAddrSn rfl Try.underlying63 inf28 rfl rfl rfl (by show j < 3; omega) rfl) ?_
                      refine o_q _ rfl rfl rfl (v_cast (v := valB Y.B Y.bo Y.ro Y.so Y.bc Y.rc Y.sc) (v_loadEN rfl Try.underlying28 rfl inf28 rfl (by show j < 3; omega) rfl rfl rfl) (by rw [hY]; rfl)) ?_
                      refine o_alloc rfl inf28 rfl rfl rfl rfl rfl (fun b36 => ?_)
                      refine o_st rfl inf28 rfl rfl rfl rfl rfl rfl rfl rfl ?_
                      refine o_nil ?_
                      with_reducible refine r_then ?_
                      refine r_seq ?_
                      refine r_seq ?_
                      refine r_region ?_
                      refine o_q _ rfl rfl rfl (v_ldW rfl Try.underlying28 rfl inf28 rfl rfl) ?_
                      refine o_test rfl rfl rfl (OpQ.fn (Burst_v Y.B Y.bo Y.ro Y.so Y.bc Y.rc Y.sc (by omega) (by omega) (by omega)) rfl rfl SubRC.sub) (fun h234 => ?_) (fun h234 => ?_)
                      all_goals
                        refine o_q _ rfl rfl rfl (v_not rfl rfl) ?_
                        refine o_nil ?_
                        with_reducible refine r_then ?_
                        refine r_cond rfl (fun hc235 => ?_) (fun hc235 => ?_)
                        ·
                          first
                          | (exfalso; revert hc235; decide)
                          | skip
                            refine r_exit ?_
                            with_reducible refine r_then_exit ?_; refine r_in_here ?_; refine r_then ?_
                            refine r_region ?_
                            refine o_q _ rfl rfl rfl (v_add rfl rfl rfl (by omega)) ?_
                            refine o_q _ rfl rfl rfl (v_move rfl rfl) ?_
                            refine o_nil ?_
                            with_reducible refine r_then ?_
                            refine r_next (j + 1) ?_ ?_ ?_
                            ·
                              exact r_here (by repeat (first | exact FSub.nil | refine FSub.cons rfl ?_)) SelMC.sel SubRC.sub
                            ·
                              omega
                            ·
                              omega
                        ·
                          first
                          | (exfalso; revert hc235; decide)
                          | skip
                            refine r_skip ?_
                            with_reducible refine r_then ?_
                            refine r_seq ?_
                            have hgy : GoodB Y.B := by assumption
                            have hky := known_of hg hgy hle hk hd
                            have hy1 := hky.e1
                            have hy2 := hky.e2
                            have hy3 := hky.e3
                            have hy4 := hky.ok
                            have hy5 := hky.w
                            have hy6 := hky.m
                            have hy7 := hky.u
                            have hy8 := hky.c
                            refine r_region ?_
                            refine o_q _ rfl rfl rfl (v_ldW rfl Try.underlying28 rfl inf28 rfl rfl) ?_
                            refine o_q _ rfl rfl rfl (v_move rfl rfl) ?_
                            refine o_q _ rfl rfl rfl (OpQ.fn (water_v Y.B Y.bo Y.ro Y.so Y.bc Y.rc Y.sc (dy : Int) (by omega) (by omega) (by omega)) rfl rfl SubRC.sub) ?_
                            refine o_q _ rfl rfl rfl (v_move rfl rfl) ?_
                            refine o_q _ rfl rfl rfl (v_extract rfl rfl rfl) ?_
                            refine o_q _ rfl rfl rfl (v_extract rfl rfl rfl) ?_
                            refine o_alloc rfl inf24 rfl rfl rfl rfl rfl (fun b37 => ?_)
                            refine o_st rfl inf24 rfl rfl rfl rfl rfl rfl rfl rfl ?_
                            refine o_q _ rfl rfl rfl (v_assign rfl rfl) ?_
                            refine o_nil ?_
                            with_reducible refine r_then ?_
                            refine r_seq ?_
                            refine r_region ?_
                            refine o_q _ rfl rfl rfl (v_ldW rfl Try.underlying28 rfl inf28 rfl rfl) ?_
                            refine o_q _ rfl rfl rfl (v_move rfl rfl) ?_
                            refine o_q _ rfl rfl rfl (v_move rfl rfl) ?_
                            refine o_q _ rfl rfl rfl (OpQ.fn (Margin_v Y.B Y.bo Y.ro Y.so Y.bc Y.rc Y.sc (bk : Int) (dy : Int) (by omega) (by omega) (by omega)) rfl rfl SubRC.sub) ?_
                            refine o_q _ rfl rfl rfl (v_move rfl rfl) ?_
                            refine o_q _ rfl rfl rfl (v_extract rfl rfl rfl) ?_
                            refine o_q _ rfl rfl rfl (v_extract rfl rfl rfl) ?_
                            refine o_alloc rfl inf24 rfl rfl rfl rfl rfl (fun b39 => ?_)
                            refine o_st rfl inf24 rfl rfl rfl rfl rfl rfl rfl rfl ?_
                            refine o_q _ rfl rfl rfl (v_assign rfl rfl) ?_
                            refine o_nil ?_
                            with_reducible refine r_then ?_
                            refine r_seq ?_
                            refine r_region ?_
                            refine o_q _ rfl rfl rfl (v_ldW rfl Try.underlying28 rfl inf28 rfl rfl) ?_
                            refine o_q _ rfl rfl rfl (v_move rfl rfl) ?_
                            refine o_q _ rfl rfl rfl (OpQ.fn (moves_v Y.B Y.bo Y.ro Y.so Y.bc Y.rc Y.sc (dy : Int) (by omega) (by omega) (by omega)) rfl rfl SubRC.sub) ?_
                            refine o_q _ rfl rfl rfl (v_move rfl rfl) ?_
                            refine o_q _ rfl rfl rfl (v_extract rfl rfl rfl) ?_
                            refine o_q _ rfl rfl rfl (v_extract rfl rfl rfl) ?_
                            refine o_q _ rfl rfl rfl (v_extract rfl rfl rfl) ?_
                            refine o_q _ rfl rfl rfl (v_assign rfl rfl) ?_
                            refine o_q _ rfl rfl rfl (v_assign rfl rfl) ?_
                            refine o_q _ rfl rfl rfl (v_assign rfl rfl) ?_
                            refine o_nil ?_
                            with_reducible refine r_then ?_
                            refine r_seq ?_
                            refine r_region ?_
                            refine o_q _ rfl rfl rfl (v_ldW rfl Try.underlying28 rfl inf28 rfl rfl) ?_
                            refine o_q _ rfl rfl rfl (OpQ.fn (until_v Y.B Y.bo Y.ro Y.so Y.bc Y.rc Y.sc (by omega) (by omega) (by omega)) rfl rfl SubRC.sub) ?_
                            refine o_q _ rfl rfl rfl (v_move rfl rfl) ?_
                            refine o_q _ rfl rfl rfl (v_extract rfl rfl rfl) ?_
                            refine o_q _ rfl rfl rfl (v_extract rfl rfl rfl) ?_
                            refine o_q _ rfl rfl rfl (v_assign rfl rfl) ?_
                            refine o_q _ rfl rfl rfl (v_assign rfl rfl) ?_
                            refine o_nil ?_
                            with_reducible refine r_then ?_
                            refine r_seq ?_
                            refine r_region ?_
                            refine o_q _ rfl rfl rfl (v_ldW rfl Try.underlying28 rfl inf28 rfl rfl) ?_
                            refine o_q _ rfl rfl rfl (v_move rfl rfl) ?_
                            refine o_q _ rfl rfl rfl (OpQ.fn (spare_v Y.B Y.bo Y.ro Y.so Y.bc Y.rc Y.sc (bk : Int) (by omega) (by omega) (by omega)) rfl rfl SubRC.sub) ?_
                            refine o_q _ rfl rfl rfl (v_move rfl rfl) ?_
                            refine o_q _ rfl rfl rfl (v_extract rfl rfl rfl) ?_
                            refine o_q _ rfl rfl rfl (v_extract rfl rfl rfl) ?_
                            refine o_q _ rfl rfl rfl (v_assign rfl rfl) ?_
                            refine o_q _ rfl rfl rfl (v_assign rfl rfl) ?_
                            refine o_nil ?_
                            with_reducible refine r_then ?_
                            refine r_seq ?_
                            refine Imp.box_to b37 [i64 (waterB Y.B dy).1.lo, i64 (waterB Y.B dy).1.hi] rfl ?_
                            refine Imp.box_to b39 [i64 (marginB Y.B bk dy).1.lo, i64 (marginB Y.B bk dy).1.hi] rfl ?_
                            refine r_region ?_
                            refine o_q _ rfl rfl rfl (v_move rfl rfl) ?_
                            refine o_q _ rfl rfl rfl (v_move rfl rfl) ?_
                            refine o_q _ rfl rfl rfl (v_false (v_neq rfl rfl rfl) (by omega)) ?_
                            all_goals
                              refine o_q _ rfl rfl rfl (v_move rfl rfl) ?_
                              refine o_g _ rfl rfl rfl rfl (v_move rfl rfl) ?_
                              refine o_g _ rfl rfl rfl rfl (v_move rfl rfl) ?_
                              refine o_g _ rfl rfl rfl rfl (v_false (v_neq rfl rfl rfl) (by omega)) ?_
                              all_goals
                                refine o_q _ rfl rfl rfl (v_pick_f rfl rfl rfl) ?_
                                refine o_q _ rfl rfl rfl (v_move rfl rfl) ?_
                                refine o_g _ rfl rfl rfl rfl (v_move rfl rfl) ?_
                                refine o_gtest rfl rfl rfl rfl (v_neq rfl rfl rfl) (fun h277 => ?_) (fun h277 => ?_)
                                all_goals
                                  refine o_g _ rfl rfl rfl rfl (v_move rfl rfl) ?_
                                  first | refine o_gn rfl rfl rfl rfl ?_ | refine o_g _ rfl rfl rfl rfl (v_move rfl rfl) ?_
                                  first | refine o_gn rfl rfl rfl rfl ?_ | refine o_g _ rfl rfl rfl rfl (v_false (v_neq rfl rfl rfl) (by omega)) ?_
                                  all_goals
                                    first | refine o_g _ rfl rfl rfl rfl (v_pick_t rfl rfl rfl) ?_ | refine o_g _ rfl rfl rfl rfl (v_pick_f rfl rfl rfl) ?_
                                    refine o_q _ rfl rfl rfl (v_pick_f rfl rfl rfl) ?_
                                    refine o_q _ rfl rfl rfl (v_move rfl rfl) ?_
                                    refine o_g _ rfl rfl rfl rfl (v_move rfl rfl) ?_
                                    first | refine o_g _ rfl rfl rfl rfl (v_true (v_eql rfl rfl rfl) (by omega)) ?_ | refine o_g _ rfl rfl rfl rfl (v_false (v_eql rfl rfl rfl) (by omega)) ?_
                                    all_goals
                                      refine o_g _ rfl rfl rfl rfl (v_move rfl rfl) ?_
                                      first | refine o_gn rfl rfl rfl rfl ?_ | refine o_g _ rfl rfl rfl rfl (v_move rfl rfl) ?_
                                      first | refine o_gn rfl rfl rfl rfl ?_ | refine o_g _ rfl rfl rfl rfl (v_false (v_neq rfl rfl rfl) (by omega)) ?_
                                      all_goals
                                        first | refine o_gn rfl rfl rfl rfl ?_ | refine o_g _ rfl rfl rfl rfl (v_move rfl rfl) ?_
                                        first | refine o_gn rfl rfl rfl rfl ?_ | refine o_g _ rfl rfl rfl rfl (v_move rfl rfl) ?_
                                        first | refine o_gn rfl rfl rfl rfl ?_ | refine o_g _ rfl rfl rfl rfl (v_ldW rfl Try.underlying24 rfl inf24 rfl rfl) ?_
                                        first | refine o_gn rfl rfl rfl rfl ?_ | refine o_g _ rfl rfl rfl rfl (v_ldW rfl Try.underlying24 rfl inf24 rfl rfl) ?_
                                        first | refine o_gn rfl rfl rfl rfl ?_ | refine o_g _ rfl rfl rfl rfl (v_true (OpQ.call (in_v (waterB Y.B dy).1 (waterB B dy).1) rfl [] [] rfl rfl (by simp) SubRC.sub) (by omega)) ?_
                                        all_goals
                                          first | refine o_gn rfl rfl rfl rfl ?_ | refine o_g _ rfl rfl rfl rfl (v_not rfl rfl) ?_
                                          first | refine o_gn rfl rfl rfl rfl ?_ | refine o_g _ rfl rfl rfl rfl (v_pick_f rfl rfl rfl) ?_
                                          first | refine o_gn rfl rfl rfl rfl ?_ | refine o_g _ rfl rfl rfl rfl (v_move rfl rfl) ?_
                                          first | refine o_gn rfl rfl rfl rfl ?_ | refine o_g _ rfl rfl rfl rfl (v_move rfl rfl) ?_
                                          first | refine o_gn rfl rfl rfl rfl ?_ | refine o_g _ rfl rfl rfl rfl (v_ldW rfl Try.underlying24 rfl inf24 rfl rfl) ?_
                                          first | refine o_gn rfl rfl rfl rfl ?_ | refine o_g _ rfl rfl rfl rfl (v_ldW rfl Try.underlying24 rfl inf24 rfl rfl) ?_
                                          first | refine o_gn rfl rfl rfl rfl ?_ | refine o_g _ rfl rfl rfl rfl (v_true (OpQ.call (in_v (marginB Y.B bk dy).1 (marginB B bk dy).1) rfl [] [] rfl rfl (by simp) SubRC.sub) (by omega)) ?_
                                          all_goals
                                            first | refine o_gn rfl rfl rfl rfl ?_ | refine o_g _ rfl rfl rfl rfl (v_not rfl rfl) ?_
                                            first | refine o_gn rfl rfl rfl rfl ?_ | refine o_g _ rfl rfl rfl rfl (v_pick_f rfl rfl rfl) ?_
                                            first | refine o_gn rfl rfl rfl rfl ?_ | refine o_g _ rfl rfl rfl rfl (v_move rfl rfl) ?_
                                            first | refine o_gn rfl rfl rfl rfl ?_ | refine o_g _ rfl rfl rfl rfl (v_move rfl rfl) ?_
                                            first | refine o_gn rfl rfl rfl rfl ?_ | refine o_g _ rfl rfl rfl rfl (v_move rfl rfl) ?_
                                            first | refine o_gn rfl rfl rfl rfl ?_ | refine o_g _ rfl rfl rfl rfl (v_andNot0 (a := (movesB B dy).1.1) (b := (movesB Y.B dy).1.1) rfl rfl rfl (hky.s (by omega))) ?_
                                            first | refine o_gn rfl rfl rfl rfl ?_ | refine o_g _ rfl rfl rfl rfl (v_false (v_neq rfl rfl rfl) (by omega)) ?_
                                            all_goals
                                              first | refine o_gn rfl rfl rfl rfl ?_ | refine o_g _ rfl rfl rfl rfl (v_pick_f rfl rfl rfl) ?_
                                              first | refine o_gn rfl rfl rfl rfl ?_ | refine o_g _ rfl rfl rfl rfl (v_move rfl rfl) ?_
                                              first | refine o_gn rfl rfl rfl rfl ?_ | refine o_g _ rfl rfl rfl rfl (v_move rfl rfl) ?_
                                              first | refine o_gn rfl rfl rfl rfl ?_ | refine o_g _ rfl rfl rfl rfl (v_move rfl rfl) ?_
                                              first | refine o_gn rfl rfl rfl rfl ?_ | refine o_g _ rfl rfl rfl rfl (v_andNot0 (a := (movesB Y.B dy).1.2) (b := (movesB B dy).1.2) rfl rfl rfl (hky.p (by omega))) ?_
                                              first | refine o_gn rfl rfl rfl rfl ?_ | refine o_g _ rfl rfl rfl rfl (v_false (v_neq rfl rfl rfl) (by omega)) ?_
                                              all_goals
                                                first | refine o_gn rfl rfl rfl rfl ?_ | refine o_g _ rfl rfl rfl rfl (v_pick_f rfl rfl rfl) ?_
                                                first | refine o_gn rfl rfl rfl rfl ?_ | refine o_g _ rfl rfl rfl rfl (v_move rfl rfl) ?_
                                                first | refine o_gn rfl rfl rfl rfl ?_ | refine o_g _ rfl rfl rfl rfl (v_move rfl rfl) ?_
                                                first | refine o_gn rfl rfl rfl rfl ?_ | refine o_gtest rfl rfl rfl rfl (v_eql rfl rfl rfl) (fun h317 => ?_) (fun h317 => ?_)
                                                all_goals
                                                  first | refine o_gn rfl rfl rfl rfl ?_ | refine o_g _ rfl rfl rfl rfl (v_move rfl rfl) ?_
                                                  first | refine o_gn rfl rfl rfl rfl ?_ | refine o_g _ rfl rfl rfl rfl (v_move rfl rfl) ?_
                                                  first | refine o_gn rfl rfl rfl rfl ?_ | refine o_g _ rfl rfl rfl rfl (v_false (v_neq rfl rfl rfl) (by omega)) ?_
                                                  all_goals
                                                    first | refine o_gn rfl rfl rfl rfl ?_ | refine o_g _ rfl rfl rfl rfl (v_move rfl rfl) ?_
                                                    first | refine o_gn rfl rfl rfl rfl ?_ | refine o_g _ rfl rfl rfl rfl (v_move rfl rfl) ?_
                                                    first | refine o_gn rfl rfl rfl rfl ?_ | refine o_g _ rfl rfl rfl rfl (v_move rfl rfl) ?_
                                                    first | refine o_gn rfl rfl rfl rfl ?_ | refine o_g _ rfl rfl rfl rfl (v_false (v_lss rfl rfl rfl) (by omega)) ?_
                                                    all_goals
                                                      first | refine o_gn rfl rfl rfl rfl ?_ | refine o_g _ rfl rfl rfl rfl (v_pick_f rfl rfl rfl) ?_
                                                      first | refine o_gn rfl rfl rfl rfl ?_ | refine o_g _ rfl rfl rfl rfl (v_pick_t rfl rfl rfl) ?_ | refine o_g _ rfl rfl rfl rfl (v_pick_f rfl rfl rfl) ?_
                                                      first | refine o_gn rfl rfl rfl rfl ?_ | refine o_g _ rfl rfl rfl rfl (v_pick_f rfl rfl rfl) ?_
                                                      first | refine o_gn rfl rfl rfl rfl ?_ | refine o_g _ rfl rfl rfl rfl (v_move rfl rfl) ?_
                                                      first | refine o_gn rfl rfl rfl rfl ?_ | refine o_g _ rfl rfl rfl rfl (v_move rfl rfl) ?_
                                                      first | refine o_gn rfl rfl rfl rfl ?_ | refine o_gtest rfl rfl rfl rfl (v_eql rfl rfl rfl) (fun h330 => ?_) (fun h330 => ?_)
                                                      all_goals
                                                        first | refine o_gn rfl rfl rfl rfl ?_ | refine o_g _ rfl rfl rfl rfl (v_move rfl rfl) ?_
                                                        first | refine o_gn rfl rfl rfl rfl ?_ | refine o_g _ rfl rfl rfl rfl (v_move rfl rfl) ?_
                                                        first | refine o_gn rfl rfl rfl rfl ?_ | refine o_g _ rfl rfl rfl rfl (v_false (v_neq rfl rfl rfl) (by omega)) ?_
                                                        all_goals
                                                          first | refine o_gn rfl rfl rfl rfl ?_ | refine o_g _ rfl rfl rfl rfl (v_move rfl rfl) ?_
                                                          first | refine o_gn rfl rfl rfl rfl ?_ | refine o_g _ rfl rfl rfl rfl (v_move rfl rfl) ?_
                                                          first | refine o_gn rfl rfl rfl rfl ?_ | refine o_g _ rfl rfl rfl rfl (v_move rfl rfl) ?_
                                                          first | refine o_gn rfl rfl rfl rfl ?_ | refine o_g _ rfl rfl rfl rfl (v_false (v_lss rfl rfl rfl) (by omega)) ?_
                                                          all_goals
                                                            first | refine o_gn rfl rfl rfl rfl ?_ | refine o_g _ rfl rfl rfl rfl (v_pick_f rfl rfl rfl) ?_
                                                            first | refine o_gn rfl rfl rfl rfl ?_ | refine o_g _ rfl rfl rfl rfl (v_pick_t rfl rfl rfl) ?_ | refine o_g _ rfl rfl rfl rfl (v_pick_f rfl rfl rfl) ?_
                                                            first | refine o_gn rfl rfl rfl rfl ?_ | refine o_g _ rfl rfl rfl rfl (v_pick_f rfl rfl rfl) ?_
                                                            first | refine o_g _ rfl rfl rfl rfl (v_pick_t rfl rfl rfl) ?_ | refine o_g _ rfl rfl rfl rfl (v_pick_f rfl rfl rfl) ?_
                                                            refine o_q _ rfl rfl rfl (v_pick_f rfl rfl rfl) ?_
                                                            refine o_nil ?_
                                                            with_reducible refine r_then ?_
                                                            refine r_cond rfl (fun hc342 => ?_) (fun hc342 => ?_)
                                                            ·
                                                              (exfalso; revert hc342; decide)
                                                            ·
                                                              refine r_skip ?_
                                                              with_reducible refine r_in_normal ?_; refine r_then ?_
                                                              refine r_region ?_
                                                              refine o_q _ rfl rfl rfl (v_add rfl rfl rfl (by omega)) ?_
                                                              refine o_q _ rfl rfl rfl (v_move rfl rfl) ?_
                                                              refine o_nil ?_
                                                              with_reducible refine r_then ?_
                                                              refine r_next (j + 1) ?_ ?_ ?_
                                                              ·
                                                                exact r_here (by repeat (first | exact FSub.nil | refine FSub.cons rfl ?_)) SelMC.sel SubRC.sub
                                                              ·
                                                                omega
                                                              ·
                                                                omega
                    ·
                      refine r_exit ?_
                      with_reducible refine r_then_exit ?_; refine r_then_exit ?_; refine r_in_here ?_; refine r_then ?_
                      refine r_seq ?_
                      obtain ⟨tl1, tl2, tl3⟩ := turn_lens B
                      refine Imp.derive (ψ := rowD to_ 4 encB (turnB B).banks) ?_ (fun V hV => by rw [← revB_all]; exact hV (rowD to_ 4 encB (revB B B.banks.length)) (by simp))
                      refine Imp.derive (ψ := rowD uo 3 encG (turnB B).signs) ?_ (fun V hV => by rw [← revS_all]; exact hV (rowD uo 3 encG (revS B B.signs.length)) (by simp))
                      refine Imp.derive (ψ := rowD ro 2 encS (turnB B).rain) ?_ (fun V hV => by rw [turn_rain]; exact hV (rowD ro 2 encS B.rain) (by simp))
                      refine r_region ?_
                      refine o_q _ rfl rfl rfl (v_ldW rfl Try.underlying28 rfl inf28 rfl rfl) ?_
                      refine o_q _ rfl rfl rfl (v_move rfl rfl) ?_
                      refine o_q _ rfl rfl rfl (v_cast (v := .tuple #[vS (waterB B dy).1, i64 (waterB B dy).2]) (OpQ.fn (water_v (turnB B) to_ ro uo tcap rc ucap (dy : Int) (by omega) (by omega) (by omega)) rfl rfl SubRC.sub) (by rw [turn_water hg hd])) ?_
                      refine o_q _ rfl rfl rfl (v_move rfl rfl) ?_
                      refine o_q _ rfl rfl rfl (v_extract rfl rfl rfl) ?_
                      refine o_q _ rfl rfl rfl (v_extract rfl rfl rfl) ?_
                      refine o_alloc rfl inf24 rfl rfl rfl rfl rfl (fun b48 => ?_)
                      refine o_st rfl inf24 rfl rfl rfl rfl rfl rfl rfl rfl ?_
                      refine o_q _ rfl rfl rfl (v_assign rfl rfl) ?_
                      refine o_nil ?_
                      with_reducible refine r_then ?_
                      refine r_seq ?_
                      refine r_region ?_
                      refine o_q _ rfl rfl rfl (v_ldW rfl Try.underlying28 rfl inf28 rfl rfl) ?_
                      refine o_q _ rfl rfl rfl (v_move rfl rfl) ?_
                      refine o_q _ rfl rfl rfl (v_sub rfl rfl rfl (by omega)) ?_
                      refine o_q _ rfl rfl rfl (v_move rfl rfl) ?_
                      refine o_q _ rfl rfl rfl (v_cast (v := i64 ((B.banks.length - 1 - bk : Nat) : Int)) (v_sub rfl rfl rfl (by omega)) (congrArg (Value.int .i64) (by omega))) ?_
                      refine o_q _ rfl rfl rfl (v_move rfl rfl) ?_
                      refine o_q _ rfl rfl rfl (v_cast (v := .tuple #[vS (marginB B bk dy).1, i64 (marginB B bk dy).2]) (OpQ.fn (Margin_v (turnB B) to_ ro uo tcap rc ucap ((B.banks.length - 1 - bk : Nat) : Int) (dy : Int) (by omega) (by omega) (by omega)) rfl rfl SubRC.sub) (by rw [turn_margin hg hk hd])) ?_
                      refine o_q _ rfl rfl rfl (v_move rfl rfl) ?_
                      refine o_q _ rfl rfl rfl (v_extract rfl rfl rfl) ?_
                      refine o_q _ rfl rfl rfl (v_extract rfl rfl rfl) ?_
                      refine o_alloc rfl inf24 rfl rfl rfl rfl rfl (fun b50 => ?_)
                      refine o_st rfl inf24 rfl rfl rfl rfl rfl rfl rfl rfl ?_
                      refine o_q _ rfl rfl rfl (v_assign rfl rfl) ?_
                      refine o_nil ?_
                      with_reducible refine r_then ?_
                      refine r_seq ?_
                      refine r_region ?_
                      refine o_q _ rfl rfl rfl (v_ldW rfl Try.underlying28 rfl inf28 rfl rfl) ?_
                      refine o_q _ rfl rfl rfl (v_cast (v := .tuple #[i64 (untilB B).1, i64 (untilB B).2]) (OpQ.fn (until_v (turnB B) to_ ro uo tcap rc ucap (by omega) (by omega) (by omega)) rfl rfl SubRC.sub) (by rw [turn_until hg])) ?_
                      refine o_q _ rfl rfl rfl (v_move rfl rfl) ?_
                      refine o_q _ rfl rfl rfl (v_extract rfl rfl rfl) ?_
                      refine o_q _ rfl rfl rfl (v_extract rfl rfl rfl) ?_
                      refine o_q _ rfl rfl rfl (v_assign rfl rfl) ?_
                      refine o_q _ rfl rfl rfl (v_assign rfl rfl) ?_
                      refine o_nil ?_
                      with_reducible refine r_then ?_
                      refine r_seq ?_
                      refine r_region ?_
                      refine o_q _ rfl rfl rfl (v_ldW rfl Try.underlying28 rfl inf28 rfl rfl) ?_
                      refine o_q _ rfl rfl rfl (v_move rfl rfl) ?_
                      refine o_q _ rfl rfl rfl (v_sub rfl rfl rfl (by omega)) ?_
                      refine o_q _ rfl rfl rfl (v_move rfl rfl) ?_
                      refine o_q _ rfl rfl rfl (v_cast (v := i64 ((B.banks.length - 1 - bk : Nat) : Int)) (v_sub rfl rfl rfl (by omega)) (congrArg (Value.int .i64) (by omega))) ?_
                      refine o_q _ rfl rfl rfl (v_cast (v := .tuple #[i64 (spareB B bk).1, i64 (spareB B bk).2]) (OpQ.fn (spare_v (turnB B) to_ ro uo tcap rc ucap ((B.banks.length - 1 - bk : Nat) : Int) (by omega) (by omega) (by omega)) rfl rfl SubRC.sub) (by rw [turn_spare hg hk])) ?_
                      refine o_q _ rfl rfl rfl (v_move rfl rfl) ?_
                      refine o_q _ rfl rfl rfl (v_extract rfl rfl rfl) ?_
                      refine o_q _ rfl rfl rfl (v_extract rfl rfl rfl) ?_
                      refine o_q _ rfl rfl rfl (v_assign rfl rfl) ?_
                      refine o_q _ rfl rfl rfl (v_assign rfl rfl) ?_
                      refine o_nil ?_
                      with_reducible refine r_then ?_
                      refine r_seq ?_
                      refine r_seq ?_
                      refine r_region ?_
                      refine o_q _ rfl rfl rfl (v_ldW rfl Try.underlying24 rfl inf24 rfl rfl) ?_
                      refine o_q _ rfl rfl rfl (v_ldW rfl Try.underlying24 rfl inf24 rfl rfl) ?_
                      refine o_q _ rfl rfl rfl (v_cast (v := .bool false) (v_neP rfl rfl rfl guard24 (eq24 _ _ _ _)) (congrArg Value.bool (decide_eq_false (fun h => h rfl)))) ?_
                      refine o_q _ rfl rfl rfl (v_move rfl rfl) ?_
                      refine o_g _ rfl rfl rfl rfl (v_move rfl rfl) ?_
                      refine o_g _ rfl rfl rfl rfl (v_move rfl rfl) ?_
                      refine o_g _ rfl rfl rfl rfl (v_false (v_neq rfl rfl rfl) (by omega)) ?_
                      all_goals
                        refine o_q _ rfl rfl rfl (v_pick_f rfl rfl rfl) ?_
                        refine o_q _ rfl rfl rfl (v_move rfl rfl) ?_
                        refine o_g _ rfl rfl rfl rfl (v_ldW rfl Try.underlying24 rfl inf24 rfl rfl) ?_
                        refine o_g _ rfl rfl rfl rfl (v_ldW rfl Try.underlying24 rfl inf24 rfl rfl) ?_
                        refine o_g _ rfl rfl rfl rfl (v_cast (v := .bool false) (v_neP rfl rfl rfl guard24 (eq24 _ _ _ _)) (congrArg Value.bool (decide_eq_false (fun h => h rfl)))) ?_
                        refine o_q _ rfl rfl rfl (v_pick_f rfl rfl rfl) ?_
                        refine o_q _ rfl rfl rfl (v_move rfl rfl) ?_
                        refine o_g _ rfl rfl rfl rfl (v_move rfl rfl) ?_
                        refine o_g _ rfl rfl rfl rfl (v_move rfl rfl) ?_
                        refine o_g _ rfl rfl rfl rfl (v_false (v_neq rfl rfl rfl) (by omega)) ?_
                        all_goals
                          refine o_q _ rfl rfl rfl (v_pick_f rfl rfl rfl) ?_
                          refine o_q _ rfl rfl rfl (v_move rfl rfl) ?_
                          refine o_g _ rfl rfl rfl rfl (v_move rfl rfl) ?_
                          refine o_g _ rfl rfl rfl rfl (v_move rfl rfl) ?_
                          refine o_g _ rfl rfl rfl rfl (v_false (v_neq rfl rfl rfl) (by omega)) ?_
                          all_goals
                            refine o_q _ rfl rfl rfl (v_pick_f rfl rfl rfl) ?_
                            refine o_q _ rfl rfl rfl (v_move rfl rfl) ?_
                            refine o_g _ rfl rfl rfl rfl (v_move rfl rfl) ?_
                            refine o_g _ rfl rfl rfl rfl (v_move rfl rfl) ?_
                            refine o_g _ rfl rfl rfl rfl (v_false (v_neq rfl rfl rfl) (by omega)) ?_
                            all_goals
                              refine o_q _ rfl rfl rfl (v_pick_f rfl rfl rfl) ?_
                              refine o_q _ rfl rfl rfl (v_move rfl rfl) ?_
                              refine o_g _ rfl rfl rfl rfl (v_move rfl rfl) ?_
                              refine o_g _ rfl rfl rfl rfl (v_move rfl rfl) ?_
                              refine o_g _ rfl rfl rfl rfl (v_false (v_neq rfl rfl rfl) (by omega)) ?_
                              all_goals
                                refine o_q _ rfl rfl rfl (v_pick_f rfl rfl rfl) ?_
                                refine o_q _ rfl rfl rfl (v_move rfl rfl) ?_
                                refine o_g _ rfl rfl rfl rfl (v_move rfl rfl) ?_
                                refine o_g _ rfl rfl rfl rfl (v_move rfl rfl) ?_
                                refine o_g _ rfl rfl rfl rfl (v_false (v_neq rfl rfl rfl) (by omega)) ?_
                                all_goals
                                  refine o_q _ rfl rfl rfl (v_pick_f rfl rfl rfl) ?_
                                  refine o_nil ?_
                                  with_reducible refine r_then ?_
                                  refine r_cond rfl (fun hc411 => ?_) (fun hc411 => ?_)
                                  ·
                                    (exfalso; revert hc411; decide)
                                  ·
                                    refine r_skip ?_
                                    with_reducible refine r_then ?_
                                    refine r_seq ?_
                                    refine r_seq ?_
                                    refine r_region ?_
                                    refine o_q _ rfl rfl rfl (v_move rfl rfl) ?_
                                    refine o_q _ rfl rfl rfl (v_len rfl rfl Try.underlying22 rfl) ?_
                                    refine o_q _ rfl rfl rfl (v_move rfl rfl) ?_
                                    refine o_nil ?_
                                    with_reducible refine r_then ?_
                                    refine r_block ?_
                                    refine r_loop (ι := Nat) (fun q => q ≤ B.banks.length) (fun q => [(4, pt b4 0), (20, .slice o20 B.banks.length c20), (21, .slice o21 B.rain.length c21), (22, .slice o22 B.signs.length c22), (412, .slice o20 B.banks.length c20), (413, i64 B.banks.length), (414, i64 q)]) (fun q => bx b4 28 (cellsB B bo ro so bc rc sc) :: M) (fun q => rowD o20 4 encB B.banks :: rowD o21 2 encS B.rain :: rowD o22 3 encG B.signs :: ([rowD bo 4 encB B.banks, rowD ro 2 encS B.rain, rowD so 3 encG B.signs] ++ Rf)) (fun q => B.banks.length - q) 0 ?_ ?_ ?_
                                    ·
                                      exact r_here (by repeat (first | exact FSub.nil | refine FSub.cons rfl ?_)) SelMC.sel SubRC.sub
                                    ·
                                      omega
                                    ·
                                      rintro q hI3
                                      refine r_seq ?_
                                      refine r_region ?_
                                      refine o_q _ rfl rfl rfl (v_lss rfl rfl rfl) ?_
                                      refine o_nil ?_
                                      with_reducible refine r_then ?_
                                      refine r_seq ?_
                                      refine r_condd rfl (fun hc415 => ?_) (fun hc415 => ?_)
                                      ·
                                        refine r_skip ?_
                                        with_reducible refine r_then ?_
                                        refine r_seq ?_
                                        refine r_block ?_
                                        refine r_seq ?_
                                        refine r_region ?_
                                        refine o_q _ rfl rfl rfl (v_move rfl rfl) ?_
                                        refine o_q _ rfl rfl rfl (v_assign rfl rfl) ?_
                                        refine o_nil ?_
                                        with_reducible refine r_then ?_
                                        refine r_seq ?_
                                        refine r_region_q mixed (by kernel_rfl) ?_
                                        refine q_q _ rfl rfl rfl (v_move rfl rfl) ?_
                                        refine q_q _ rfl rfl rfl (v_move rfl rfl) ?_
                                        refine q_q _ rfl rfl rfl (v_indexAddrSn rfl Try.underlying22 inf58 rfl rfl rfl (by omega) rfl) ?_
                                        refine q_q _ rfl rfl rfl (v_cast (v := .agg #[i64 (B.banks.getD q default).blo, i64 (B.banks.getD q default).bhi, i64 (B.banks.getD q default).clo, i64 (B.banks.getD q default).chi]) (v_loadEN rfl Try.underlying58 rfl inf58 rfl (by omega) rfl rfl rfl) rfl) ?_
                                        refine q_q _ rfl rfl rfl (v_fieldAddr rfl Try.underlying28 inf22 rfl rfl rfl rfl) ?_
                                        refine q_q _ rfl rfl rfl (v_ld1 rfl Try.underlying22 rfl rfl rfl) ?_
                                        refine q_q _ rfl rfl rfl (v_move rfl rfl) ?_
                                        refine q_q _ rfl rfl rfl (v_indexAddrSn rfl Try.underlying22 inf58 rfl rfl rfl (by omega) rfl) ?_
                                        refine q_q _ rfl rfl rfl (v_cast (v := .agg #[i64 (B.banks.getD q default).blo, i64 (B.banks.getD q default).bhi, i64 (B.banks.getD q default).clo, i64 (B.banks.getD q default).chi]) (v_loadEN rfl Try.underlying58 rfl inf58 rfl (by omega) rfl rfl rfl) rfl) ?_
                                        refine q_q _ rfl rfl rfl (v_cast (v := .bool false) (v_neP rfl rfl rfl guard58 (eq58 _ _ _ _ _ _ _ _)) (congrArg Value.bool (decide_eq_false (fun h => h rfl)))) ?_
                                        refine q_nil ?_
                                        with_reducible refine r_then ?_
                                        refine r_cond rfl (fun hc426 => ?_) (fun hc426 => ?_)
                                        ·
                                          (exfalso; revert hc426; decide)
                                        ·
                                          refine r_skip ?_
                                          with_reducible refine r_in_normal ?_; refine r_then ?_
                                          refine r_region ?_
                                          refine o_q _ rfl rfl rfl (v_add rfl rfl rfl (by omega)) ?_
                                          refine o_q _ rfl rfl rfl (v_move rfl rfl) ?_
                                          refine o_nil ?_
                                          with_reducible refine r_then ?_
                                          refine r_next (q + 1) ?_ ?_ ?_
                                          ·
                                            exact r_here (by repeat (first | exact FSub.nil | refine FSub.cons rfl ?_)) SelMC.sel SubRC.sub
                                          ·
                                            omega
                                          ·
                                            omega
                                      ·
                                        refine r_exit ?_
                                        with_reducible refine r_then_exit ?_; refine r_then_exit ?_; refine r_in_here ?_; refine r_then ?_
                                        refine r_seq ?_
                                        refine r_seq ?_
                                        refine r_region ?_
                                        refine o_q _ rfl rfl rfl (v_move rfl rfl) ?_
                                        refine o_q _ rfl rfl rfl (v_len rfl rfl Try.underlying25 rfl) ?_
                                        refine o_q _ rfl rfl rfl (v_move rfl rfl) ?_
                                        refine o_nil ?_
                                        with_reducible refine r_then ?_
                                        refine r_block ?_
                                        refine r_loop (ι := Nat) (fun q => q ≤ B.rain.length) (fun q => [(4, pt b4 0), (20, .slice o20 B.banks.length c20), (21, .slice o21 B.rain.length c21), (22, .slice o22 B.signs.length c22), (428, .slice o21 B.rain.length c21), (429, i64 B.rain.length), (430, i64 q)]) (fun q => bx b4 28 (cellsB B bo ro so bc rc sc) :: M) (fun q => rowD o20 4 encB B.banks :: rowD o21 2 encS B.rain :: rowD o22 3 encG B.signs :: ([rowD bo 4 encB B.banks, rowD ro 2 encS B.rain, rowD so 3 encG B.signs] ++ Rf)) (fun q => B.rain.length - q) 0 ?_ ?_ ?_
                                        ·
                                          exact r_here (by repeat (first | exact FSub.nil | refine FSub.cons rfl ?_)) SelMC.sel SubRC.sub
                                        ·
                                          omega
                                        ·
                                          rintro q hI4
                                          refine r_seq ?_
                                          refine r_region ?_
                                          refine o_q _ rfl rfl rfl (v_lss rfl rfl rfl) ?_
                                          refine o_nil ?_
                                          with_reducible refine r_then ?_
                                          refine r_seq ?_
                                          refine r_condd rfl (fun hc431 => ?_) (fun hc431 => ?_)
                                          ·
                                            refine r_skip ?_
                                            with_reducible refine r_then ?_
                                            refine r_seq ?_
                                            refine r_block ?_
                                            refine r_seq ?_
                                            refine r_region ?_
                                            refine o_q _ rfl rfl rfl (v_move rfl rfl) ?_
                                            refine o_q _ rfl rfl rfl (v_assign rfl rfl) ?_
                                            refine o_nil ?_
                                            with_reducible refine r_then ?_
                                            refine r_seq ?_
                                            refine r_region_q mixed (by kernel_rfl) ?_
                                            refine q_q _ rfl rfl rfl (v_move rfl rfl) ?_
                                            refine q_q _ rfl rfl rfl (v_move rfl rfl) ?_
                                            refine q_q _ rfl rfl rfl (v_indexAddrSn rfl Try.underlying25 inf24 rfl rfl rfl (by omega) rfl) ?_
                                            refine q_q _ rfl rfl rfl (v_cast (v := .agg #[i64 (B.rain.getD q default).lo, i64 (B.rain.getD q default).hi]) (v_loadEN rfl Try.underlying24 rfl inf24 rfl (by omega) rfl rfl rfl) rfl) ?_
                                            refine q_q _ rfl rfl rfl (v_fieldAddr rfl Try.underlying28 inf25 rfl rfl rfl rfl) ?_
                                            refine q_q _ rfl rfl rfl (v_ld1 rfl Try.underlying25 rfl rfl rfl) ?_
                                            refine q_q _ rfl rfl rfl (v_move rfl rfl) ?_
                                            refine q_q _ rfl rfl rfl (v_indexAddrSn rfl Try.underlying25 inf24 rfl rfl rfl (by omega) rfl) ?_
                                            refine q_q _ rfl rfl rfl (v_cast (v := .agg #[i64 (B.rain.getD q default).lo, i64 (B.rain.getD q default).hi]) (v_loadEN rfl Try.underlying24 rfl inf24 rfl (by omega) rfl rfl rfl) rfl) ?_
                                            refine q_q _ rfl rfl rfl (v_cast (v := .bool false) (v_neP rfl rfl rfl guard24 (eq24 _ _ _ _)) (congrArg Value.bool (decide_eq_false (fun h => h rfl)))) ?_
                                            refine q_nil ?_
                                            with_reducible refine r_then ?_
                                            refine r_cond rfl (fun hc442 => ?_) (fun hc442 => ?_)
                                            ·
                                              (exfalso; revert hc442; decide)
                                            ·
                                              refine r_skip ?_
                                              with_reducible refine r_in_normal ?_; refine r_then ?_
                                              refine r_region ?_
                                              refine o_q _ rfl rfl rfl (v_add rfl rfl rfl (by omega)) ?_
                                              refine o_q _ rfl rfl rfl (v_move rfl rfl) ?_
                                              refine o_nil ?_
                                              with_reducible refine r_then ?_
                                              refine r_next (q + 1) ?_ ?_ ?_
                                              ·
                                                exact r_here (by repeat (first | exact FSub.nil | refine FSub.cons rfl ?_)) SelMC.sel SubRC.sub
                                              ·
                                                omega
                                              ·
                                                omega
                                          ·
                                            refine r_exit ?_
                                            with_reducible refine r_then_exit ?_; refine r_then_exit ?_; refine r_in_here ?_; refine r_then ?_
                                            refine r_seq ?_
                                            refine r_seq ?_
                                            refine r_region ?_
                                            refine o_q _ rfl rfl rfl (v_move rfl rfl) ?_
                                            refine o_q _ rfl rfl rfl (v_len rfl rfl Try.underlying26 rfl) ?_
                                            refine o_q _ rfl rfl rfl (v_move rfl rfl) ?_
                                            refine o_nil ?_
                                            with_reducible refine r_then ?_
                                            refine r_block ?_
                                            refine r_loop (ι := Nat) (fun q => q ≤ B.signs.length) (fun q => [(4, pt b4 0), (20, .slice o20 B.banks.length c20), (21, .slice o21 B.rain.length c21), (22, .slice o22 B.signs.length c22), (444, .slice o22 B.signs.length c22), (445, i64 B.signs.length), (446, i64 q)]) (fun q => bx b4 28 (cellsB B bo ro so bc rc sc) :: M) (fun q => rowD o20 4 encB B.banks :: rowD o21 2 encS B.rain :: rowD o22 3 encG B.signs :: ([rowD bo 4 encB B.banks, rowD ro 2 encS B.rain, rowD so 3 encG B.signs] ++ Rf)) (fun q => B.signs.length - q) 0 ?_ ?_ ?_
                                            ·
                                              exact r_here (by repeat (first | exact FSub.nil | refine FSub.cons rfl ?_)) SelMC.sel SubRC.sub
                                            ·
                                              omega
                                            ·
                                              rintro q hI5
                                              refine r_seq ?_
                                              refine r_region ?_
                                              refine o_q _ rfl rfl rfl (v_lss rfl rfl rfl) ?_
                                              refine o_nil ?_
                                              with_reducible refine r_then ?_
                                              refine r_seq ?_
                                              refine r_condd rfl (fun hc447 => ?_) (fun hc447 => ?_)
                                              ·
                                                refine r_skip ?_
                                                with_reducible refine r_then ?_
                                                refine r_seq ?_
                                                refine r_block ?_
                                                refine r_seq ?_
                                                refine r_region ?_
                                                refine o_q _ rfl rfl rfl (v_move rfl rfl) ?_
                                                refine o_q _ rfl rfl rfl (v_assign rfl rfl) ?_
                                                refine o_nil ?_
                                                with_reducible refine r_then ?_
                                                refine r_seq ?_
                                                refine r_region_q mixed (by kernel_rfl) ?_
                                                refine q_q _ rfl rfl rfl (v_move rfl rfl) ?_
                                                refine q_q _ rfl rfl rfl (v_move rfl rfl) ?_
                                                refine q_q _ rfl rfl rfl (v_indexAddrSn rfl Try.underlying26 inf55 rfl rfl rfl (by omega) rfl) ?_
                                                refine q_q _ rfl rfl rfl (v_cast (v := .agg #[i64 (B.signs.getD q default).kind, i64 (B.signs.getD q default).bank, i64 (B.signs.getD q default).day]) (v_loadEN rfl Try.underlying55 rfl inf55 rfl (by omega) rfl rfl rfl) rfl) ?_
                                                refine q_q _ rfl rfl rfl (v_fieldAddr rfl Try.underlying28 inf26 rfl rfl rfl rfl) ?_
                                                refine q_q _ rfl rfl rfl (v_ld1 rfl Try.underlying26 rfl rfl rfl) ?_
                                                refine q_q _ rfl rfl rfl (v_move rfl rfl) ?_
                                                refine q_q _ rfl rfl rfl (v_indexAddrSn rfl Try.underlying26 inf55 rfl rfl rfl (by omega) rfl) ?_
                                                refine q_q _ rfl rfl rfl (v_cast (v := .agg #[i64 (B.signs.getD q default).kind, i64 (B.signs.getD q default).bank, i64 (B.signs.getD q default).day]) (v_loadEN rfl Try.underlying55 rfl inf55 rfl (by omega) rfl rfl rfl) rfl) ?_
                                                refine q_q _ rfl rfl rfl (v_cast (v := .bool false) (v_neP rfl rfl rfl guard55 (eq55 _ _ _ _ _ _)) (congrArg Value.bool (decide_eq_false (fun h => h rfl)))) ?_
                                                refine q_nil ?_
                                                with_reducible refine r_then ?_
                                                refine r_cond rfl (fun hc458 => ?_) (fun hc458 => ?_)
                                                ·
                                                  (exfalso; revert hc458; decide)
                                                ·
                                                  refine r_skip ?_
                                                  with_reducible refine r_in_normal ?_; refine r_then ?_
                                                  refine r_region ?_
                                                  refine o_q _ rfl rfl rfl (v_add rfl rfl rfl (by omega)) ?_
                                                  refine o_q _ rfl rfl rfl (v_move rfl rfl) ?_
                                                  refine o_nil ?_
                                                  with_reducible refine r_then ?_
                                                  refine r_next (q + 1) ?_ ?_ ?_
                                                  ·
                                                    exact r_here (by repeat (first | exact FSub.nil | refine FSub.cons rfl ?_)) SelMC.sel SubRC.sub
                                                  ·
                                                    omega
                                                  ·
                                                    omega
                                              ·
                                                refine r_exit ?_
                                                with_reducible refine r_then_exit ?_; refine r_then_exit ?_; refine r_in_here ?_; refine r_then ?_
                                                refine r_seq ?_
                                                refine r_region ?_
                                                refine o_q _ rfl rfl rfl (OpQ.fn awake_v rfl rfl SubRC.sub) ?_
                                                refine o_q _ rfl rfl rfl (v_assign rfl rfl) ?_
                                                refine o_nil ?_
                                                with_reducible refine r_then ?_
                                                refine r_ret ?_
                                                exact r_retv2 (Rd.tmp rfl rfl) rfl SelMC.sel SubRC.sub
theorem mores_v (s0 : Sign) (w0 w1 : Nat) (b0 : w0 ≤ 255) (b1 : w1 ≤ 255) : FnV Try.prog 11 [valB B bo ro so bc rc sc, .agg #[i64 s0.kind, i64 s0.bank, i64 s0.day], .int .u8 w0, .int .u8 w1] [rowD bo 4 encB B.banks, rowD ro 2 encS B.rain, rowD so 3 encG B.signs] (.bool true) := by
  by_cases hn : ¬ farB B ∧ GoodB B
  · exact more_yes B bo ro so bc rc sc s0 w0 w1 b0 b1 _ _ _ rfl rfl rfl hn.1 hn.2
  · exact more_no B bo ro so bc rc sc s0 w0 w1 b0 b1 hn
end Go.Proofs.Ytoggggnlponfhaa

